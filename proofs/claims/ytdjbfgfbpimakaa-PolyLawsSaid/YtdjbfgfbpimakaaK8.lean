/- Contracts of numbers and fractions in the small machine's words. What is reckoned with fractions, in the small machine's words. The reference's FParse, in the small machine's words. NumFracs: the law's walk, in the small machine's words. Fractions as rationals: what the program and the reference reckon with them. -/
import Derived.Test.YtdjbfgfbpimakaaK7
import Derived.Test.YtdjbfgfbpimakaaFrGx
import Derived.Test.YtdjbfgfbpimakaaK4
import Derived.Test.YtdjbfgfbpimakaaK1
section
namespace Go.Proofs.Ytdjbfgfbpimakaa.M
open Go.RowKit
set_option linter.unusedVariables false
theorem fsm {a:Int} {n:Nat} (h:Bt a n) (hn:n≤2048000000000):Sm a:=h.sm (by omega)
theorem fsm9 {a:Int} {n:Nat} (h:Bt a n) (hn:n≤4147200000000):Sm a:=h.sm (by omega)
theorem psm {a:Int} {n:Nat} (h:Bt a n) (hn:n≤2048000000000):Sm (a-1):=(bt_pred h).sm (by omega)
theorem cParse (t:List UInt8) (hs:t.length≤9223372036854775807):Con Try.prog AN 20 [.str t] (.tup [encFI (fracR t).1 (fracR t).2.1,flt (fracR t).2.2.1 (fracR t).2.2.2]):=con1 fun base w v1 hav h1=>by
 cases str_V h1
 exact (parseFrac_any t w hs).mono fun e w' ⟨x,y,h1,h2,h3,h4⟩=>⟨_,h1,fun _ hav=>tup2_V (V_encFI h2 h3 hav) (V_flt _ _),h4⟩
theorem cIMul (a b:Int) (n:Nat) (ba:Bt a n) (bb:Bt b n) (hn:n≤4147200000000):Con Try.prog AN 63 [encI (a),encI (b)] (encI (a*b)):=con2 fun base w v0 v1 hav h0 h1=>by
 obtain⟨x,rfl,hx⟩:=encI_V h0 (fsm9 ba hn)
 obtain⟨y,rfl,hy⟩:=encI_V h1 (fsm9 bb hn)
 exact (mul_any x y a b w hx hy ((ba.mul bb).sm (by omega))).mono fun e w' ⟨x,h1,h2,h3⟩=>⟨_,h1,fun _ hav=>V_encI h2 hav,h3⟩
theorem cText (a b:Int) (n:Nat) (ba:Bt a n) (bb:Bt b n) (hn:n≤2048000000000):Con Try.prog AN 10 [encFI (a) (b)] (.str (frText a b)):=con1 fun base w v0 hav h0=>by
 obtain⟨x,y,rfl,hx,hy⟩:=encFI_V h0 (fsm ba hn) (psm bb hn)
 exact (ftext_any x y a b w hx hy (fsm bb hn)).mono fun e w' h=>⟨_,h.1,fun _ _=>V_str _,h.2⟩
theorem cParts (a b:Int) (n:Nat) (ba:Bt a n) (bb:Bt b n) (hn:n≤2048000000000):Con Try.prog AN 66 [encFI (a) (b)] (.tup [encI a,encI b]):=con1 fun base w v0 hav h0=>by
 obtain⟨x,y,rfl,hx,hy⟩:=encFI_V h0 (fsm ba hn) (psm bb hn)
 exact (parts_any x y a b w hx hy (fsm bb hn)).mono fun e w' ⟨x,y,h1,h2,h3,h4⟩=>⟨_,h1,fun _ hav=>tup2_V (V_encI h2 hav) (V_encI h3 hav),h4⟩
theorem cWhole (a:Int) (n:Nat) (ba:Bt a n) (hn:n≤2048000000000):Con Try.prog AN 37 [encI (a)] (encFI a 1):=con1 fun base w v0 hav h0=>by
 obtain⟨x,rfl,hx⟩:=encI_V h0 (fsm ba hn)
 exact (whole_any x a w hx).mono fun e w' ⟨x,y,h1,h2,h3,h4⟩=>⟨_,h1,fun _ hav=>V_encFI h2 h3 hav,h4⟩
theorem cQuo0 (a b c d:Int) (n:Nat) (ba:Bt a n) (bb:Bt b n) (bc:Bt c n) (bd:Bt d n) (hn:n≤2048000000000):Con Try.prog AN 50 [encFI (a) (b),encFI (0) (d)] (.tup [encFI 0 1,flt 4 0]):=con2 fun base w v0 v1 hav h0 h1=>by
 obtain⟨x,y,rfl,hx,hy⟩:=encFI_V h0 (fsm ba hn) (psm bb hn)
 obtain⟨u,v,rfl,hu,hv⟩:=encFI_V h1 (bt_zero 0 |>.sm (by omega)) (psm bd hn)
 exact (fquo_zero x y u v a b d w hx hy hu hv).mono fun e w' ⟨x,y,h1,h2,h3,h4⟩=>⟨_,h1,fun _ hav=>tup2_V (V_encFI h2 h3 hav) (V_flt _ _),h4⟩
theorem cQuo (a b c d:Int) (n:Nat) (ba:Bt a n) (bb:Bt b n) (bc:Bt c n) (bd:Bt d n) (hn:n≤2048000000000) (hb:0<b) (hc:c≠0):Con Try.prog AN 50 [encFI (a) (b),encFI (c) (d)] (.tup [encFI (frN (a*d) (b*c)) (frD (a*d) (b*c)),flt 0 0]):=con2 fun base w v0 v1 hav h0 h1=>by
 obtain⟨x,y,rfl,hx,hy⟩:=encFI_V h0 (fsm ba hn) (psm bb hn)
 obtain⟨u,v,rfl,hu,hv⟩:=encFI_V h1 (fsm bc hn) (psm bd hn)
 exact (fquo_any x y u v a b c d n w hx hy hu hv ba bb bc bd hn hb hc).mono fun e w' ⟨x,y,h1,h2,h3,h4⟩=>⟨_,h1,fun _ hav=>tup2_V (V_encFI h2 h3 hav) (V_flt _ _),h4⟩
theorem cIAdd (a b:Int) (n:Nat) (ba:Bt a n) (bb:Bt b n) (hn:n≤4147200000000):Con Try.prog AN 83 [encI (a),encI (b)] (encI (a+b)):=con2 fun base w v0 v1 hav h0 h1=>by
 obtain⟨x,rfl,hx⟩:=encI_V h0 (fsm9 ba hn)
 obtain⟨y,rfl,hy⟩:=encI_V h1 (fsm9 bb hn)
 exact (add_any x y a b w hx hy ((ba.add bb).sm (by omega))).mono fun e w' ⟨x,h1,h2,h3⟩=>⟨_,h1,fun _ hav=>V_encI h2 hav,h3⟩
theorem cICmp (a b:Int) (n:Nat) (ba:Bt a n) (bb:Bt b n) (hn:n≤4147200000000):Con Try.prog AN 64 [encI (a),encI (b)] (.int .i64 (cmpZ a b)):=con2 fun base w v0 v1 hav h0 h1=>by
 obtain⟨x,rfl,hx⟩:=encI_V h0 (fsm9 ba hn)
 obtain⟨y,rfl,hy⟩:=encI_V h1 (fsm9 bb hn)
 exact (cmp_any x y a b w hx hy).mono fun e w' h=>⟨_,h.1,fun _ _ => .int _ _,h.2⟩
theorem cINeg (a:Int) (n:Nat) (ba:Bt a n) (hn:n≤4147200000000):Con Try.prog AN 80 [encI (a)] (encI (-a)):=con1 fun base w v0 hav h0=>by
 obtain⟨x,rfl,hx⟩:=encI_V h0 (fsm9 ba hn)
 exact (neg_any x a w hx).mono fun e w' ⟨x,h1,h2,h3⟩=>⟨_,h1,fun _ hav=>V_encI h2 hav,h3⟩
theorem cISign (a:Int) (n:Nat) (ba:Bt a n) (hn:n≤4147200000000):Con Try.prog AN 43 [encI (a)] (.int .i64 (sgnZ a)):=con1 fun base w v0 hav h0=>by
 obtain⟨x,rfl,hx⟩:=encI_V h0 (fsm9 ba hn)
 exact (sign_any x a w hx).mono fun e w' h=>⟨_,h.1,fun _ _ => .int _ _,h.2⟩
theorem cBelow (a b:Int) (n:Nat) (ba:Bt a n) (bb:Bt b n) (hn:n≤2048000000000):Con Try.prog AN 45 [encFI (a) (b)] (encI b):=con1 fun base w v0 hav h0=>by
 obtain⟨x,y,rfl,hx,hy⟩:=encFI_V h0 (fsm ba hn) (psm bb hn)
 exact (below_any x y a b w hx hy (fsm bb hn)).mono fun e w' ⟨x,h1,h2,h3⟩=>⟨_,h1,fun _ hav=>V_encI h2 hav,h3⟩
theorem cLowest (a b:Int) (n:Nat) (ba:Bt a n) (bb:Bt b n) (hn:n≤4147200000000) (hb0:b≠0):Con Try.prog AN 59 [encI (a),encI (b)] (encFI (frN a b) (frD a b)):=con2 fun base w v0 v1 hav h0 h1=>by
 obtain⟨x,rfl,hx⟩:=encI_V h0 (fsm9 ba hn)
 obtain⟨y,rfl,hy⟩:=encI_V h1 (fsm9 bb hn)
 exact (lowest_any x y a b n w hx hy ba bb hn hb0).mono fun e w' ⟨x,y,h1,h2,h3,h4⟩=>⟨_,h1,fun _ hav=>V_encFI h2 h3 hav,h4⟩
set_option linter.defProp false
def hI (z:Int):D:=.bool (decide (z<0))
def lI (z:Int):D:=.list 116 1 ((digs 4294967296 z.natAbs).map (D.int .u32))
def hZ (z:Int):D:=.bool (decide (z<0))
def lZ (z:Int):D:=.list 3 1 ((digs 10000 z.natAbs).map (D.int .i64))
theorem one_hI (z:Int):(hI z).one=true:=rfl
theorem one_lI (z:Int):(lI z).one=true:=rfl
theorem one_hZ (z:Int):(hZ z).one=true:=rfl
theorem one_lZ (z:Int):(lZ z).one=true:=rfl
theorem cells_I (z:Int):(encI z).cells=[hI z,lI z]:=rfl
theorem cells_Z (z:Int):(encZ z).cells=[hZ z,lZ z]:=rfl
theorem cells_FI (a b:Int):(encFI a b).cells=[hI a,lI a,hI (b-1),lI (b-1)]:=rfl
theorem cells_FZ (a b:Int):(encFZ a b).cells=[hZ a,lZ a,hZ b,lZ b]:=rfl
theorem isAgg_I (z:Int):(encI z).isAgg=true:=rfl
theorem isAgg_Z (z:Int):(encZ z).isAgg=true:=rfl
theorem isAgg_FI (a b:Int):(encFI a b).isAgg=true:=rfl
theorem isAgg_FZ (a b:Int):(encFZ a b).isAgg=true:=rfl
theorem fold_Z (z:Int):D.agg [hZ z,lZ z]=encZ z:=rfl
theorem fold_FZ (a b:Int):D.agg [hZ a,lZ a,hZ b,lZ b]=encFZ a b:=rfl
theorem fold_FZ0 (b:Int):D.agg [.bool false,.list 3 1 [],hZ b,lZ b]=encFZ 0 b:=by
 have e:digs 10000 0=[]:=by rw[digs];simp
 unfold encFZ
 rw[show (0:Int).natAbs=0 from rfl,e]
 rfl
theorem part_Z0 (a b:Int):(encFZ a b).part 0 2 true=some (encZ a):=rfl
theorem part_Z2 (a b:Int):(encFZ a b).part 2 2 true=some (encZ b):=rfl
theorem bt_one' (n:Nat) (h:n≠0):Bt 1 n:=by unfold Bt;exact Nat.one_lt_two_pow h
theorem bt_one:Bt 1 4000:=bt_one' 4000 (by omega)
theorem drop_all (t:List UInt8) (k:Nat):(t.drop k).take (t.length-k)=t.drop k:=List.take_of_length_le (by simp)
theorem drop_all1 (t:List UInt8) (k:Nat):(t.drop (k+1)).take (t.length-k-1)=t.drop (k+1):=List.take_of_length_le (by simp;omega)
theorem byt_e (t:List UInt8) (i:Nat):(((t.getD i 0).toNat:Nat):Int)=(byt t i:Int):=rfl
def csN:=And.intro @one_hI (And.intro @one_lI (And.intro @one_hZ (And.intro @one_lZ (And.intro @cells_I (And.intro @cells_Z (And.intro @cells_FI (And.intro @cells_FZ (And.intro @isAgg_I (And.intro @isAgg_Z (And.intro @isAgg_FI (And.intro @isAgg_FZ (And.intro @fold_Z (And.intro @fold_FZ (And.intro @fold_FZ0 (And.intro @part_Z0 (And.intro @part_Z2 (And.intro @drop_all (And.intro @drop_all1 (@byt_e)))))))))))))))))))
def csM:=And.intro csN (And.intro @AV.mk.eq_1 (And.intro @pureL.eq_1 (And.intro @pureL.eq_2 (And.intro @AV.pure.eq_1 (And.intro @AV.pure.eq_2 (And.intro @AV.pure.eq_3 (And.intro @AV.pure.eq_4 (And.intro @fillA.eq_1 (And.intro @fillA.eq_2 (And.intro @flt.eq_1 (And.intro @AV.get.eq_1 (And.intro @AV.part.eq_1 (And.intro @AV.part.eq_2 (And.intro @D.part.eq_1 (@partD.eq_1)))))))))))))))
end Go.Proofs.Ytdjbfgfbpimakaa.M
end

section
namespace Go.Proofs.Ytdjbfgfbpimakaa.M
open Go.RowKit
set_option linter.unusedSimpArgs false
set_option linter.unusedVariables false
theorem fold_I (z:Int):D.agg [hI z,lI z]=encI z:=rfl
theorem fold_FI (a b:Int):D.agg [hI a,lI a,hI (b-1),lI (b-1)]=encFI a b:=rfl
set_option maxHeartbeats 2000000 in
theorem cAdd (a b c d:Int) (n:Nat) (ba:Bt a n) (bb:Bt b n) (bc:Bt c n) (bd:Bt d n) (hn:n≤2048000000000) (hb:0<b) (hd:0<d):Con Try.prog AN 65 [encFI a b,encFI c d] (encFI (frN (a*d+c*b) (b*d)) (frD (a*d+c*b) (b*d))):=by
 have h1:Bt (a*d) (n+n):=ba.mul bd
 have h2:Bt (c*b) (n+n):=bc.mul bb
 have h3:Bt (a*d+c*b) (n+n+1):=h1.add h2
 have h4:Bt (b*d) (n+n+1):=(bb.mul bd).mono (by omega)
 have h5:b*d≠0:=Int.ne_of_gt (Int.mul_pos hb hd)
 refine fn65.con rfl (by simp) ?_
 simp only[c65,c65_14,c65_1,l65_0,init2,cw,csW,cops,reduceCtorEq,csM,Nat.reduceAdd,Nat.reduceEqDiff]
 refine keep [2,3,4] ?_
 simp only[c65_13,c65_12,l65_2,csW,reduceCtorEq,Nat.reduceEqDiff,cw,cops,csM,Nat.reduceAdd,fold_FI]
 refine⟨_,cBelow c d n bc bd hn,?_⟩
 simp only[l65_3,cops,csW,csM,Nat.reduceLT,Nat.reduceEqDiff,Nat.reduceAdd,fold_FI,Nat.reduceLeDiff,fold_I]
 refine⟨_,cIMul a d n ba bd (by omega),?_⟩
 simp only[l65_4,cops,csW,Nat.reduceEqDiff]
 refine⟨_,cBelow a b n ba bb hn,?_⟩
 simp only[l65_5,cops,csW,csM,Nat.reduceLT,Nat.reduceEqDiff,Nat.reduceAdd,Nat.reduceLeDiff,fold_I]
 refine⟨_,cIMul c b n bc bb (by omega),?_⟩
 simp only[l65_6,cops,csW,Nat.reduceEqDiff]
 refine⟨_,cIAdd _ _ (n+n) h1 h2 (by omega),?_⟩
 simp only[l65_7,cops,csW,Nat.reduceEqDiff]
 refine⟨_,cBelow a b n ba bb hn,?_⟩
 simp only[l65_8,cops,csW,Nat.reduceEqDiff]
 refine⟨_,cBelow c d n bc bd hn,?_⟩
 simp only[l65_9,cops,csW,Nat.reduceEqDiff]
 refine⟨_,cIMul b d n bb bd (by omega),?_⟩
 simp only[l65_10,cops,csW,Nat.reduceEqDiff]
 refine⟨_,cLowest _ _ (n+n+1) h3 h4 (by omega) h5,?_⟩
 simp only[l65_11,cops,csW,Nat.reduceEqDiff,csM,Nat.reduceAdd,fold_FI]
 refine keep [4] ?_
 simp only[Ends,resD,resL,resV,csW,Nat.reduceEqDiff,csM,Nat.reduceAdd,fold_FI]
set_option maxHeartbeats 2000000 in
theorem cSub (a b c d:Int) (n:Nat) (ba:Bt a n) (bb:Bt b n) (bc:Bt c n) (bd:Bt d n) (hn:n≤2048000000000) (hb:0<b) (hd:0<d):Con Try.prog AN 61 [encFI a b,encFI c d] (encFI (frN (a*d + -c*b) (b*d)) (frD (a*d + -c*b) (b*d))):=by
 refine fn61.con rfl (by simp) ?_
 simp only[c61,c61_7,c61_1,l61_0,init2,cw,csW,cops,reduceCtorEq,csM,Nat.reduceAdd,Nat.reduceEqDiff]
 refine keep [2,3,4] ?_
 simp only[c61_6,c61_5,l61_2,csW,reduceCtorEq,Nat.reduceEqDiff,cw,cops,csM,Nat.reduceLT,Nat.reduceAdd,fold_FI,Nat.reduceLeDiff,fold_I]
 refine⟨_,cINeg c n bc (by omega),?_⟩
 simp only[l61_3,cops,csW,csM,Nat.reduceAdd,Nat.reduceLeDiff,Nat.reduceLT,Nat.reduceEqDiff,reduceCtorEq,fold_I,fold_FI]
 refine⟨_,cAdd a b (-c) d n ba bb bc.neg bd hn hb hd,?_⟩
 simp only[l61_4,cops,csW,Nat.reduceEqDiff,csM,Nat.reduceAdd,fold_FI]
 refine keep [4] ?_
 simp only[Ends,resD,resL,resV,csW,Nat.reduceEqDiff,csM,Nat.reduceAdd,fold_FI]
set_option maxHeartbeats 2000000 in
theorem cMul (a b c d:Int) (n:Nat) (ba:Bt a n) (bb:Bt b n) (bc:Bt c n) (bd:Bt d n) (hn:n≤2048000000000) (hb:0<b) (hd:0<d):Con Try.prog AN 27 [encFI a b,encFI c d] (encFI (frN (a*c) (b*d)) (frD (a*c) (b*d))):=by
 have h3:Bt (a*c) (n+n):=ba.mul bc
 have h4:Bt (b*d) (n+n):=bb.mul bd
 have h5:b*d≠0:=Int.ne_of_gt (Int.mul_pos hb hd)
 refine fn27.con rfl (by simp) ?_
 simp only[c27,c27_10,c27_1,l27_0,init2,cw,csW,cops,reduceCtorEq,csM,Nat.reduceAdd,Nat.reduceEqDiff]
 refine keep [2,3,4] ?_
 simp only[c27_9,c27_8,l27_2,csW,reduceCtorEq,Nat.reduceEqDiff,cw,cops,csM,Nat.reduceLT,Nat.reduceAdd,fold_FI,Nat.reduceLeDiff,fold_I]
 refine⟨_,cIMul a c n ba bc (by omega),?_⟩
 simp only[l27_3,cops,csW,Nat.reduceEqDiff]
 refine⟨_,cBelow a b n ba bb hn,?_⟩
 simp only[l27_4,cops,csW,Nat.reduceEqDiff]
 refine⟨_,cBelow c d n bc bd hn,?_⟩
 simp only[l27_5,cops,csW,Nat.reduceEqDiff]
 refine⟨_,cIMul b d n bb bd (by omega),?_⟩
 simp only[l27_6,cops,csW,Nat.reduceEqDiff]
 refine⟨_,cLowest _ _ (n+n) h3 h4 (by omega) h5,?_⟩
 simp only[l27_7,cops,csW,Nat.reduceEqDiff,csM,Nat.reduceAdd,fold_FI]
 refine keep [4] ?_
 simp only[Ends,resD,resL,resV,csW,Nat.reduceEqDiff,csM,Nat.reduceAdd,fold_FI]
set_option maxHeartbeats 2000000 in
theorem cCmp (a b c d:Int) (n:Nat) (ba:Bt a n) (bb:Bt b n) (bc:Bt c n) (bd:Bt d n) (hn:n≤2048000000000):Con Try.prog AN 23 [encFI a b,encFI c d] (.int .i64 (cmpZ (a*d) (c*b))):=by
 have h1:Bt (a*d) (n+n):=ba.mul bd
 have h2:Bt (c*b) (n+n):=bc.mul bb
 refine fn23.con rfl (by simp) ?_
 simp only[c23,c23_10,c23_1,l23_0,init2,cw,csW,cops,reduceCtorEq,csM,Nat.reduceAdd,Nat.reduceEqDiff]
 refine keep [2,3] ?_
 simp only[c23_9,c23_8,l23_2,csW,reduceCtorEq,Nat.reduceEqDiff,cw,cops,csM,Nat.reduceAdd,fold_FI]
 refine⟨_,cBelow c d n bc bd hn,?_⟩
 simp only[l23_3,cops,csW,csM,Nat.reduceLT,Nat.reduceEqDiff,Nat.reduceAdd,fold_FI,Nat.reduceLeDiff,fold_I]
 refine⟨_,cIMul a d n ba bd (by omega),?_⟩
 simp only[l23_4,cops,csW,Nat.reduceEqDiff]
 refine⟨_,cBelow a b n ba bb hn,?_⟩
 simp only[l23_5,cops,csW,csM,Nat.reduceLT,Nat.reduceEqDiff,Nat.reduceAdd,Nat.reduceLeDiff,fold_I]
 refine⟨_,cIMul c b n bc bb (by omega),?_⟩
 simp only[l23_6,cops,csW,Nat.reduceEqDiff]
 refine⟨_,cICmp _ _ (n+n) h1 h2 (by omega),?_⟩
 simp only[l23_7,cops,csW,Nat.reduceEqDiff]
 refine keep [4] ?_
 simp only[Ends,resD,resL,resV,csW,Nat.reduceEqDiff]
set_option maxHeartbeats 2000000 in
theorem cNeg (a b:Int) (n:Nat) (ba:Bt a n) (bb:Bt b n) (hn:n≤2048000000000):Con Try.prog AN 40 [encFI a b] (encFI (-a) b):=by
 refine fn40.con rfl (by simp) ?_
 simp only[c40,c40_6,c40_1,l40_0,init1,cw,csW,cops,csM,Nat.reduceAdd,reduceCtorEq,Nat.reduceEqDiff]
 refine keep [1,2] ?_
 simp only[c40_5,c40_4,l40_2,csW,reduceCtorEq,Nat.reduceEqDiff,cw,cops,csM,Nat.reduceLT,Nat.reduceAdd,Nat.reduceLeDiff,fold_I]
 refine⟨_,cINeg a n ba (by omega),?_⟩
 simp only[l40_3,cops,csW,csM,Nat.reduceAdd,Nat.reduceLeDiff,Nat.reduceLT,Nat.reduceEqDiff,reduceCtorEq,fold_I,fold_FI]
 refine keep [2] ?_
 simp only[Ends,resD,resL,resV,csW,Nat.reduceEqDiff,csM,Nat.reduceAdd,fold_FI]
set_option maxHeartbeats 2000000 in
theorem cSign (a b:Int) (n:Nat) (ba:Bt a n) (bb:Bt b n) (hn:n≤2048000000000):Con Try.prog AN 15 [encFI a b] (.int .i64 (sgnZ a)):=by
 refine fn15.con rfl (by simp) ?_
 simp only[c15,c15_6,c15_1,l15_0,init1,cw,csW,cops,csM,Nat.reduceAdd,reduceCtorEq,Nat.reduceEqDiff]
 refine keep [1] ?_
 simp only[c15_5,c15_4,l15_2,csW,reduceCtorEq,Nat.reduceEqDiff,cw,cops,csM,Nat.reduceLT,Nat.reduceAdd,Nat.reduceLeDiff,fold_I]
 refine⟨_,cISign a n ba (by omega),?_⟩
 simp only[l15_3,cops,csW,Nat.reduceEqDiff]
 refine keep [2] ?_
 simp only[Ends,resD,resL,resV,csW,Nat.reduceEqDiff]
end Go.Proofs.Ytdjbfgfbpimakaa.M
end

section
namespace Go.Proofs.Ytdjbfgfbpimakaa.M
open Go.RowKit
set_option linter.defProp false
set_option linter.unusedSimpArgs false
set_option linter.unusedVariables false
end Go.Proofs.Ytdjbfgfbpimakaa.M
end

section
namespace Go.Proofs.Ytdjbfgfbpimakaa.M
open Go.RowKit
set_option linter.unusedSimpArgs false
set_option linter.unusedVariables false
theorem frD_pos {a b:Int} (h:b≠0):0<frD a b:=by
 have hg:=gcd_ne0 (a:=a) h
 have hd:(Int.gcd a b:Int)*(b / (Int.gcd a b:Int))=b:=Int.mul_ediv_cancel' (Int.gcd_dvd_right ..)
 have hne:b / (Int.gcd a b:Int)≠0:=by
  intro e
  rw[e,Int.mul_zero] at hd
  exact h hd.symm
 unfold frD
 split<;>omega
theorem fracR_ok (t:List UInt8):0<(fracR t).2.1∧Bt (fracR t).1 4000∧Bt (fracR t).2.1 4000:=by
 unfold fracR
 split
 ·split
  ·rename_i h2
   split
   ·rename_i h3
    split
    ·exact⟨frD_pos (tail_ne h2.1 h2.2 h3.2),frN_bt (parseZ_bt _),frD_bt (parseZ_bt _)⟩
    ·exact⟨Int.zero_lt_one,bt_zero _,bt_one⟩
   ·exact⟨Int.zero_lt_one,bt_zero _,bt_one⟩
  ·exact⟨Int.zero_lt_one,bt_zero _,bt_one⟩
 ·split
  ·split
   ·exact⟨Int.zero_lt_one,parseZ_bt _,bt_one⟩
   ·exact⟨Int.zero_lt_one,bt_zero _,bt_one⟩
  ·exact⟨Int.zero_lt_one,bt_zero _,bt_one⟩
end Go.Proofs.Ytdjbfgfbpimakaa.M
end

section
namespace Go.Proofs.Ytdjbfgfbpimakaa.M
open Go.RowKit
set_option linter.unusedVariables false
set_option linter.unusedSimpArgs false
theorem gcd_pos' {a b:Int} (h:b≠0):(0:Int)<Int.gcd a b:=by
 have:Int.gcd a b≠0:=fun e=>h (Int.gcd_eq_zero_iff.1 e).2
 omega
theorem div_neg_iff {a b:Int} (h:b≠0):b / (Int.gcd a b:Int)<0↔b<0:=by
 have hg:=gcd_pos' (a:=a) h
 constructor
 ·intro hh
  rcases Int.lt_or_le b 0 with h1 | h1
  ·exact h1
  ·have:=Int.ediv_nonneg h1 (Int.le_of_lt hg);omega
 ·intro hh;exact Int.ediv_neg_of_neg_of_pos hh hg
theorem frN_rat {a b:Int} (h:b≠0):frN a b=(Rat.divInt a b).num:=by
 have hg:=gcd_pos' (a:=a) h
 have hd:(Int.gcd a b:Int)∣a:=Int.gcd_dvd_left ..
 unfold frN
 rw[Rat.num_divInt,Int.gcd_comm b a]
 by_cases hb:b<0
 ·rw[if_pos ((div_neg_iff h).2 hb),Int.sign_eq_neg_one_of_neg hb,Int.neg_mul,Int.one_mul,Int.neg_ediv_of_dvd hd]
 ·rw[if_neg (fun e=>hb ((div_neg_iff h).1 e)),Int.sign_eq_one_of_pos (by omega),Int.one_mul]
theorem frD_rat {a b:Int} (h:b≠0):frD a b=((Rat.divInt a b).den:Int):=by
 have hg:=gcd_pos' (a:=a) h
 have hd:(Int.gcd a b:Int)∣b:=Int.gcd_dvd_right ..
 unfold frD
 rw[Rat.den_divInt,if_neg h,Int.gcd_comm b a]
 by_cases hb:b<0
 ·rw[if_pos ((div_neg_iff h).2 hb),←Int.neg_ediv_of_dvd hd,Int.natCast_ediv]
  congr 1;omega
 ·rw[if_neg (fun e=>hb ((div_neg_iff h).1 e)),Int.natCast_ediv]
  congr 1;omega
theorem add_rat (x y:Rat):Rat.divInt (x.num*y.den+y.num*x.den) ((x.den:Int)*y.den)=x+y:=by
 rw[Rat.add_def',←Rat.divInt_ofNat,Int.natCast_mul]
theorem sub_rat (x y:Rat):Rat.divInt (x.num*y.den + -y.num*x.den) ((x.den:Int)*y.den)=x-y:=by
 rw[Rat.sub_eq_add_neg,Rat.add_def',←Rat.divInt_ofNat,Int.natCast_mul,Rat.neg_num,Rat.neg_den]
theorem mul_rat (x y:Rat):Rat.divInt (x.num*y.num) ((x.den:Int)*y.den)=x*y:=by
 rw[Rat.mul_def',←Rat.divInt_ofNat,Int.natCast_mul]
theorem div_rat (x y:Rat):Rat.divInt (x.num*y.den) ((x.den:Int)*y.num)=x / y:=by
 rw[Rat.div_def,Rat.inv_def,←Rat.divInt_mul_divInt,Rat.num_divInt_den]
theorem num_ne {x:Rat} (h:x≠0):x.num≠0:=fun e=>h (Rat.num_eq_zero.1 e)
theorem den_pos' (x:Rat):(0:Int)<x.den:=by have:=x.den_pos;omega
theorem Bq.n {n:Nat} {x:Rat} (h:Bq n x):Bt x.num n:=h.1
theorem Bq.d {n:Nat} {x:Rat} (h:Bq n x):Bt (x.den:Int) n:=by have:=h.2;unfold Bt;simpa using this
theorem Bq.of {n:Nat} {x:Rat} (h1:Bt x.num n) (h2:Bt (x.den:Int) n):Bq n x:=⟨h1,by unfold Bt at h2;simpa using h2⟩
def qI (x:Rat):D:=encFI x.num x.den
def qZ (x:Rat):D:=encFZ x.num x.den
theorem qI_of {a b:Int} (h:b≠0):encFI (frN a b) (frD a b)=qI (Rat.divInt a b):=by rw[frN_rat h,frD_rat h];rfl
theorem mul_ne {x y:Rat}:((x.den:Int)*y.den)≠0:=Int.ne_of_gt (Int.mul_pos (den_pos' x) (den_pos' y))
theorem muln_ne {x y:Rat} (h:y≠0):((x.den:Int)*y.num)≠0:=fun e=>by
 rcases Int.mul_eq_zero.1 e with h1 | h1
 ·have:=den_pos' x;omega
 ·exact num_ne h h1
def sgnQ (x:Rat):Int:=sgnZ x.num
theorem sgnQ_0 {x:Rat}:sgnQ x=0↔x=0:=by
 unfold sgnQ sgnZ
 rw[←Rat.num_eq_zero]
 (repeat' split)<;>omega
section
variable (x y:Rat) (n:Nat) (hx:Bq n x) (hy:Bq n y) (hn:n≤2048000000000)
include hx hy hn
theorem qAdd:Con Try.prog AN 65 [qI x,qI y] (qI (x+y)):=by
 have h:=cAdd x.num x.den y.num y.den n hx.n hx.d hy.n hy.d hn (den_pos' x) (den_pos' y)
 rw[qI_of mul_ne,add_rat] at h;exact h
theorem qSub:Con Try.prog AN 61 [qI x,qI y] (qI (x-y)):=by
 have h:=cSub x.num x.den y.num y.den n hx.n hx.d hy.n hy.d hn (den_pos' x) (den_pos' y)
 rw[qI_of mul_ne,sub_rat] at h;exact h
theorem qMul:Con Try.prog AN 27 [qI x,qI y] (qI (x*y)):=by
 have h:=cMul x.num x.den y.num y.den n hx.n hx.d hy.n hy.d hn (den_pos' x) (den_pos' y)
 rw[qI_of mul_ne,mul_rat] at h;exact h
theorem qQuo (h0:y≠0):Con Try.prog AN 50 [qI x,qI y] (.tup [qI (x / y),flt 0 0]):=by
 have h:=cQuo x.num x.den y.num y.den n hx.n hx.d hy.n hy.d hn (den_pos' x) (num_ne h0)
 rw[qI_of (muln_ne h0),div_rat] at h;exact h
theorem qCmp:Con Try.prog AN 23 [qI x,qI y] (.int .i64 (cmpZ (x.num*y.den) (y.num*x.den))):=cCmp x.num x.den y.num y.den n hx.n hx.d hy.n hy.d hn
end
section
variable (x:Rat) (n:Nat) (hx:Bq n x) (hn:n≤2048000000000)
include hx hn
theorem qNeg:Con Try.prog AN 40 [qI x] (qI (-x)):=cNeg x.num x.den n hx.n hx.d hn
theorem qSign:Con Try.prog AN 15 [qI x] (.int .i64 (sgnQ x)):=cSign x.num x.den n hx.n hx.d hn
theorem qText:Con Try.prog AN 10 [qI x] (.str (frText x.num x.den)):=cText x.num x.den n hx.n hx.d hn
theorem qQuo0:Con Try.prog AN 50 [qI x,qI 0] (.tup [qI 0,flt 4 0]):=cQuo0 x.num x.den 0 1 n hx.n hx.d (bt_zero _) (by have h:=hx.d;have:=den_pos' x;unfold Bt at *;omega) hn
theorem qParts:Con Try.prog AN 66 [qI x] (.tup [encI x.num,encI x.den]):=cParts x.num x.den n hx.n hx.d hn
end
theorem qWhole (z:Int) (n:Nat) (hz:Bt z n) (hn:n≤2048000000000):Con Try.prog AN 37 [encI z] (qI (z:Rat)):=cWhole z n hz hn
theorem gcd_fr {a b:Int} (h:b≠0):∃ x:Rat,frN a b=x.num∧frD a b=(x.den:Int):=⟨Rat.divInt a b,frN_rat h,frD_rat h⟩
theorem fracR_rat (t:List UInt8):∃ x:Rat,(fracR t).1=x.num∧(fracR t).2.1=(x.den:Int)∧Bq 4000 x:=by
 have key:∃ x:Rat,(fracR t).1=x.num∧(fracR t).2.1=(x.den:Int):=by
  unfold fracR
  split
  ·split
   ·rename_i h2
    split
    ·rename_i h3
     split
     ·exact gcd_fr (tail_ne h2.1 h2.2 h3.2)
     ·exact⟨0,rfl,rfl⟩
    ·exact⟨0,rfl,rfl⟩
   ·exact⟨0,rfl,rfl⟩
  ·split
   ·split
    ·exact⟨(parseZ t:Rat),rfl,rfl⟩
    ·exact⟨0,rfl,rfl⟩
   ·exact⟨0,rfl,rfl⟩
 obtain⟨x,h1,h2⟩:=key
 obtain⟨_,b1,b2⟩:=fracR_ok t
 exact⟨x,h1,h2,Bq.of (h1 ▸ b1) (h2 ▸ b2)⟩
noncomputable def qR (t:List UInt8):Rat:=(fracR_rat t).choose
def cR (t:List UInt8):Int:=(fracR t).2.2.1
def aR (t:List UInt8):Int:=(fracR t).2.2.2
theorem qR_bq (t:List UInt8):Bq 4000 (qR t):=(fracR_rat t).choose_spec.2.2
theorem qParse (t:List UInt8) (hs:t.length≤9223372036854775807):Con Try.prog AN 20 [.str t] (.tup [qI (qR t),flt (cR t) (aR t)]):=by
 have h:=cParse t hs
 have e:encFI (fracR t).1 (fracR t).2.1=qI (qR t):=congr (congrArg encFI (fracR_rat t).choose_spec.1) (fracR_rat t).choose_spec.2.1
 rw[e] at h
 exact h
theorem one_qI (x:Rat):(qI x).one=false:=rfl
theorem one_qZ (x:Rat):(qZ x).one=false:=rfl
theorem isAgg_qI (x:Rat):(qI x).isAgg=true:=rfl
theorem isAgg_qZ (x:Rat):(qZ x).isAgg=true:=rfl
theorem cells_qI (x:Rat):(qI x).cells=[hI x.num,lI x.num,hI ((x.den:Int)-1),lI ((x.den:Int)-1)]:=rfl
theorem cells_qZ (x:Rat):(qZ x).cells=[hZ x.num,lZ x.num,hZ (x.den:Int),lZ (x.den:Int)]:=rfl
theorem fold_qI (x:Rat):D.agg [hI x.num,lI x.num,hI ((x.den:Int)-1),lI ((x.den:Int)-1)]=qI x:=rfl
theorem fold_qZ (x:Rat):D.agg [hZ x.num,lZ x.num,hZ (x.den:Int),lZ (x.den:Int)]=qZ x:=rfl
theorem qI_0:D.agg [.bool false,.list 116 1 [],.bool false,.list 116 1 []]=qI 0:=by
 have e:digs 4294967296 0=[]:=by rw[digs];simp
 unfold qI encFI
 rw[show ((0:Rat).num).natAbs=0 from rfl,show (((0:Rat).den:Int)-1).natAbs=0 from rfl,e]
 rfl
end Go.Proofs.Ytdjbfgfbpimakaa.M
end
