/- Lemmas. -/
import Derived.Test.YtbnhgnhgbhjkcaaGreatQ36
set_option linter.defProp false
set_option linter.unusedSimpArgs false
set_option linter.unusedVariables false
namespace Go.Proofs.YtbnhgnhgbhjkcaaGreat.M
set_option linter.unusedSimpArgs false
set_option maxHeartbeats 2000000
open Go.RowKit
def hI (z:Int):D:=.bool (decide (z<0))
def lI (z:Int):D:=.list 173 1 ((digs 4294967296 z.natAbs).map (D.int .u32))
def hZ (z:Int):D:=.bool (decide (z<0))
def lZ (z:Int):D:=.list 3 1 ((digs 10000 z.natAbs).map (D.int .i64))
theorem Lp (z:Int):(hI z).one=true:=rfl
theorem Lr (z:Int):(lI z).one=true:=rfl
theorem Ls (z:Int):(hZ z).one=true:=rfl
theorem Lt (z:Int):(lZ z).one=true:=rfl
theorem Lw (z:Int):(aY z).cells=[hI z,lI z]:=rfl
theorem Lx (z:Int):(aH z).cells=[hZ z,lZ z]:=rfl
theorem Ly (a b:Int):(cr a b).cells=[hI a,lI a,hI (b-1),lI (b-1)]:=rfl
theorem Lz (a b:Int):(bY a b).cells=[hZ a,lZ a,hZ b,lZ b]:=rfl
theorem LA (z:Int):(aY z).isAgg=true:=rfl
theorem LC (z:Int):(aH z).isAgg=true:=rfl
theorem LD (a b:Int):(cr a b).isAgg=true:=rfl
theorem LE (a b:Int):(bY a b).isAgg=true:=rfl
theorem LF (z:Int):D.agg [hZ z,lZ z]=aH z:=rfl
theorem LG (a b:Int):D.agg [hZ a,lZ a,hZ b,lZ b]=bY a b:=rfl
theorem LH (b:Int):D.agg [.bool false,.list 3 1 [],hZ b,lZ b]=bY 0 b:=by
 have e:digs 10000 0=[]:=by rw[digs];simp
 unfold bY;rw[show (0:Int).natAbs=0 from rfl,e];rfl
theorem LI (a b:Int):(bY a b).part 0 2 true=some (aH a):=rfl
theorem LK (a b:Int):(bY a b).part 2 2 true=some (aH b):=rfl
theorem m8 (n:Nat) (h:n≠0):Bt 1 n:=by unfold Bt;exact Nat.one_lt_two_pow h
theorem gC:Bt 1 4000:=m8 4000 (by omega)
theorem LL (t:List UInt8) (k:Nat):(t.drop k).take (t.length-k)=t.drop k:=z93 (by simp)
theorem LN (t:List UInt8) (k:Nat):(t.drop (k+1)).take (t.length-k-1)=t.drop (k+1):=z93 (by simp;omega)
theorem LO (t:List UInt8) (i:Nat):(((t.getD i 0).toNat:Nat):Int)=(byt t i:Int):=rfl
def csN:=an @Lp (an @Lr (an @Ls (an @Lt (an @Lw (an @Lx (an @Ly (an @Lz (an @LA (an @LC (an @LD (an @LE (an @LF (an @LG (an @LH (an @LI (an @LK (an @LL (an @LN (@LO)))))))))))))))))))
def csM:=an csN (an @AV.mk.eq_1 (an @dK.eq_1 (an @dK.eq_2 (an @AV.pure.eq_1 (an @AV.pure.eq_2 (an @AV.pure.eq_3 (an @AV.pure.eq_4 (an @cJ.eq_1 (an @cJ.eq_2 (an @flt.eq_1 (an @AV.get.eq_1 (an @AV.part.eq_1 (an @AV.part.eq_2 (an @D.part.eq_1 (@f5.eq_1)))))))))))))))
theorem av (z:Int):D.agg [hI z,lI z]=aY z:=rfl
theorem aw (a b:Int):D.agg [hI a,lI a,hI (b-1),lI (b-1)]=cr a b:=rfl
theorem aQ (a:Int):D.agg [hI a,lI a,.bool false,.list 173 1 []]=cr a 1:=by
 have e:digs 4294967296 0=[]:=by rw[digs];simp
 unfold cr;rw[show ((1:Int)-1).natAbs=0 from rfl,e];rfl
theorem aS:D.agg [.bool false,.list 173 1 [],.bool false,.list 173 1 []]=cr 0 1:=by
 have e:digs 4294967296 0=[]:=by rw[digs];simp
 unfold cr;rw[show (0:Int).natAbs=0 from rfl,show ((1:Int)-1).natAbs=0 from rfl,e];rfl
theorem gD (a b:Int) (n:Nat) (ba:Bt a n) (bb:Bt b n) (hn:n≤2048000000000):Con Tryz.prog AN 92 [cr a b] (aY b):=by
 have c2:=nn (b-1) 1 (n+1) (wN bb) (m8 _ (Nat.succ_ne_zero n)) (by omega);rw[show b-1+1=b by omega] at c2;refine ue.con rfl (by simp) ?_;(repeat first|with_reducible refine kp [1,2] ?_|simp only[kV,simprocAttr,csM,av,aw,aP]|refine aN ?_);refine⟨_,cx (cOf 1 (by omega)),ulc ?_⟩;(repeat first|simp only[kV,simprocAttr,csM,av,aw]|refine aN ?_);refine⟨_,cx (c2),ulc ?_⟩;(repeat first|with_reducible refine kp [2] ?_|simp only[kV,simprocAttr,csM,av,aw,af,ai,aq,ah]|refine aN ?_)
theorem m9 (a b:Int) (n:Nat) (ba:Bt a n) (bb:Bt b n) (hn:n≤4147200000000) (hb0:b≠0):Con Tryz.prog AN 82 [aY a,aY b] (cr (frN a b) (frD a b)):=by
 have hng:=wK (a:=a) hb0;have cg:=zb0 a b n ba bb hn;have bg:Bt (Int.gcd a b:Int) n:=bb.le (by
  have:=Nat.le_of_dvd (by omega) (Int.gcd_dvd_natAbs_right a b);omega)
 have hN:frN a b=if b / (Int.gcd a b:Int)<0 then -(a / (Int.gcd a b:Int)) else a / (Int.gcd a b:Int):=rfl
 have hD:frD a b=if b / (Int.gcd a b:Int)<0 then -(b / (Int.gcd a b:Int)) else b / (Int.gcd a b:Int):=rfl
 generalize (Int.gcd a b:Int)=g at *;have c1:=pE a g n ba bg hn hng;have c2:=pE b g n bb bg hn hng;have q1:Bt (a / g) n:=ib g ba;have q2:Bt (b / g) n:=ib g bb;have o1:=cOf 1 (by omega);have b1:=m8 (n+1) (Nat.succ_ne_zero n);have cs:=np (b / g) n q2 (by omega);by_cases h:b / g<0
 ·rw[if_pos h] at hN hD;have hs:=wL.2 h;have c3:=rz (a / g) n q1 (by omega);have c4:=rz (b / g) n q2 (by omega);have c5:=ry (-(b / g)) 1 (n+1) (q2.neg.mono (Nat.le_succ n)) b1 (by omega);rw[hN,hD];refine oE.con rfl (by simp) ?_;(repeat first|with_reducible refine kp [2,3,4] ?_|simp only[kV,simprocAttr,csM,av,aw,ax]|refine aN ?_);refine⟨_,cx (cg),ulc ?_⟩;(repeat first|with_reducible refine kp [2,3,4,5] ?_|simp only[kV,simprocAttr,csM,av,aw]|refine aN ?_);refine⟨_,cx (c1),ulc ?_⟩;(repeat first|with_reducible refine kp [2,3,4,5] ?_|simp only[kV,simprocAttr,csM,av,aw,flt]|refine aN ?_);refine⟨_,cx (c2),ulc ?_⟩;(repeat first|with_reducible refine kp [2,3,4] ?_|simp only[kV,simprocAttr,csM,av,aw,flt]|refine aN ?_);refine⟨_,cx (cs),ulc ?_⟩;(repeat first|with_reducible refine kp [2,3,4,25] ?_|simp only[kV,simprocAttr,csM,av,aw,hs]|refine aN ?_);refine ulk ?_;(repeat first|simp only[kV,simprocAttr,csM,av,aw,hs]|refine aN ?_);refine⟨_,cx (c3),ulc ?_⟩;(repeat first|simp only[kV,simprocAttr,csM,av,aw]|refine aN ?_);refine⟨_,cx (c4),ulc ?_⟩;(repeat first|with_reducible refine kp [2,3,4] ?_|simp only[kV,simprocAttr,csM,av,aw]|refine aN ?_);refine⟨_,cx (o1),ulc ?_⟩;(repeat first|simp only[kV,simprocAttr,csM,av,aw]|refine aN ?_);refine⟨_,cx (c5),ulc ?_⟩;(repeat first|with_reducible refine kp [4] ?_|simp only[kV,simprocAttr,csM,av,aw,af,ai,aq,ah]|refine aN ?_)
 ·rw[if_neg h] at hN hD;have hs:¬ bM (b / g)<0:=fun hh=>h (wL.1 hh)
  have c5:=ry (b / g) 1 (n+1) (q2.mono (Nat.le_succ n)) b1 (by omega);rw[hN,hD];refine oE.con rfl (by simp) ?_;(repeat first|with_reducible refine kp [2,3,4] ?_|simp only[kV,simprocAttr,csM,av,aw,ax]|refine aN ?_);refine⟨_,cx (cg),ulc ?_⟩;(repeat first|with_reducible refine kp [2,3,4,5] ?_|simp only[kV,simprocAttr,csM,av,aw]|refine aN ?_);refine⟨_,cx (c1),ulc ?_⟩;(repeat first|with_reducible refine kp [2,3,4,5] ?_|simp only[kV,simprocAttr,csM,av,aw,flt]|refine aN ?_);refine⟨_,cx (c2),ulc ?_⟩;(repeat first|with_reducible refine kp [2,3,4] ?_|simp only[kV,simprocAttr,csM,av,aw,flt]|refine aN ?_);refine⟨_,cx (cs),ulc ?_⟩;(repeat first|with_reducible refine kp [2,3,4,25] ?_|simp only[kV,simprocAttr,csM,av,aw,hs]|refine aN ?_);refine ulk ?_;(repeat first|with_reducible refine kp [2,3,4] ?_|simp only[kV,simprocAttr,csM,av,aw,hs]|refine aN ?_);refine⟨_,cx (o1),ulc ?_⟩;(repeat first|simp only[kV,simprocAttr,csM,av,aw]|refine aN ?_);refine⟨_,cx (c5),ulc ?_⟩;(repeat first|with_reducible refine kp [4] ?_|simp only[kV,simprocAttr,csM,av,aw,af,ai,aq,ah]|refine aN ?_)
theorem kF {z:Int}{n:Nat} (h:Bt z n) (hn:n≤2048000000000):(dec z).length≤8796093022210:=zbv (fsm h hn)
theorem nc (a b:Int) (n:Nat) (ba:Bt a n) (bb:Bt b n) (hn:n≤2048000000000):Con Tryz.prog AN 59 [cr a b] (.str (cN a b)):=by
 have e1:bM (b-1)=0↔b=1:=by rw[zie];omega
 have cs:=np (b-1) (n+1) (wN bb) (by omega);have l1:=kF ba hn;have l2:=kF bb hn;by_cases hb:b=1
 ·have hs:=e1.2 hb;rw[show cN a b=dec a from if_pos hb];refine uf.con rfl (by simp) ?_;(repeat first|with_reducible refine kp [1] ?_|simp only[kV,simprocAttr,csM,av,aw,aP]|refine aN ?_);refine⟨_,cx (cs),ulc ?_⟩;(repeat first|with_reducible refine kp [1,6] ?_|simp only[kV,simprocAttr,csM,av,aw,hs]|refine aN ?_);refine ulk ?_;(repeat first|simp only[kV,simprocAttr,csM,av,aw,hs]|refine aN ?_);refine⟨_,cx (nk a n ba hn),ulc ?_⟩;(repeat first|with_reducible refine kp [2] ?_|simp only[kV,simprocAttr,csM,av,aw,af,ai,aq,ah]|refine aN ?_)
 ·have hs:¬ bM (b-1)=0:=fun h=>hb (e1.1 h)
  rw[show cN a b=dec a++47::dec b from if_neg hb];refine uf.con rfl (by simp) ?_;(repeat first|with_reducible refine kp [1] ?_|simp only[kV,simprocAttr,csM,av,aw,aP]|refine aN ?_);refine⟨_,cx (cs),ulc ?_⟩;(repeat first|with_reducible refine kp [1,6] ?_|simp only[kV,simprocAttr,csM,av,aw,hs]|refine aN ?_);refine ulk ?_;(repeat first|with_reducible refine kp [1] ?_|simp only[kV,simprocAttr,csM,av,aw,hs]|refine aN ?_);refine⟨_,cx (nk a n ba hn),ulc ?_⟩;(repeat first|simp only[kV,simprocAttr,csM,av,aw]|refine aN ?_);refine⟨_,cx (gD a b n ba bb hn),ulc ?_⟩;(repeat first|simp only[kV,simprocAttr,csM,av,aw]|refine aN ?_);refine⟨_,cx (nk b n bb hn),ulc ?_⟩;(repeat first|with_reducible refine kp [2] ?_|simp only[kV,simprocAttr,csM,av,aw,af,ai,aq,ah]|refine aN ?_);rw[z9A];rfl
theorem kG (a b:Int) (n:Nat) (ba:Bt a n) (bb:Bt b n) (hn:n≤2048000000000):Con Tryz.prog AN 27 [bY a b] (.str (cN a b)):=by
 have l1:=kF ba hn;have l2:=kF bb hn;by_cases hb:b=1
 ·have hs:=Z4.dec_one.2 hb;rw[show cN a b=dec a from if_pos hb];refine wC.con rfl (by simp) ?_;(repeat first|with_reducible refine kp [1] ?_|simp only[kV,simprocAttr,csM,av,aw,aP]|refine aN ?_);refine⟨_,cx (jg b n bb hn),ulc ?_⟩;(repeat first|with_reducible refine kp [1,6] ?_|simp only[kV,simprocAttr,csM,av,aw,hs]|refine aN ?_);refine ulk ?_;(repeat first|simp only[kV,simprocAttr,csM,av,aw,hs]|refine aN ?_);refine⟨_,cx (jg a n ba hn),ulc ?_⟩;(repeat first|with_reducible refine kp [2] ?_|simp only[kV,simprocAttr,csM,av,aw,af,ai,aq,ah]|refine aN ?_)
 ·have hs:¬ dec b=[49]:=fun h=>hb (Z4.dec_one.1 h)
  rw[show cN a b=dec a++47::dec b from if_neg hb];refine wC.con rfl (by simp) ?_;(repeat first|with_reducible refine kp [1] ?_|simp only[kV,simprocAttr,csM,av,aw,aP]|refine aN ?_);refine⟨_,cx (jg b n bb hn),ulc ?_⟩;(repeat first|with_reducible refine kp [1,6] ?_|simp only[kV,simprocAttr,csM,av,aw,hs]|refine aN ?_);refine ulk ?_;(repeat first|with_reducible refine kp [1] ?_|simp only[kV,simprocAttr,csM,av,aw,hs]|refine aN ?_);refine⟨_,cx (jg a n ba hn),ulc ?_⟩;(repeat first|simp only[kV,simprocAttr,csM,av,aw]|refine aN ?_);refine⟨_,cx (jg b n bb hn),ulc ?_⟩;(repeat first|with_reducible refine kp [2] ?_|simp only[kV,simprocAttr,csM,av,aw,af,ai,aq,ah]|refine aN ?_);rw[z9A];rfl
end Go.Proofs.YtbnhgnhgbhjkcaaGreat.M
