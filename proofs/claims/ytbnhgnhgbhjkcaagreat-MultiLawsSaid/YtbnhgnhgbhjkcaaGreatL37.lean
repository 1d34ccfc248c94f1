/- Lemmas. -/
import Derived.Test.YtbnhgnhgbhjkcaaGreatL36
set_option linter.defProp false
set_option linter.unusedSimpArgs false
set_option linter.unusedVariables false
namespace Go.Proofs.YtbnhgnhgbhjkcaaGreat.M
open Go.RowKit
set_option maxHeartbeats 2000000
def hI (z:Int):D:=.bool (decide (z<0))
def lI (z:Int):D:=.list 173 1 ((digs 4294967296 z.natAbs).map (D.int .u32))
def hZ (z:Int):D:=.bool (decide (z<0))
def lZ (z:Int):D:=.list 3 1 ((digs 10000 z.natAbs).map (D.int .i64))
theorem J5 (z:Int):(hI z).one=true:=rfl
theorem J6 (z:Int):(lI z).one=true:=rfl
theorem J7 (z:Int):(hZ z).one=true:=rfl
theorem J8 (z:Int):(lZ z).one=true:=rfl
theorem J9 (z:Int):(aV z).cells=[hI z,lI z]:=rfl
theorem Ka (z:Int):(aI z).cells=[hZ z,lZ z]:=rfl
theorem Kb (a b:Int):(bY a b).cells=[hI a,lI a,hI (b-1),lI (b-1)]:=rfl
theorem Kc (a b:Int):(cE a b).cells=[hZ a,lZ a,hZ b,lZ b]:=rfl
theorem Kd (z:Int):(aV z).isAgg=true:=rfl
theorem Ke (z:Int):(aI z).isAgg=true:=rfl
theorem Kf (a b:Int):(bY a b).isAgg=true:=rfl
theorem Kg (a b:Int):(cE a b).isAgg=true:=rfl
theorem Kh (z:Int):D.agg [hZ z,lZ z]=aI z:=rfl
theorem Ki (a b:Int):D.agg [hZ a,lZ a,hZ b,lZ b]=cE a b:=rfl
theorem Kj (b:Int):D.agg [.bool false,.list 3 1 [],hZ b,lZ b]=cE 0 b:=by
 have e:digs 10000 0=[]:=by rw[digs];simp
 unfold cE;rw[show (0:Int).natAbs=0 from rfl,e];rfl
theorem Kk (a b:Int):(cE a b).part 0 2 true=some (aI a):=rfl
theorem Kl (a b:Int):(cE a b).part 2 2 true=some (aI b):=rfl
theorem mT (n:Nat) (h:n≠0):Bt 1 n:=by unfold Bt;exact Nat.one_lt_two_pow h
theorem gF:Bt 1 4000:=mT 4000 (by omega)
theorem Km (t:List UInt8) (k:Nat):(t.drop k).take (t.length-k)=t.drop k:=List.take_of_length_le (by simp)
theorem Kn (t:List UInt8) (k:Nat):(t.drop (k+1)).take (t.length-k-1)=t.drop (k+1):=List.take_of_length_le (by simp;omega)
theorem Ko (t:List UInt8) (i:Nat):(((t.getD i 0).toNat:Nat):Int)=(byt t i:Int):=rfl
def csN:=an @J5 (an @J6 (an @J7 (an @J8 (an @J9 (an @Ka (an @Kb (an @Kc (an @Kd (an @Ke (an @Kf (an @Kg (an @Kh (an @Ki (an @Kj (an @Kk (an @Kl (an @Km (an @Kn (@Ko)))))))))))))))))))
def csM:=an csN (an @AV.mk.eq_1 (an @cW.eq_1 (an @cW.eq_2 (an @AV.pure.eq_1 (an @AV.pure.eq_2 (an @AV.pure.eq_3 (an @AV.pure.eq_4 (an @cJ.eq_1 (an @cJ.eq_2 (an @flt.eq_1 (an @AV.get.eq_1 (an @AV.part.eq_1 (an @AV.part.eq_2 (an @D.part.eq_1 (@gg.eq_1)))))))))))))))
theorem aw (z:Int):D.agg [hI z,lI z]=aV z:=rfl
theorem ax (a b:Int):D.agg [hI a,lI a,hI (b-1),lI (b-1)]=bY a b:=rfl
theorem aT (a:Int):D.agg [hI a,lI a,.bool false,.list 173 1 []]=bY a 1:=by
 have e:digs 4294967296 0=[]:=by rw[digs];simp
 unfold bY;rw[show ((1:Int)-1).natAbs=0 from rfl,e];rfl
theorem aU:D.agg [.bool false,.list 173 1 [],.bool false,.list 173 1 []]=bY 0 1:=by
 have e:digs 4294967296 0=[]:=by rw[digs];simp
 unfold bY;rw[show (0:Int).natAbs=0 from rfl,show ((1:Int)-1).natAbs=0 from rfl,e];rfl
theorem gG (a b:Int) (n:Nat) (ba:Bt a n) (bb:Bt b n) (hn:n≤2048000000000):Con Tryz.prog AN 92 [bY a b] (aV b):=by
 have c2:=m7 (b-1) 1 (n+1) (wk bb) (mT _ (Nat.succ_ne_zero n)) (by omega);rw[show b-1+1=b by omega] at c2;refine Xr.con rfl (by simp) ?_;(repeat first|with_reducible refine kp [1,2] ?_|simp only[kV,simprocAttr,csM,aw,ax,bw]|refine aN ?_);refine⟨_,cx (cOf 1 (by omega)),ulc ?_⟩;(repeat first|simp only[kV,simprocAttr,csM,aw,ax]|refine aN ?_);refine⟨_,cx (c2),ulc ?_⟩;(repeat first|with_reducible refine kp [2] ?_|simp only[kV,simprocAttr,csM,aw,ax,ae,ai,ah,af]|refine aN ?_)
theorem mU (a b:Int) (n:Nat) (ba:Bt a n) (bb:Bt b n) (hn:n≤4147200000000) (hb0:b≠0):Con Tryz.prog AN 82 [aV a,aV b] (bY (frN a b) (frD a b)):=by
 have hng:=wh (a:=a) hb0;have cg:=zaN a b n ba bb hn;have bg:Bt (Int.gcd a b:Int) n:=bb.le (by
  have:=Nat.le_of_dvd (by omega) (Int.gcd_dvd_natAbs_right a b);omega)
 have hN:frN a b=if b / (Int.gcd a b:Int)<0 then -(a / (Int.gcd a b:Int)) else a / (Int.gcd a b:Int):=rfl
 have hD:frD a b=if b / (Int.gcd a b:Int)<0 then -(b / (Int.gcd a b:Int)) else b / (Int.gcd a b:Int):=rfl
 generalize (Int.gcd a b:Int)=g at *;have c1:=pi a g n ba bg hn hng;have c2:=pi b g n bb bg hn hng;have q1:Bt (a / g) n:=ip g ba;have q2:Bt (b / g) n:=ip g bb;have o1:=cOf 1 (by omega);have b1:=mT (n+1) (Nat.succ_ne_zero n);have cs:=m8 (b / g) n q2 (by omega);by_cases h:b / g<0
 ·rw[if_pos h] at hN hD;have hs:=wj.2 h;have c3:=rh (a / g) n q1 (by omega);have c4:=rh (b / g) n q2 (by omega);have c5:=rg (-(b / g)) 1 (n+1) (q2.neg.mono (Nat.le_succ n)) b1 (by omega);rw[hN,hD];refine tP.con rfl (by simp) ?_;(repeat first|with_reducible refine kp [2,3,4] ?_|simp only[kV,simprocAttr,csM,aw,ax,aB]|refine aN ?_);refine⟨_,cx (cg),ulc ?_⟩;(repeat first|with_reducible refine kp [2,3,4,5] ?_|simp only[kV,simprocAttr,csM,aw,ax]|refine aN ?_);refine⟨_,cx (c1),ulc ?_⟩;(repeat first|with_reducible refine kp [2,3,4,5] ?_|simp only[kV,simprocAttr,csM,aw,ax,flt]|refine aN ?_);refine⟨_,cx (c2),ulc ?_⟩;(repeat first|with_reducible refine kp [2,3,4] ?_|simp only[kV,simprocAttr,csM,aw,ax,flt]|refine aN ?_);refine⟨_,cx (cs),ulc ?_⟩;(repeat first|with_reducible refine kp [2,3,4,25] ?_|simp only[kV,simprocAttr,csM,aw,ax,hs]|refine aN ?_);refine ulk ?_;(repeat first|simp only[kV,simprocAttr,csM,aw,ax,hs]|refine aN ?_);refine⟨_,cx (c3),ulc ?_⟩;(repeat first|simp only[kV,simprocAttr,csM,aw,ax]|refine aN ?_);refine⟨_,cx (c4),ulc ?_⟩;(repeat first|with_reducible refine kp [2,3,4] ?_|simp only[kV,simprocAttr,csM,aw,ax]|refine aN ?_);refine⟨_,cx (o1),ulc ?_⟩;(repeat first|simp only[kV,simprocAttr,csM,aw,ax]|refine aN ?_);refine⟨_,cx (c5),ulc ?_⟩;(repeat first|with_reducible refine kp [4] ?_|simp only[kV,simprocAttr,csM,aw,ax,ae,ai,ah,af]|refine aN ?_)
 ·rw[if_neg h] at hN hD;have hs:¬ bT (b / g)<0:=fun hh=>h (wj.1 hh)
  have c5:=rg (b / g) 1 (n+1) (q2.mono (Nat.le_succ n)) b1 (by omega);rw[hN,hD];refine tP.con rfl (by simp) ?_;(repeat first|with_reducible refine kp [2,3,4] ?_|simp only[kV,simprocAttr,csM,aw,ax,aB]|refine aN ?_);refine⟨_,cx (cg),ulc ?_⟩;(repeat first|with_reducible refine kp [2,3,4,5] ?_|simp only[kV,simprocAttr,csM,aw,ax]|refine aN ?_);refine⟨_,cx (c1),ulc ?_⟩;(repeat first|with_reducible refine kp [2,3,4,5] ?_|simp only[kV,simprocAttr,csM,aw,ax,flt]|refine aN ?_);refine⟨_,cx (c2),ulc ?_⟩;(repeat first|with_reducible refine kp [2,3,4] ?_|simp only[kV,simprocAttr,csM,aw,ax,flt]|refine aN ?_);refine⟨_,cx (cs),ulc ?_⟩;(repeat first|with_reducible refine kp [2,3,4,25] ?_|simp only[kV,simprocAttr,csM,aw,ax,hs]|refine aN ?_);refine ulk ?_;(repeat first|with_reducible refine kp [2,3,4] ?_|simp only[kV,simprocAttr,csM,aw,ax,hs]|refine aN ?_);refine⟨_,cx (o1),ulc ?_⟩;(repeat first|simp only[kV,simprocAttr,csM,aw,ax]|refine aN ?_);refine⟨_,cx (c5),ulc ?_⟩;(repeat first|with_reducible refine kp [4] ?_|simp only[kV,simprocAttr,csM,aw,ax,ae,ai,ah,af]|refine aN ?_)
theorem Kp (a:Int) (n:Nat) (ba:Bt a n) (hn:n≤2048000000000):Con Tryz.prog AN 94 [aV a] (bY a 1):=by
 refine XO.con rfl (by simp) ?_;(repeat first|with_reducible refine kp [1,2] ?_|simp only[kV,simprocAttr,csM,aw,ax,bw,ae,ai,ah,af,aT]|refine aN ?_)
theorem ir {z:Int}{n:Nat} (h:Bt z n) (hn:n≤2048000000000):(dec z).length≤8796093022210:=zab (fsm h hn)
theorem mV (a b:Int) (n:Nat) (ba:Bt a n) (bb:Bt b n) (hn:n≤2048000000000):Con Tryz.prog AN 59 [bY a b] (.str (frText a b)):=by
 have e1:bT (b-1)=0↔b=1:=by rw[zgM];omega
 have cs:=m8 (b-1) (n+1) (wk bb) (by omega);have l1:=ir ba hn;have l2:=ir bb hn;by_cases hb:b=1
 ·have hs:=e1.2 hb;rw[show frText a b=dec a from if_pos hb];refine tQ.con rfl (by simp) ?_;(repeat first|with_reducible refine kp [1] ?_|simp only[kV,simprocAttr,csM,aw,ax,bw]|refine aN ?_);refine⟨_,cx (cs),ulc ?_⟩;(repeat first|with_reducible refine kp [1,6] ?_|simp only[kV,simprocAttr,csM,aw,ax,hs]|refine aN ?_);refine ulk ?_;(repeat first|simp only[kV,simprocAttr,csM,aw,ax,hs]|refine aN ?_);refine⟨_,cx (m6 a n ba hn),ulc ?_⟩;(repeat first|with_reducible refine kp [2] ?_|simp only[kV,simprocAttr,csM,aw,ax,ae,ai,ah,af]|refine aN ?_)
 ·have hs:¬ bT (b-1)=0:=fun h=>hb (e1.1 h)
  rw[show frText a b=dec a++47::dec b from if_neg hb];refine tQ.con rfl (by simp) ?_;(repeat first|with_reducible refine kp [1] ?_|simp only[kV,simprocAttr,csM,aw,ax,bw]|refine aN ?_);refine⟨_,cx (cs),ulc ?_⟩;(repeat first|with_reducible refine kp [1,6] ?_|simp only[kV,simprocAttr,csM,aw,ax,hs]|refine aN ?_);refine ulk ?_;(repeat first|with_reducible refine kp [1] ?_|simp only[kV,simprocAttr,csM,aw,ax,hs]|refine aN ?_);refine⟨_,cx (m6 a n ba hn),ulc ?_⟩;(repeat first|simp only[kV,simprocAttr,csM,aw,ax]|refine aN ?_);refine⟨_,cx (gG a b n ba bb hn),ulc ?_⟩;(repeat first|simp only[kV,simprocAttr,csM,aw,ax]|refine aN ?_);refine⟨_,cx (m6 b n bb hn),ulc ?_⟩;(repeat first|with_reducible refine kp [2] ?_|simp only[kV,simprocAttr,csM,aw,ax,ae,ai,ah,af]|refine aN ?_);rw[List.append_assoc];rfl
theorem kx (a b:Int) (n:Nat) (ba:Bt a n) (bb:Bt b n) (hn:n≤2048000000000):Con Tryz.prog AN 27 [cE a b] (.str (frText a b)):=by
 have l1:=ir ba hn;have l2:=ir bb hn;by_cases hb:b=1
 ·have hs:=Z4.dec_one.2 hb;rw[show frText a b=dec a from if_pos hb];refine vW.con rfl (by simp) ?_;(repeat first|with_reducible refine kp [1] ?_|simp only[kV,simprocAttr,csM,aw,ax,bw]|refine aN ?_);refine⟨_,cx (jk b n bb hn),ulc ?_⟩;(repeat first|with_reducible refine kp [1,6] ?_|simp only[kV,simprocAttr,csM,aw,ax,hs]|refine aN ?_);refine ulk ?_;(repeat first|simp only[kV,simprocAttr,csM,aw,ax,hs]|refine aN ?_);refine⟨_,cx (jk a n ba hn),ulc ?_⟩;(repeat first|with_reducible refine kp [2] ?_|simp only[kV,simprocAttr,csM,aw,ax,ae,ai,ah,af]|refine aN ?_)
 ·have hs:¬ dec b=[49]:=fun h=>hb (Z4.dec_one.1 h)
  rw[show frText a b=dec a++47::dec b from if_neg hb];refine vW.con rfl (by simp) ?_;(repeat first|with_reducible refine kp [1] ?_|simp only[kV,simprocAttr,csM,aw,ax,bw]|refine aN ?_);refine⟨_,cx (jk b n bb hn),ulc ?_⟩;(repeat first|with_reducible refine kp [1,6] ?_|simp only[kV,simprocAttr,csM,aw,ax,hs]|refine aN ?_);refine ulk ?_;(repeat first|with_reducible refine kp [1] ?_|simp only[kV,simprocAttr,csM,aw,ax,hs]|refine aN ?_);refine⟨_,cx (jk a n ba hn),ulc ?_⟩;(repeat first|simp only[kV,simprocAttr,csM,aw,ax]|refine aN ?_);refine⟨_,cx (jk b n bb hn),ulc ?_⟩;(repeat first|with_reducible refine kp [2] ?_|simp only[kV,simprocAttr,csM,aw,ax,ae,ai,ah,af]|refine aN ?_);rw[List.append_assoc];rfl
end Go.Proofs.YtbnhgnhgbhjkcaaGreat.M
