/- Lemmas. -/
import Derived.Test.YtbnhgnhgbhjkcaaGreatV36
set_option linter.defProp false
set_option linter.unusedSimpArgs false
set_option linter.unusedVariables false
namespace Go.Proofs.YtbnhgnhgbhjkcaaGreat.M
open Go.RowKit
set_option maxHeartbeats 2000000
def hI (z:Int):D:=.bool (decide (z<0))
def lI (z:Int):D:=.list 173 1 ((digs 4294967296 z.natAbs).map (D.int .u32))
def hZ (z:Int):D:=.bool (decide (z<0))
def lZ (z:Int):D:=.list 3 1 ((digs 10000 z.natAbs).map (D.int .i64))
theorem Iu (z:Int):(hI z).one=true:=rfl
theorem Iv (z:Int):(lI z).one=true:=rfl
theorem Iw (z:Int):(hZ z).one=true:=rfl
theorem Ix (z:Int):(lZ z).one=true:=rfl
theorem Iy (z:Int):(aT z).cells=[hI z,lI z]:=rfl
theorem Iz (z:Int):(aG z).cells=[hZ z,lZ z]:=rfl
theorem IA (a b:Int):(bQ a b).cells=[hI a,lI a,hI (b-1),lI (b-1)]:=rfl
theorem IB (a b:Int):(bR a b).cells=[hZ a,lZ a,hZ b,lZ b]:=rfl
theorem IC (z:Int):(aT z).isAgg=true:=rfl
theorem ID (z:Int):(aG z).isAgg=true:=rfl
theorem IE (a b:Int):(bQ a b).isAgg=true:=rfl
theorem IF (a b:Int):(bR a b).isAgg=true:=rfl
theorem IG (z:Int):D.agg [hZ z,lZ z]=aG z:=rfl
theorem IH (a b:Int):D.agg [hZ a,lZ a,hZ b,lZ b]=bR a b:=rfl
theorem II (b:Int):D.agg [.bool false,.list 3 1 [],hZ b,lZ b]=bR 0 b:=by
 have e:digs 10000 0=[]:=by rw[digs];simp
 unfold bR;rw[show (0:Int).natAbs=0 from rfl,e];rfl
theorem IJ (a b:Int):(bR a b).part 0 2 true=some (aG a):=rfl
theorem IK (a b:Int):(bR a b).part 2 2 true=some (aG b):=rfl
theorem mE (n:Nat) (h:n≠0):Bt 1 n:=by unfold Bt;exact Nat.one_lt_two_pow h
theorem gB:Bt 1 4000:=mE 4000 (by omega)
theorem IL (t:List UInt8) (k:Nat):(t.drop k).take (t.length-k)=t.drop k:=List.take_of_length_le (by simp)
theorem IM (t:List UInt8) (k:Nat):(t.drop (k+1)).take (t.length-k-1)=t.drop (k+1):=List.take_of_length_le (by simp;omega)
theorem IN (t:List UInt8) (i:Nat):(((t.getD i 0).toNat:Nat):Int)=(byt t i:Int):=rfl
def csN:=an @Iu (an @Iv (an @Iw (an @Ix (an @Iy (an @Iz (an @IA (an @IB (an @IC (an @ID (an @IE (an @IF (an @IG (an @IH (an @II (an @IJ (an @IK (an @IL (an @IM (@IN)))))))))))))))))))
def csM:=an csN (an @AV.mk.eq_1 (an @cD.eq_1 (an @cD.eq_2 (an @AV.pure.eq_1 (an @AV.pure.eq_2 (an @AV.pure.eq_3 (an @AV.pure.eq_4 (an @cV.eq_1 (an @cV.eq_2 (an @flt.eq_1 (an @AV.get.eq_1 (an @AV.part.eq_1 (an @AV.part.eq_2 (an @D.part.eq_1 (@fV.eq_1)))))))))))))))
theorem aq (z:Int):D.agg [hI z,lI z]=aT z:=rfl
theorem ar (a b:Int):D.agg [hI a,lI a,hI (b-1),lI (b-1)]=bQ a b:=rfl
theorem aP (a:Int):D.agg [hI a,lI a,.bool false,.list 173 1 []]=bQ a 1:=by
 have e:digs 4294967296 0=[]:=by rw[digs];simp
 unfold bQ;rw[show ((1:Int)-1).natAbs=0 from rfl,e];rfl
theorem aQ:D.agg [.bool false,.list 173 1 [],.bool false,.list 173 1 []]=bQ 0 1:=by
 have e:digs 4294967296 0=[]:=by rw[digs];simp
 unfold bQ;rw[show (0:Int).natAbs=0 from rfl,show ((1:Int)-1).natAbs=0 from rfl,e];rfl
theorem gC (a b:Int) (n:Nat) (ba:Bt a n) (bb:Bt b n) (hn:n≤2048000000000):Con Tryz.prog AN 92 [bQ a b] (aT b):=by
 have c2:=mR (b-1) 1 (n+1) (v7 bb) (mE _ (Nat.succ_ne_zero n)) (by omega);rw[show b-1+1=b by omega] at c2;refine ZT.con rfl (by simp) ?_;(repeat first|with_reducible refine kp [1,2] ?_|simp only[kV,simprocAttr,csM,aq,ar,bf]|refine aN ?_);refine⟨_,cx (cOf 1 (by omega)),ulc ?_⟩;(repeat first|simp only[kV,simprocAttr,csM,aq,ar]|refine aN ?_);refine⟨_,cx (c2),ulc ?_⟩;(repeat first|with_reducible refine kp [2] ?_|simp only[kV,simprocAttr,csM,aq,ar,ac,ah,ae,af]|refine aN ?_)
theorem mF (a b:Int) (n:Nat) (ba:Bt a n) (bb:Bt b n) (hn:n≤4147200000000) (hb0:b≠0):Con Tryz.prog AN 82 [aT a,aT b] (bQ (frN a b) (frD a b)):=by
 have hng:=vZ (a:=a) hb0;have cg:=zc9 a b n ba bb hn;have bg:Bt (Int.gcd a b:Int) n:=bb.le (by
  have:=Nat.le_of_dvd (by omega) (Int.gcd_dvd_natAbs_right a b);omega)
 have hN:frN a b=if b / (Int.gcd a b:Int)<0 then -(a / (Int.gcd a b:Int)) else a / (Int.gcd a b:Int):=rfl
 have hD:frD a b=if b / (Int.gcd a b:Int)<0 then -(b / (Int.gcd a b:Int)) else b / (Int.gcd a b:Int):=rfl
 generalize (Int.gcd a b:Int)=g at *;have c1:=oX a g n ba bg hn hng;have c2:=oX b g n bb bg hn hng;have q1:Bt (a / g) n:=ia g ba;have q2:Bt (b / g) n:=ia g bb;have o1:=cOf 1 (by omega);have b1:=mE (n+1) (Nat.succ_ne_zero n);have cs:=mT (b / g) n q2 (by omega);by_cases h:b / g<0
 ·rw[if_pos h] at hN hD;have hs:=v6.2 h;have c3:=qM (a / g) n q1 (by omega);have c4:=qM (b / g) n q2 (by omega);have c5:=qL (-(b / g)) 1 (n+1) (q2.neg.mono (Nat.le_succ n)) b1 (by omega);rw[hN,hD];refine tJ.con rfl (by simp) ?_;(repeat first|with_reducible refine kp [2,3,4] ?_|simp only[kV,simprocAttr,csM,aq,ar,ax]|refine aN ?_);refine⟨_,cx (cg),ulc ?_⟩;(repeat first|with_reducible refine kp [2,3,4,5] ?_|simp only[kV,simprocAttr,csM,aq,ar]|refine aN ?_);refine⟨_,cx (c1),ulc ?_⟩;(repeat first|with_reducible refine kp [2,3,4,5] ?_|simp only[kV,simprocAttr,csM,aq,ar,flt]|refine aN ?_);refine⟨_,cx (c2),ulc ?_⟩;(repeat first|with_reducible refine kp [2,3,4] ?_|simp only[kV,simprocAttr,csM,aq,ar,flt]|refine aN ?_);refine⟨_,cx (cs),ulc ?_⟩;(repeat first|with_reducible refine kp [2,3,4,25] ?_|simp only[kV,simprocAttr,csM,aq,ar,hs]|refine aN ?_);refine ulk ?_;(repeat first|simp only[kV,simprocAttr,csM,aq,ar,hs]|refine aN ?_);refine⟨_,cx (c3),ulc ?_⟩;(repeat first|simp only[kV,simprocAttr,csM,aq,ar]|refine aN ?_);refine⟨_,cx (c4),ulc ?_⟩;(repeat first|with_reducible refine kp [2,3,4] ?_|simp only[kV,simprocAttr,csM,aq,ar]|refine aN ?_);refine⟨_,cx (o1),ulc ?_⟩;(repeat first|simp only[kV,simprocAttr,csM,aq,ar]|refine aN ?_);refine⟨_,cx (c5),ulc ?_⟩;(repeat first|with_reducible refine kp [4] ?_|simp only[kV,simprocAttr,csM,aq,ar,ac,ah,ae,af]|refine aN ?_)
 ·rw[if_neg h] at hN hD;have hs:¬ bJ (b / g)<0:=fun hh=>h (v6.1 hh)
  have c5:=qL (b / g) 1 (n+1) (q2.mono (Nat.le_succ n)) b1 (by omega);rw[hN,hD];refine tJ.con rfl (by simp) ?_;(repeat first|with_reducible refine kp [2,3,4] ?_|simp only[kV,simprocAttr,csM,aq,ar,ax]|refine aN ?_);refine⟨_,cx (cg),ulc ?_⟩;(repeat first|with_reducible refine kp [2,3,4,5] ?_|simp only[kV,simprocAttr,csM,aq,ar]|refine aN ?_);refine⟨_,cx (c1),ulc ?_⟩;(repeat first|with_reducible refine kp [2,3,4,5] ?_|simp only[kV,simprocAttr,csM,aq,ar,flt]|refine aN ?_);refine⟨_,cx (c2),ulc ?_⟩;(repeat first|with_reducible refine kp [2,3,4] ?_|simp only[kV,simprocAttr,csM,aq,ar,flt]|refine aN ?_);refine⟨_,cx (cs),ulc ?_⟩;(repeat first|with_reducible refine kp [2,3,4,25] ?_|simp only[kV,simprocAttr,csM,aq,ar,hs]|refine aN ?_);refine ulk ?_;(repeat first|with_reducible refine kp [2,3,4] ?_|simp only[kV,simprocAttr,csM,aq,ar,hs]|refine aN ?_);refine⟨_,cx (o1),ulc ?_⟩;(repeat first|simp only[kV,simprocAttr,csM,aq,ar]|refine aN ?_);refine⟨_,cx (c5),ulc ?_⟩;(repeat first|with_reducible refine kp [4] ?_|simp only[kV,simprocAttr,csM,aq,ar,ac,ah,ae,af]|refine aN ?_)
theorem IO (a:Int) (n:Nat) (ba:Bt a n) (hn:n≤2048000000000):Con Tryz.prog AN 94 [aT a] (bQ a 1):=by
 refine zah.con rfl (by simp) ?_;(repeat first|with_reducible refine kp [1,2] ?_|simp only[kV,simprocAttr,csM,aq,ar,bf,ac,ah,ae,af,aP]|refine aN ?_)
theorem kj {z:Int}{n:Nat} (h:Bt z n) (hn:n≤2048000000000):(dec z).length≤8796093022210:=zcy (fsm h hn)
theorem mG (a b:Int) (n:Nat) (ba:Bt a n) (bb:Bt b n) (hn:n≤2048000000000):Con Tryz.prog AN 59 [bQ a b] (.str (frText a b)):=by
 have e1:bJ (b-1)=0↔b=1:=by rw[zjg];omega
 have cs:=mT (b-1) (n+1) (v7 bb) (by omega);have l1:=kj ba hn;have l2:=kj bb hn;by_cases hb:b=1
 ·have hs:=e1.2 hb;rw[show frText a b=dec a from if_pos hb];refine tK.con rfl (by simp) ?_;(repeat first|with_reducible refine kp [1] ?_|simp only[kV,simprocAttr,csM,aq,ar,bf]|refine aN ?_);refine⟨_,cx (cs),ulc ?_⟩;(repeat first|with_reducible refine kp [1,6] ?_|simp only[kV,simprocAttr,csM,aq,ar,hs]|refine aN ?_);refine ulk ?_;(repeat first|simp only[kV,simprocAttr,csM,aq,ar,hs]|refine aN ?_);refine⟨_,cx (mQ a n ba hn),ulc ?_⟩;(repeat first|with_reducible refine kp [2] ?_|simp only[kV,simprocAttr,csM,aq,ar,ac,ah,ae,af]|refine aN ?_)
 ·have hs:¬ bJ (b-1)=0:=fun h=>hb (e1.1 h)
  rw[show frText a b=dec a++47::dec b from if_neg hb];refine tK.con rfl (by simp) ?_;(repeat first|with_reducible refine kp [1] ?_|simp only[kV,simprocAttr,csM,aq,ar,bf]|refine aN ?_);refine⟨_,cx (cs),ulc ?_⟩;(repeat first|with_reducible refine kp [1,6] ?_|simp only[kV,simprocAttr,csM,aq,ar,hs]|refine aN ?_);refine ulk ?_;(repeat first|with_reducible refine kp [1] ?_|simp only[kV,simprocAttr,csM,aq,ar,hs]|refine aN ?_);refine⟨_,cx (mQ a n ba hn),ulc ?_⟩;(repeat first|simp only[kV,simprocAttr,csM,aq,ar]|refine aN ?_);refine⟨_,cx (gC a b n ba bb hn),ulc ?_⟩;(repeat first|simp only[kV,simprocAttr,csM,aq,ar]|refine aN ?_);refine⟨_,cx (mQ b n bb hn),ulc ?_⟩;(repeat first|with_reducible refine kp [2] ?_|simp only[kV,simprocAttr,csM,aq,ar,ac,ah,ae,af]|refine aN ?_);rw[List.append_assoc];rfl
theorem km (a b:Int) (n:Nat) (ba:Bt a n) (bb:Bt b n) (hn:n≤2048000000000):Con Tryz.prog AN 27 [bR a b] (.str (frText a b)):=by
 have l1:=kj ba hn;have l2:=kj bb hn;by_cases hb:b=1
 ·have hs:=Z4.dec_one.2 hb;rw[show frText a b=dec a from if_pos hb];refine vQ.con rfl (by simp) ?_;(repeat first|with_reducible refine kp [1] ?_|simp only[kV,simprocAttr,csM,aq,ar,bf]|refine aN ?_);refine⟨_,cx (i9 b n bb hn),ulc ?_⟩;(repeat first|with_reducible refine kp [1,6] ?_|simp only[kV,simprocAttr,csM,aq,ar,hs]|refine aN ?_);refine ulk ?_;(repeat first|simp only[kV,simprocAttr,csM,aq,ar,hs]|refine aN ?_);refine⟨_,cx (i9 a n ba hn),ulc ?_⟩;(repeat first|with_reducible refine kp [2] ?_|simp only[kV,simprocAttr,csM,aq,ar,ac,ah,ae,af]|refine aN ?_)
 ·have hs:¬ dec b=[49]:=fun h=>hb (Z4.dec_one.1 h)
  rw[show frText a b=dec a++47::dec b from if_neg hb];refine vQ.con rfl (by simp) ?_;(repeat first|with_reducible refine kp [1] ?_|simp only[kV,simprocAttr,csM,aq,ar,bf]|refine aN ?_);refine⟨_,cx (i9 b n bb hn),ulc ?_⟩;(repeat first|with_reducible refine kp [1,6] ?_|simp only[kV,simprocAttr,csM,aq,ar,hs]|refine aN ?_);refine ulk ?_;(repeat first|with_reducible refine kp [1] ?_|simp only[kV,simprocAttr,csM,aq,ar,hs]|refine aN ?_);refine⟨_,cx (i9 a n ba hn),ulc ?_⟩;(repeat first|simp only[kV,simprocAttr,csM,aq,ar]|refine aN ?_);refine⟨_,cx (i9 b n bb hn),ulc ?_⟩;(repeat first|with_reducible refine kp [2] ?_|simp only[kV,simprocAttr,csM,aq,ar,ac,ah,ae,af]|refine aN ?_);rw[List.append_assoc];rfl
end Go.Proofs.YtbnhgnhgbhjkcaaGreat.M
