/- Lemmas. -/
import Derived.Test.YtbnhgnhgbhjkcaaGreatK36
set_option linter.defProp false
set_option linter.unusedSimpArgs false
set_option linter.unusedVariables false
namespace Go.Proofs.YtbnhgnhgbhjkcaaGreat.M
open Go.RowKit
set_option maxHeartbeats 2000000
def hI (z:Int):D:=.bool (decide (z<0))
def lI (z:Int):D:=.list 173 1 ((digs 4294967296 z.natAbs).map (D.int .u32))
def hZ (z:Int):D:=.bool (decide (z<0))
def lZ (z:Int):D:=.list 3 1 ((digs 10000 z.natAbs).map (D.int .i64))
theorem Jq (z:Int):(hI z).one=true:=rfl
theorem Jr (z:Int):(lI z).one=true:=rfl
theorem Js (z:Int):(hZ z).one=true:=rfl
theorem Jt (z:Int):(lZ z).one=true:=rfl
theorem Ju (z:Int):(aW z).cells=[hI z,lI z]:=rfl
theorem Jv (z:Int):(aF z).cells=[hZ z,lZ z]:=rfl
theorem Jw (a b:Int):(ch a b).cells=[hI a,lI a,hI (b-1),lI (b-1)]:=rfl
theorem Jx (a b:Int):(bT a b).cells=[hZ a,lZ a,hZ b,lZ b]:=rfl
theorem Jy (z:Int):(aW z).isAgg=true:=rfl
theorem Jz (z:Int):(aF z).isAgg=true:=rfl
theorem JA (a b:Int):(ch a b).isAgg=true:=rfl
theorem JB (a b:Int):(bT a b).isAgg=true:=rfl
theorem JC (z:Int):D.agg [hZ z,lZ z]=aF z:=rfl
theorem JD (a b:Int):D.agg [hZ a,lZ a,hZ b,lZ b]=bT a b:=rfl
theorem JE (b:Int):D.agg [.bool false,.list 3 1 [],hZ b,lZ b]=bT 0 b:=by
 have e:digs 10000 0=[]:=by rw[digs];simp
 unfold bT;rw[show (0:Int).natAbs=0 from rfl,e];rfl
theorem JF (a b:Int):(bT a b).part 0 2 true=some (aF a):=rfl
theorem JG (a b:Int):(bT a b).part 2 2 true=some (aF b):=rfl
theorem mp (n:Nat) (h:n≠0):Bt 1 n:=by unfold Bt;exact Nat.one_lt_two_pow h
theorem f6:Bt 1 4000:=mp 4000 (by omega)
theorem JH (t:List UInt8) (k:Nat):(t.drop k).take (t.length-k)=t.drop k:=List.take_of_length_le (by simp)
theorem JI (t:List UInt8) (k:Nat):(t.drop (k+1)).take (t.length-k-1)=t.drop (k+1):=List.take_of_length_le (by simp;omega)
theorem JJ (t:List UInt8) (i:Nat):(((t.getD i 0).toNat:Nat):Int)=(byt t i:Int):=rfl
def csN:=an @Jq (an @Jr (an @Js (an @Jt (an @Ju (an @Jv (an @Jw (an @Jx (an @Jy (an @Jz (an @JA (an @JB (an @JC (an @JD (an @JE (an @JF (an @JG (an @JH (an @JI (@JJ)))))))))))))))))))
def csM:=an csN (an @AV.mk.eq_1 (an @dt.eq_1 (an @dt.eq_2 (an @AV.pure.eq_1 (an @AV.pure.eq_2 (an @AV.pure.eq_3 (an @AV.pure.eq_4 (an @cD.eq_1 (an @cD.eq_2 (an @flt.eq_1 (an @AV.get.eq_1 (an @AV.part.eq_1 (an @AV.part.eq_2 (an @D.part.eq_1 (@fR.eq_1)))))))))))))))
theorem aq (z:Int):D.agg [hI z,lI z]=aW z:=rfl
theorem ar (a b:Int):D.agg [hI a,lI a,hI (b-1),lI (b-1)]=ch a b:=rfl
theorem aQ (a:Int):D.agg [hI a,lI a,.bool false,.list 173 1 []]=ch a 1:=by
 have e:digs 4294967296 0=[]:=by rw[digs];simp
 unfold ch;rw[show ((1:Int)-1).natAbs=0 from rfl,e];rfl
theorem aS:D.agg [.bool false,.list 173 1 [],.bool false,.list 173 1 []]=ch 0 1:=by
 have e:digs 4294967296 0=[]:=by rw[digs];simp
 unfold ch;rw[show (0:Int).natAbs=0 from rfl,show ((1:Int)-1).natAbs=0 from rfl,e];rfl
theorem f7 (a b:Int) (n:Nat) (ba:Bt a n) (bb:Bt b n) (hn:n≤2048000000000):Con Tryz.prog AN 92 [ch a b] (aW b):=by
 have c2:=mA (b-1) 1 (n+1) (ve bb) (mp _ (Nat.succ_ne_zero n)) (by omega);rw[show b-1+1=b by omega] at c2;refine zbR.con rfl (by simp) ?_;(repeat first|with_reducible refine kp [1,2] ?_|simp only[kV,simprocAttr,csM,aq,ar,aZ]|refine aN ?_);refine⟨_,cx (cOf 1 (by omega)),ulc ?_⟩;(repeat first|simp only[kV,simprocAttr,csM,aq,ar]|refine aN ?_);refine⟨_,cx (c2),ulc ?_⟩;(repeat first|with_reducible refine kp [2] ?_|simp only[kV,simprocAttr,csM,aq,ar,ab,ah,af,ac]|refine aN ?_)
theorem mq (a b:Int) (n:Nat) (ba:Bt a n) (bb:Bt b n) (hn:n≤4147200000000) (hb0:b≠0):Con Tryz.prog AN 82 [aW a,aW b] (ch (frN a b) (frD a b)):=by
 have hng:=vc (a:=a) hb0;have cg:=zfk a b n ba bb hn;have bg:Bt (Int.gcd a b:Int) n:=bb.le (by
  have:=Nat.le_of_dvd (by omega) (Int.gcd_dvd_natAbs_right a b);omega)
 have hN:frN a b=if b / (Int.gcd a b:Int)<0 then -(a / (Int.gcd a b:Int)) else a / (Int.gcd a b:Int):=rfl
 have hD:frD a b=if b / (Int.gcd a b:Int)<0 then -(b / (Int.gcd a b:Int)) else b / (Int.gcd a b:Int):=rfl
 generalize (Int.gcd a b:Int)=g at *;have c1:=oE a g n ba bg hn hng;have c2:=oE b g n bb bg hn hng;have q1:Bt (a / g) n:=gV g ba;have q2:Bt (b / g) n:=gV g bb;have o1:=cOf 1 (by omega);have b1:=mp (n+1) (Nat.succ_ne_zero n);have cs:=mB (b / g) n q2 (by omega);by_cases h:b / g<0
 ·rw[if_pos h] at hN hD;have hs:=vd.2 h;have c3:=qg (a / g) n q1 (by omega);have c4:=qg (b / g) n q2 (by omega);have c5:=qf (-(b / g)) 1 (n+1) (q2.neg.mono (Nat.le_succ n)) b1 (by omega);rw[hN,hD];refine sB.con rfl (by simp) ?_;(repeat first|with_reducible refine kp [2,3,4] ?_|simp only[kV,simprocAttr,csM,aq,ar,ax]|refine aN ?_);refine⟨_,cx (cg),ulc ?_⟩;(repeat first|with_reducible refine kp [2,3,4,5] ?_|simp only[kV,simprocAttr,csM,aq,ar]|refine aN ?_);refine⟨_,cx (c1),ulc ?_⟩;(repeat first|with_reducible refine kp [2,3,4,5] ?_|simp only[kV,simprocAttr,csM,aq,ar,flt]|refine aN ?_);refine⟨_,cx (c2),ulc ?_⟩;(repeat first|with_reducible refine kp [2,3,4] ?_|simp only[kV,simprocAttr,csM,aq,ar,flt]|refine aN ?_);refine⟨_,cx (cs),ulc ?_⟩;(repeat first|with_reducible refine kp [2,3,4,25] ?_|simp only[kV,simprocAttr,csM,aq,ar,hs]|refine aN ?_);refine ulk ?_;(repeat first|simp only[kV,simprocAttr,csM,aq,ar,hs]|refine aN ?_);refine⟨_,cx (c3),ulc ?_⟩;(repeat first|simp only[kV,simprocAttr,csM,aq,ar]|refine aN ?_);refine⟨_,cx (c4),ulc ?_⟩;(repeat first|with_reducible refine kp [2,3,4] ?_|simp only[kV,simprocAttr,csM,aq,ar]|refine aN ?_);refine⟨_,cx (o1),ulc ?_⟩;(repeat first|simp only[kV,simprocAttr,csM,aq,ar]|refine aN ?_);refine⟨_,cx (c5),ulc ?_⟩;(repeat first|with_reducible refine kp [4] ?_|simp only[kV,simprocAttr,csM,aq,ar,ab,ah,af,ac]|refine aN ?_)
 ·rw[if_neg h] at hN hD;have hs:¬ bw (b / g)<0:=fun hh=>h (vd.1 hh)
  have c5:=qf (b / g) 1 (n+1) (q2.mono (Nat.le_succ n)) b1 (by omega);rw[hN,hD];refine sB.con rfl (by simp) ?_;(repeat first|with_reducible refine kp [2,3,4] ?_|simp only[kV,simprocAttr,csM,aq,ar,ax]|refine aN ?_);refine⟨_,cx (cg),ulc ?_⟩;(repeat first|with_reducible refine kp [2,3,4,5] ?_|simp only[kV,simprocAttr,csM,aq,ar]|refine aN ?_);refine⟨_,cx (c1),ulc ?_⟩;(repeat first|with_reducible refine kp [2,3,4,5] ?_|simp only[kV,simprocAttr,csM,aq,ar,flt]|refine aN ?_);refine⟨_,cx (c2),ulc ?_⟩;(repeat first|with_reducible refine kp [2,3,4] ?_|simp only[kV,simprocAttr,csM,aq,ar,flt]|refine aN ?_);refine⟨_,cx (cs),ulc ?_⟩;(repeat first|with_reducible refine kp [2,3,4,25] ?_|simp only[kV,simprocAttr,csM,aq,ar,hs]|refine aN ?_);refine ulk ?_;(repeat first|with_reducible refine kp [2,3,4] ?_|simp only[kV,simprocAttr,csM,aq,ar,hs]|refine aN ?_);refine⟨_,cx (o1),ulc ?_⟩;(repeat first|simp only[kV,simprocAttr,csM,aq,ar]|refine aN ?_);refine⟨_,cx (c5),ulc ?_⟩;(repeat first|with_reducible refine kp [4] ?_|simp only[kV,simprocAttr,csM,aq,ar,ab,ah,af,ac]|refine aN ?_)
theorem jU {z:Int}{n:Nat} (h:Bt z n) (hn:n≤2048000000000):(dec z).length≤8796093022210:=zeK (fsm h hn)
theorem mr (a b:Int) (n:Nat) (ba:Bt a n) (bb:Bt b n) (hn:n≤2048000000000):Con Tryz.prog AN 59 [ch a b] (.str (frText a b)):=by
 have e1:bw (b-1)=0↔b=1:=by rw[zmt];omega
 have cs:=mB (b-1) (n+1) (ve bb) (by omega);have l1:=jU ba hn;have l2:=jU bb hn;by_cases hb:b=1
 ·have hs:=e1.2 hb;rw[show frText a b=dec a from if_pos hb];refine sC.con rfl (by simp) ?_;(repeat first|with_reducible refine kp [1] ?_|simp only[kV,simprocAttr,csM,aq,ar,aZ]|refine aN ?_);refine⟨_,cx (cs),ulc ?_⟩;(repeat first|with_reducible refine kp [1,6] ?_|simp only[kV,simprocAttr,csM,aq,ar,hs]|refine aN ?_);refine ulk ?_;(repeat first|simp only[kV,simprocAttr,csM,aq,ar,hs]|refine aN ?_);refine⟨_,cx (mz a n ba hn),ulc ?_⟩;(repeat first|with_reducible refine kp [2] ?_|simp only[kV,simprocAttr,csM,aq,ar,ab,ah,af,ac]|refine aN ?_)
 ·have hs:¬ bw (b-1)=0:=fun h=>hb (e1.1 h)
  rw[show frText a b=dec a++47::dec b from if_neg hb];refine sC.con rfl (by simp) ?_;(repeat first|with_reducible refine kp [1] ?_|simp only[kV,simprocAttr,csM,aq,ar,aZ]|refine aN ?_);refine⟨_,cx (cs),ulc ?_⟩;(repeat first|with_reducible refine kp [1,6] ?_|simp only[kV,simprocAttr,csM,aq,ar,hs]|refine aN ?_);refine ulk ?_;(repeat first|with_reducible refine kp [1] ?_|simp only[kV,simprocAttr,csM,aq,ar,hs]|refine aN ?_);refine⟨_,cx (mz a n ba hn),ulc ?_⟩;(repeat first|simp only[kV,simprocAttr,csM,aq,ar]|refine aN ?_);refine⟨_,cx (f7 a b n ba bb hn),ulc ?_⟩;(repeat first|simp only[kV,simprocAttr,csM,aq,ar]|refine aN ?_);refine⟨_,cx (mz b n bb hn),ulc ?_⟩;(repeat first|with_reducible refine kp [2] ?_|simp only[kV,simprocAttr,csM,aq,ar,ab,ah,af,ac]|refine aN ?_);rw[List.append_assoc];rfl
theorem jV (a b:Int) (n:Nat) (ba:Bt a n) (bb:Bt b n) (hn:n≤2048000000000):Con Tryz.prog AN 27 [bT a b] (.str (frText a b)):=by
 have l1:=jU ba hn;have l2:=jU bb hn;by_cases hb:b=1
 ·have hs:=Z4.dec_one.2 hb;rw[show frText a b=dec a from if_pos hb];refine uY.con rfl (by simp) ?_;(repeat first|with_reducible refine kp [1] ?_|simp only[kV,simprocAttr,csM,aq,ar,aZ]|refine aN ?_);refine⟨_,cx (iU b n bb hn),ulc ?_⟩;(repeat first|with_reducible refine kp [1,6] ?_|simp only[kV,simprocAttr,csM,aq,ar,hs]|refine aN ?_);refine ulk ?_;(repeat first|simp only[kV,simprocAttr,csM,aq,ar,hs]|refine aN ?_);refine⟨_,cx (iU a n ba hn),ulc ?_⟩;(repeat first|with_reducible refine kp [2] ?_|simp only[kV,simprocAttr,csM,aq,ar,ab,ah,af,ac]|refine aN ?_)
 ·have hs:¬ dec b=[49]:=fun h=>hb (Z4.dec_one.1 h)
  rw[show frText a b=dec a++47::dec b from if_neg hb];refine uY.con rfl (by simp) ?_;(repeat first|with_reducible refine kp [1] ?_|simp only[kV,simprocAttr,csM,aq,ar,aZ]|refine aN ?_);refine⟨_,cx (iU b n bb hn),ulc ?_⟩;(repeat first|with_reducible refine kp [1,6] ?_|simp only[kV,simprocAttr,csM,aq,ar,hs]|refine aN ?_);refine ulk ?_;(repeat first|with_reducible refine kp [1] ?_|simp only[kV,simprocAttr,csM,aq,ar,hs]|refine aN ?_);refine⟨_,cx (iU a n ba hn),ulc ?_⟩;(repeat first|simp only[kV,simprocAttr,csM,aq,ar]|refine aN ?_);refine⟨_,cx (iU b n bb hn),ulc ?_⟩;(repeat first|with_reducible refine kp [2] ?_|simp only[kV,simprocAttr,csM,aq,ar,ab,ah,af,ac]|refine aN ?_);rw[List.append_assoc];rfl
end Go.Proofs.YtbnhgnhgbhjkcaaGreat.M
