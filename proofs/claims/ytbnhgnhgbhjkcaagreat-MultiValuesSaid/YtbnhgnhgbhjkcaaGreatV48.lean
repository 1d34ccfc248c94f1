/- Lemmas. -/
import Derived.Test.YtbnhgnhgbhjkcaaGreatV46
import Derived.Test.YtbnhgnhgbhjkcaaGreatV27
set_option linter.defProp false
set_option linter.unusedSimpArgs false
set_option linter.unusedVariables false
namespace Go.Proofs.YtbnhgnhgbhjkcaaGreat.M
open Go.RowKit
set_option maxRecDepth 20000
set_option maxHeartbeats 2000000
theorem az (x:Rat):(qZ x).cells.length=4:=rfl
theorem aA (x:Rat):((qZ x).cells.map AV.p).all AV.one=true:=rfl
theorem oY (T U:Nat) (l:List At) (n ord:Int) (hl:l.length≤9223372036854775807) (hs:∀t∈l,t.1.length≤9223372036854775807) :
  Con Tryz.prog AN 13 [LTa T U l,J n,J ord] (flt (fM l n ord).1 (fM l n ord).2):=by
 by_cases n1:n<1
 ·have e:fM l n ord=(7,0):=if_pos (.inl n1);rw[e];refine ik.con rfl (by simp) ?_;(repeat first|with_reducible refine kp [0,1,2,6,16] ?_|simp only[kV,simprocAttr,aa,az,aA,bh,n1]|refine aN ?_);refine ulk ?_;(repeat first|simp only[kV,simprocAttr,aa,az,aA,n1]|refine aN ?_);refine⟨_,cx (fl 7 0),ulc ?_⟩;(repeat first|with_reducible refine kp [6] ?_|simp only[kV,simprocAttr,aa,az,aA,ac,ah,ae,af]|refine aN ?_)
 by_cases n2:4<n
 ·have e:fM l n ord=(7,0):=if_pos (.inr n2);rw[e];refine ik.con rfl (by simp) ?_;(repeat first|with_reducible refine kp [0,1,2,6,16] ?_|simp only[kV,simprocAttr,aa,az,aA,bh,n1,n2]|refine aN ?_);refine ulk ?_;(repeat first|simp only[kV,simprocAttr,aa,az,aA,n1]|refine aN ?_);refine⟨_,cx (fl 7 0),ulc ?_⟩;(repeat first|with_reducible refine kp [6] ?_|simp only[kV,simprocAttr,aa,az,aA,ac,ah,ae,af]|refine aN ?_)
 by_cases o1:ord<0
 ·have e:fM l n ord=(11,0):=by unfold fM;rw[if_neg (by omega),if_pos (.inl o1)]
  rw[e];refine ik.con rfl (by simp) ?_;(repeat first|with_reducible refine kp [0,1,2,6,16] ?_|simp only[kV,simprocAttr,aa,az,aA,bh,n1,n2]|refine aN ?_);(try simp only[kV,simprocAttr,aa,az,aA,o1]);refine ulk ?_;(repeat first|with_reducible refine kp [0,1,2,6,23] ?_|simp only[kV,simprocAttr,aa,az,aA,o1]|refine aN ?_);refine ulk ?_;(repeat first|simp only[kV,simprocAttr,aa,az,aA,o1]|refine aN ?_);refine⟨_,cx (fl 11 0),ulc ?_⟩;(repeat first|with_reducible refine kp [6] ?_|simp only[kV,simprocAttr,aa,az,aA,ac,ah,ae,af]|refine aN ?_)
 by_cases o2:2<ord
 ·have e:fM l n ord=(11,0):=by unfold fM;rw[if_neg (by omega),if_pos (.inr o2)]
  rw[e];refine ik.con rfl (by simp) ?_;(repeat first|with_reducible refine kp [0,1,2,6,16] ?_|simp only[kV,simprocAttr,aa,az,aA,bh,n1,n2]|refine aN ?_);(try simp only[kV,simprocAttr,aa,az,aA,o1,o2]);refine ulk ?_;(repeat first|with_reducible refine kp [0,1,2,6,23] ?_|simp only[kV,simprocAttr,aa,az,aA,o1,o2]|refine aN ?_);refine ulk ?_;(repeat first|simp only[kV,simprocAttr,aa,az,aA,o1]|refine aN ?_);refine⟨_,cx (fl 11 0),ulc ?_⟩;(repeat first|with_reducible refine kp [6] ?_|simp only[kV,simprocAttr,aa,az,aA,ac,ah,ae,af]|refine aN ?_)
 by_cases h4:400<l.length
 ·have e:fM l n ord=(9,0):=by unfold fM;rw[if_neg (by omega),if_neg (by omega),if_pos h4]
  have h4I:(400:Int)<(l.length:Int):=by omega
  rw[e];refine ik.con rfl (by simp) ?_;(repeat first|with_reducible refine kp [0,1,2,6,16] ?_|simp only[kV,simprocAttr,aa,az,aA,bh,n1,n2]|refine aN ?_);(try simp only[kV,simprocAttr,aa,az,aA,o1,o2]);refine ulk ?_;(repeat first|with_reducible refine kp [0,1,2,6,23] ?_|simp only[kV,simprocAttr,aa,az,aA,o1,o2]|refine aN ?_);(try simp only[kV,simprocAttr,aa,az,aA,h4I]);refine ulk ?_;(repeat first|with_reducible refine kp [0,1,6,27] ?_|simp only[kV,simprocAttr,aa,az,aA,h4I]|refine aN ?_);refine ulk ?_;(repeat first|simp only[kV,simprocAttr,aa,az,aA,h4I]|refine aN ?_);refine⟨_,cx (fl 9 0),ulc ?_⟩;(repeat first|with_reducible refine kp [6] ?_|simp only[kV,simprocAttr,aa,az,aA,ac,ah,ae,af]|refine aN ?_)
 have e:fM l n ord=fLs n 0 l:=by unfold fM;rw[if_neg (by omega),if_neg (by omega),if_neg h4]
 have h4I:¬ (400:Int)<(l.length:Int):=by omega
 rw[e];refine ik.con rfl (by simp) ?_;(repeat first|with_reducible refine kp [0,1,2,6,16] ?_|simp only[kV,simprocAttr,aa,az,aA,bh,n1,n2]|refine aN ?_);(try simp only[kV,simprocAttr,aa,az,aA,o1,o2]);refine ulk ?_;(repeat first|with_reducible refine kp [0,1,2,6,23] ?_|simp only[kV,simprocAttr,aa,az,aA,o1,o2]|refine aN ?_);(try simp only[kV,simprocAttr,aa,az,aA,h4I]);refine ulk ?_;(repeat first|with_reducible refine kp [0,1,6,27] ?_|simp only[kV,simprocAttr,aa,az,aA,h4I]|refine aN ?_);refine ulk ?_;(repeat first|simp only[kV,simprocAttr,aa,az,aA,h4I]|refine aN ?_);refine kp [0,1,6] ?_;(repeat first|simp only[kV,simprocAttr,aa,az,aA,h4I]|refine aN ?_);refine kp [0,1,6,7] ?_;(repeat first|simp only[kV,simprocAttr,aa,az,aA,h4I]|refine aN ?_);refine aE (ι:=Nat) (fun i=>i≤l.length∧fLs n i (l.drop i)=fLs n 0 l) (fun i=>⟨ai [(0,.p (LTa T U l)),(1,.p (J n)),(6,.ptr 6 0 0),(7,.p (J i))],
  aw [(6,⟨25,2,.box (.p (flt 0 0)),false⟩)]⟩) (fun i=>l.length-i) 0 ⟨Nat.zero_le _,rfl⟩ (Sub.toG [0,1,6,7] [9,10]) ?_
 rintro i ⟨hi,he⟩;by_cases h:i<l.length
 ·have hI:(i:Int)<(l.length:Int):=by omega
  have g1:=gS (U:=U) h;have hst:=hs _ (fY h);rw[uV h,fLs] at he;generalize at0 l i=t at *;obtain⟨c,e⟩:=t;by_cases hlen:(e.length:Int)=n
  ·(repeat first|with_reducible refine kp [0,1,6,7,32] ?_|simp only[kV,simprocAttr,aa,az,aA,hI]|refine aN ?_);(try simp only[kV,simprocAttr,aa,az,aA,hI,g1,h]);refine ulk ?_;(repeat first|with_reducible refine kp [0,1,6,7,42] ?_|simp only[kV,simprocAttr,aa,az,aA,hI,g1,h]|refine aN ?_);(try simp only[kV,simprocAttr,aa,az,aA,hlen]);refine ulk ?_;(repeat first|simp only[kV,simprocAttr,aa,az,aA,hlen]|refine aN ?_);refine kp [0,1,6,7] ?_;(repeat first|simp only[kV,simprocAttr,aa,az,aA,hlen]|refine aN ?_);refine kp [0,1,6,7,8] ?_;(repeat first|simp only[kV,simprocAttr,aa,az,aA,hlen]|refine aN ?_);refine aE (ι:=Nat) (fun j=>j≤e.length∧∀k,k<j→0≤e.getD k 0∧e.getD k 0≤40) (fun j=>⟨ai [(0,.p (LTa T U l)),(1,.p (J n)),(6,.ptr 6 0 0),(7,.p (J i)),(8,.p (J j))],
    aw [(6,⟨25,2,.box (.p (flt 0 0)),false⟩)]⟩) (fun j=>e.length-j) 0 ⟨Nat.zero_le _,fun k hk=>by omega⟩ (Sub.toG [0,1,6,7,8] [9,10]) ?_
   rintro j ⟨hj,hb⟩;by_cases h':j<e.length
   ·have hJ:(j:Int)<n:=by omega
    have hJ2:(j:Int)<(e.length:Int):=by omega
    have g2:=uX h';by_cases b1:e.getD j 0<0
    ·have hf:=lN (t:=(c,e)) hlen h' (fun hh=>by simp only at hh;omega);rw[hf,if_neg (by decide)] at he;(repeat first|with_reducible refine kp [0,1,6,7,8,47] ?_|simp only[kV,simprocAttr,aa,az,aA,hJ]|refine aN ?_);(try simp only[kV,simprocAttr,aa,az,aA,hI,g1,h,hJ,hJ2,g2,h',b1]);refine ulk ?_;(repeat first|with_reducible refine kp [0,1,6,7,8,69] ?_|simp only[kV,simprocAttr,aa,az,aA,hI,g1,h,hJ,hJ2,g2,h',b1]|refine aN ?_);refine ulk ?_;(repeat first|simp only[kV,simprocAttr,aa,az,aA,b1]|refine aN ?_);refine⟨_,cx (fl 7 i),ulc ?_⟩;(repeat first|with_reducible refine kp [6] ?_|simp only[kV,simprocAttr,aa,az,aA,ac,ah,ae,af]|refine aN ?_);rw[←he]
    by_cases b2:40<e.getD j 0
    ·have hf:=lN (t:=(c,e)) hlen h' (fun hh=>by simp only at hh;omega);rw[hf,if_neg (by decide)] at he;(repeat first|with_reducible refine kp [0,1,6,7,8,47] ?_|simp only[kV,simprocAttr,aa,az,aA,hJ]|refine aN ?_);(try simp only[kV,simprocAttr,aa,az,aA,hI,g1,h,hJ,hJ2,g2,h',b1,b2]);refine ulk ?_;(repeat first|with_reducible refine kp [0,1,6,7,8,69] ?_|simp only[kV,simprocAttr,aa,az,aA,hI,g1,h,hJ,hJ2,g2,h',b1,b2]|refine aN ?_);refine ulk ?_;(repeat first|simp only[kV,simprocAttr,aa,az,aA,b1]|refine aN ?_);refine⟨_,cx (fl 7 i),ulc ?_⟩;(repeat first|with_reducible refine kp [6] ?_|simp only[kV,simprocAttr,aa,az,aA,ac,ah,ae,af]|refine aN ?_);rw[←he]
    (repeat first|with_reducible refine kp [0,1,6,7,8,47] ?_|simp only[kV,simprocAttr,aa,az,aA,hJ]|refine aN ?_);(try simp only[kV,simprocAttr,aa,az,aA,hI,g1,h,hJ,hJ2,g2,h',b1,b2]);refine ulk ?_;(repeat first|with_reducible refine kp [0,1,6,7,8,69] ?_|simp only[kV,simprocAttr,aa,az,aA,hI,g1,h,hJ,hJ2,g2,h',b1,b2]|refine aN ?_);refine ulk ?_;(repeat first|with_reducible refine kp [0,1,6,7,8] ?_|simp only[kV,simprocAttr,aa,az,aA]|refine aN ?_);exact⟨j+1,⟨h',fun k hk=>by
     by_cases hkj:k<j
     ·exact hb k hkj
     ·obtain rfl:k=j:=by omega
      omega⟩,(Sub.toG [0,1,6,7,8] [9,10]),by omega⟩
   ·have hJ:¬ (j:Int)<n:=by omega
    have hf:=u4 (t:=(c,e)) hlen (fun k hk=>hb k (by simp only at hk;omega));rw[hf] at he;(repeat first|with_reducible refine kp [0,1,6,7,8,47] ?_|simp only[kV,simprocAttr,aa,az,aA,hJ]|refine aN ?_);(try simp only[kV,simprocAttr,aa,az,aA,hJ,hI,g1,h]);refine ulk ?_;(repeat first|with_reducible refine kp [0,1,6,7] ?_|simp only[kV,simprocAttr,aa,az,aA,hJ,hI,g1,h]|refine aN ?_);refine⟨_,cx (lK c hst),ulc ?_⟩;(repeat first|with_reducible refine kp [0,1,6,7,10,83] ?_|simp only[kV,simprocAttr,aa,az,aA]|refine aN ?_);by_cases hc:cR c=0
    ·rw[if_pos hc] at he;refine⟨fun h1=>absurd h1 (by rw[hc];simp),fun _ => ?_⟩;(try simp only[kV,simprocAttr,aa,az,aA]);refine ulk ?_;(repeat first|with_reducible refine kp [0,1,6,7] ?_|simp only[kV,simprocAttr,aa,az,aA]|refine aN ?_);exact⟨i+1,⟨h,he⟩,(Sub.toG [0,1,6,7] [9,10]),by omega⟩
    ·rw[if_neg hc] at he;refine⟨fun _ => ?_,fun h1=>absurd h1 (by rw[decide_eq_false hc];simp)⟩;(try simp only[kV,simprocAttr,aa,az,aA]);refine ulk ?_;(repeat first|simp only[kV,simprocAttr,aa,az,aA]|refine aN ?_);refine⟨_,cx (fl (cR c) i),ulc ?_⟩;(repeat first|with_reducible refine kp [6] ?_|simp only[kV,simprocAttr,aa,az,aA,ac,ah,ae,af]|refine aN ?_);rw[←he]
  ·have hf:=u3 (t:=(c,e)) hlen;rw[hf,if_neg (by decide)] at he;(repeat first|with_reducible refine kp [0,1,6,7,32] ?_|simp only[kV,simprocAttr,aa,az,aA,hI]|refine aN ?_);(try simp only[kV,simprocAttr,aa,az,aA,hI,g1,h]);refine ulk ?_;(repeat first|with_reducible refine kp [0,1,6,7,42] ?_|simp only[kV,simprocAttr,aa,az,aA,hI,g1,h]|refine aN ?_);(try simp only[kV,simprocAttr,aa,az,aA,hlen]);refine ulk ?_;(repeat first|simp only[kV,simprocAttr,aa,az,aA,hlen]|refine aN ?_);refine⟨_,cx (fl 8 i),ulc ?_⟩;(repeat first|with_reducible refine kp [6] ?_|simp only[kV,simprocAttr,aa,az,aA,ac,ah,ae,af]|refine aN ?_);rw[←he]
 ·have hI:¬ (i:Int)<(l.length:Int):=by omega
  rw[List.drop_of_length_le (by omega)] at he;(repeat first|with_reducible refine kp [0,1,6,7,32] ?_|simp only[kV,simprocAttr,aa,az,aA,hI]|refine aN ?_);refine ulk ?_;(repeat first|with_reducible refine kp [6] ?_|simp only[kV,simprocAttr,aa,az,aA,ac,ah,ae,af,hI]|refine aN ?_);rw[←he];rfl
end Go.Proofs.YtbnhgnhgbhjkcaaGreat.M
