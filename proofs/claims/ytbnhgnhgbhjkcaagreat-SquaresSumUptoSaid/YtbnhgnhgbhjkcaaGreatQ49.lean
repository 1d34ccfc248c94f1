/- Lemmas. -/
import Derived.Test.YtbnhgnhgbhjkcaaGreatQ46
import Derived.Test.YtbnhgnhgbhjkcaaGreatQ27
set_option linter.defProp false
set_option linter.unusedSimpArgs false
set_option linter.unusedVariables false
namespace Go.Proofs.YtbnhgnhgbhjkcaaGreat.M
set_option linter.unusedSimpArgs false
set_option maxRecDepth 20000
set_option maxHeartbeats 2000000
open Go.RowKit
theorem ac (x:Rat):(qZ x).cells.length=4:=rfl
theorem ae (x:Rat):((qZ x).cells.map AV.p).all AV.one=true:=rfl
theorem pG (T U:Nat) (l:List At) (n ord:Int) (hl:l.length≤9223372036854775807) (hs:∀t∈l,t.1.length≤9223372036854775807) :
  Con Tryz.prog AN 13 [LTa T U l,J n,J ord] (flt (fM l n ord).1 (fM l n ord).2):=by
 by_cases n1:n<1
 ·have e:fM l n ord=(7,0):=if_pos (.inl n1);rw[e];refine im.con rfl (by simp) ?_;(repeat first|with_reducible refine kp [0,1,2,6,16] ?_|simp only[kV,simprocAttr,aa,ac,ae,ci,n1]|refine aN ?_);refine ulk ?_;(repeat first|simp only[kV,simprocAttr,aa,ac,ae,n1]|refine aN ?_);refine⟨_,cx (fE 7 0),ulc ?_⟩;(repeat first|with_reducible refine kp [6] ?_|simp only[kV,simprocAttr,aa,ac,ae,af,ai,aq,ah]|refine aN ?_)
 by_cases n2:4<n
 ·have e:fM l n ord=(7,0):=if_pos (.inr n2);rw[e];refine im.con rfl (by simp) ?_;(repeat first|with_reducible refine kp [0,1,2,6,16] ?_|simp only[kV,simprocAttr,aa,ac,ae,ci,n1,n2]|refine aN ?_);refine ulk ?_;(repeat first|simp only[kV,simprocAttr,aa,ac,ae,n1]|refine aN ?_);refine⟨_,cx (fE 7 0),ulc ?_⟩;(repeat first|with_reducible refine kp [6] ?_|simp only[kV,simprocAttr,aa,ac,ae,af,ai,aq,ah]|refine aN ?_)
 by_cases o1:ord<0
 ·have e:fM l n ord=(11,0):=by unfold fM;rw[if_neg (by omega),if_pos (.inl o1)]
  rw[e];refine im.con rfl (by simp) ?_;(repeat first|with_reducible refine kp [0,1,2,6,16] ?_|simp only[kV,simprocAttr,aa,ac,ae,ci,n1,n2]|refine aN ?_);(try simp only[kV,simprocAttr,aa,ac,ae,o1]);refine ulk ?_;(repeat first|with_reducible refine kp [0,1,2,6,23] ?_|simp only[kV,simprocAttr,aa,ac,ae,o1]|refine aN ?_);refine ulk ?_;(repeat first|simp only[kV,simprocAttr,aa,ac,ae,o1]|refine aN ?_);refine⟨_,cx (fE 11 0),ulc ?_⟩;(repeat first|with_reducible refine kp [6] ?_|simp only[kV,simprocAttr,aa,ac,ae,af,ai,aq,ah]|refine aN ?_)
 by_cases o2:2<ord
 ·have e:fM l n ord=(11,0):=by unfold fM;rw[if_neg (by omega),if_pos (.inr o2)]
  rw[e];refine im.con rfl (by simp) ?_;(repeat first|with_reducible refine kp [0,1,2,6,16] ?_|simp only[kV,simprocAttr,aa,ac,ae,ci,n1,n2]|refine aN ?_);(try simp only[kV,simprocAttr,aa,ac,ae,o1,o2]);refine ulk ?_;(repeat first|with_reducible refine kp [0,1,2,6,23] ?_|simp only[kV,simprocAttr,aa,ac,ae,o1,o2]|refine aN ?_);refine ulk ?_;(repeat first|simp only[kV,simprocAttr,aa,ac,ae,o1]|refine aN ?_);refine⟨_,cx (fE 11 0),ulc ?_⟩;(repeat first|with_reducible refine kp [6] ?_|simp only[kV,simprocAttr,aa,ac,ae,af,ai,aq,ah]|refine aN ?_)
 by_cases h4:400<l.length
 ·have e:fM l n ord=(9,0):=by unfold fM;rw[if_neg (by omega),if_neg (by omega),if_pos h4]
  have h4I:(400:Int)<(l.length:Int):=by omega
  rw[e];refine im.con rfl (by simp) ?_;(repeat first|with_reducible refine kp [0,1,2,6,16] ?_|simp only[kV,simprocAttr,aa,ac,ae,ci,n1,n2]|refine aN ?_);(try simp only[kV,simprocAttr,aa,ac,ae,o1,o2]);refine ulk ?_;(repeat first|with_reducible refine kp [0,1,2,6,23] ?_|simp only[kV,simprocAttr,aa,ac,ae,o1,o2]|refine aN ?_);(try simp only[kV,simprocAttr,aa,ac,ae,h4I]);refine ulk ?_;(repeat first|with_reducible refine kp [0,1,6,27] ?_|simp only[kV,simprocAttr,aa,ac,ae,h4I]|refine aN ?_);refine ulk ?_;(repeat first|simp only[kV,simprocAttr,aa,ac,ae,h4I]|refine aN ?_);refine⟨_,cx (fE 9 0),ulc ?_⟩;(repeat first|with_reducible refine kp [6] ?_|simp only[kV,simprocAttr,aa,ac,ae,af,ai,aq,ah]|refine aN ?_)
 have e:fM l n ord=fLs n 0 l:=by unfold fM;rw[if_neg (by omega),if_neg (by omega),if_neg h4]
 have h4I:¬ (400:Int)<(l.length:Int):=by omega
 rw[e];refine im.con rfl (by simp) ?_;(repeat first|with_reducible refine kp [0,1,2,6,16] ?_|simp only[kV,simprocAttr,aa,ac,ae,ci,n1,n2]|refine aN ?_);(try simp only[kV,simprocAttr,aa,ac,ae,o1,o2]);refine ulk ?_;(repeat first|with_reducible refine kp [0,1,2,6,23] ?_|simp only[kV,simprocAttr,aa,ac,ae,o1,o2]|refine aN ?_);(try simp only[kV,simprocAttr,aa,ac,ae,h4I]);refine ulk ?_;(repeat first|with_reducible refine kp [0,1,6,27] ?_|simp only[kV,simprocAttr,aa,ac,ae,h4I]|refine aN ?_);refine ulk ?_;(repeat first|simp only[kV,simprocAttr,aa,ac,ae,h4I]|refine aN ?_);refine kp [0,1,6] ?_;(repeat first|simp only[kV,simprocAttr,aa,ac,ae,h4I]|refine aN ?_);refine kp [0,1,6,7] ?_;(repeat first|simp only[kV,simprocAttr,aa,ac,ae,h4I]|refine aN ?_);refine aB (ι:=Nat) (fun i=>i≤l.length∧fLs n i (l.drop i)=fLs n 0 l) (fun i=>⟨ar [(0,.p (LTa T U l)),(1,.p (J n)),(6,.ptr 6 0 0),(7,.p (J i))],
  au [(6,⟨25,2,.box (.p (flt 0 0)),false⟩)]⟩) (fun i=>l.length-i) 0 ⟨z9O _,rfl⟩ (Sub.toG [0,1,6,7] [9,10]) ?_
 rintro i ⟨hi,he⟩;by_cases h:i<l.length
 ·have hI:(i:Int)<(l.length:Int):=by omega
  have g1:=gS (U:=U) h;have hst:=hs _ (gg h);rw[vF h,fLs] at he;generalize at0 l i=t at *;obtain⟨c,e⟩:=t;by_cases hlen:(e.length:Int)=n
  ·(repeat first|with_reducible refine kp [0,1,6,7,32] ?_|simp only[kV,simprocAttr,aa,ac,ae,hI]|refine aN ?_);(try simp only[kV,simprocAttr,aa,ac,ae,hI,g1,h]);refine ulk ?_;(repeat first|with_reducible refine kp [0,1,6,7,42] ?_|simp only[kV,simprocAttr,aa,ac,ae,hI,g1,h]|refine aN ?_);(try simp only[kV,simprocAttr,aa,ac,ae,hlen]);refine ulk ?_;(repeat first|simp only[kV,simprocAttr,aa,ac,ae,hlen]|refine aN ?_);refine kp [0,1,6,7] ?_;(repeat first|simp only[kV,simprocAttr,aa,ac,ae,hlen]|refine aN ?_);refine kp [0,1,6,7,8] ?_;(repeat first|simp only[kV,simprocAttr,aa,ac,ae,hlen]|refine aN ?_);refine aB (ι:=Nat) (fun j=>j≤e.length∧∀k,k<j→0≤e.getD k 0∧e.getD k 0≤40) (fun j=>⟨ar [(0,.p (LTa T U l)),(1,.p (J n)),(6,.ptr 6 0 0),(7,.p (J i)),(8,.p (J j))],
    au [(6,⟨25,2,.box (.p (flt 0 0)),false⟩)]⟩) (fun j=>e.length-j) 0 ⟨z9O _,fun k hk=>by omega⟩ (Sub.toG [0,1,6,7,8] [9,10]) ?_
   rintro j ⟨hj,hb⟩;by_cases h':j<e.length
   ·have hJ:(j:Int)<n:=by omega
    have hJ2:(j:Int)<(e.length:Int):=by omega
    have g2:=vH h';by_cases b1:e.getD j 0<0
    ·have hf:=l7 (t:=(c,e)) hlen h' (fun hh=>by simp only at hh;omega);rw[hf,if_neg (by decide)] at he;(repeat first|with_reducible refine kp [0,1,6,7,8,47] ?_|simp only[kV,simprocAttr,aa,ac,ae,hJ]|refine aN ?_);(try simp only[kV,simprocAttr,aa,ac,ae,hI,g1,h,hJ,hJ2,g2,h',b1]);refine ulk ?_;(repeat first|with_reducible refine kp [0,1,6,7,8,69] ?_|simp only[kV,simprocAttr,aa,ac,ae,hI,g1,h,hJ,hJ2,g2,h',b1]|refine aN ?_);refine ulk ?_;(repeat first|simp only[kV,simprocAttr,aa,ac,ae,b1]|refine aN ?_);refine⟨_,cx (fE 7 i),ulc ?_⟩;(repeat first|with_reducible refine kp [6] ?_|simp only[kV,simprocAttr,aa,ac,ae,af,ai,aq,ah]|refine aN ?_);rw[←he]
    by_cases b2:40<e.getD j 0
    ·have hf:=l7 (t:=(c,e)) hlen h' (fun hh=>by simp only at hh;omega);rw[hf,if_neg (by decide)] at he;(repeat first|with_reducible refine kp [0,1,6,7,8,47] ?_|simp only[kV,simprocAttr,aa,ac,ae,hJ]|refine aN ?_);(try simp only[kV,simprocAttr,aa,ac,ae,hI,g1,h,hJ,hJ2,g2,h',b1,b2]);refine ulk ?_;(repeat first|with_reducible refine kp [0,1,6,7,8,69] ?_|simp only[kV,simprocAttr,aa,ac,ae,hI,g1,h,hJ,hJ2,g2,h',b1,b2]|refine aN ?_);refine ulk ?_;(repeat first|simp only[kV,simprocAttr,aa,ac,ae,b1]|refine aN ?_);refine⟨_,cx (fE 7 i),ulc ?_⟩;(repeat first|with_reducible refine kp [6] ?_|simp only[kV,simprocAttr,aa,ac,ae,af,ai,aq,ah]|refine aN ?_);rw[←he]
    (repeat first|with_reducible refine kp [0,1,6,7,8,47] ?_|simp only[kV,simprocAttr,aa,ac,ae,hJ]|refine aN ?_);(try simp only[kV,simprocAttr,aa,ac,ae,hI,g1,h,hJ,hJ2,g2,h',b1,b2]);refine ulk ?_;(repeat first|with_reducible refine kp [0,1,6,7,8,69] ?_|simp only[kV,simprocAttr,aa,ac,ae,hI,g1,h,hJ,hJ2,g2,h',b1,b2]|refine aN ?_);refine ulk ?_;(repeat first|with_reducible refine kp [0,1,6,7,8] ?_|simp only[kV,simprocAttr,aa,ac,ae]|refine aN ?_);exact⟨j+1,⟨h',fun k hk=>by
     by_cases hkj:k<j
     ·exact hb k hkj
     ·obtain rfl:k=j:=by omega
      omega⟩,(Sub.toG [0,1,6,7,8] [9,10]),by omega⟩
   ·have hJ:¬ (j:Int)<n:=by omega
    have hf:=vL (t:=(c,e)) hlen (fun k hk=>hb k (by simp only at hk;omega));rw[hf] at he;(repeat first|with_reducible refine kp [0,1,6,7,8,47] ?_|simp only[kV,simprocAttr,aa,ac,ae,hJ]|refine aN ?_);(try simp only[kV,simprocAttr,aa,ac,ae,hJ,hI,g1,h]);refine ulk ?_;(repeat first|with_reducible refine kp [0,1,6,7] ?_|simp only[kV,simprocAttr,aa,ac,ae,hJ,hI,g1,h]|refine aN ?_);refine⟨_,cx (jG c hst),ulc ?_⟩;(repeat first|with_reducible refine kp [0,1,6,7,10,83] ?_|simp only[kV,simprocAttr,aa,ac,ae]|refine aN ?_);by_cases hc:cR c=0
    ·rw[if_pos hc] at he;refine⟨fun h1=>absurd h1 (by rw[hc];simp),fun _ => ?_⟩;(try simp only[kV,simprocAttr,aa,ac,ae]);refine ulk ?_;(repeat first|with_reducible refine kp [0,1,6,7] ?_|simp only[kV,simprocAttr,aa,ac,ae]|refine aN ?_);exact⟨i+1,⟨h,he⟩,(Sub.toG [0,1,6,7] [9,10]),by omega⟩
    ·rw[if_neg hc] at he;refine⟨fun _ => ?_,fun h1=>absurd h1 (by rw[z8R hc];simp)⟩;(try simp only[kV,simprocAttr,aa,ac,ae]);refine ulk ?_;(repeat first|simp only[kV,simprocAttr,aa,ac,ae]|refine aN ?_);refine⟨_,cx (fE (cR c) i),ulc ?_⟩;(repeat first|with_reducible refine kp [6] ?_|simp only[kV,simprocAttr,aa,ac,ae,af,ai,aq,ah]|refine aN ?_);rw[←he]
  ·have hf:=vK (t:=(c,e)) hlen;rw[hf,if_neg (by decide)] at he;(repeat first|with_reducible refine kp [0,1,6,7,32] ?_|simp only[kV,simprocAttr,aa,ac,ae,hI]|refine aN ?_);(try simp only[kV,simprocAttr,aa,ac,ae,hI,g1,h]);refine ulk ?_;(repeat first|with_reducible refine kp [0,1,6,7,42] ?_|simp only[kV,simprocAttr,aa,ac,ae,hI,g1,h]|refine aN ?_);(try simp only[kV,simprocAttr,aa,ac,ae,hlen]);refine ulk ?_;(repeat first|simp only[kV,simprocAttr,aa,ac,ae,hlen]|refine aN ?_);refine⟨_,cx (fE 8 i),ulc ?_⟩;(repeat first|with_reducible refine kp [6] ?_|simp only[kV,simprocAttr,aa,ac,ae,af,ai,aq,ah]|refine aN ?_);rw[←he]
 ·have hI:¬ (i:Int)<(l.length:Int):=by omega
  rw[z9l (by omega)] at he;(repeat first|with_reducible refine kp [0,1,6,7,32] ?_|simp only[kV,simprocAttr,aa,ac,ae,hI]|refine aN ?_);refine ulk ?_;(repeat first|with_reducible refine kp [6] ?_|simp only[kV,simprocAttr,aa,ac,ae,af,ai,aq,ah,hI]|refine aN ?_);rw[←he];rfl
end Go.Proofs.YtbnhgnhgbhjkcaaGreat.M
