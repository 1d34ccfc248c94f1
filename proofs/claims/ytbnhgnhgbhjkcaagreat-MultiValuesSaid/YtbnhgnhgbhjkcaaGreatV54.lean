/- Lemmas. -/
import Derived.Test.YtbnhgnhgbhjkcaaGreatV53
import Derived.Test.YtbnhgnhgbhjkcaaGreatV32
set_option linter.defProp false
set_option linter.unusedSectionVars false
set_option linter.unusedSimpArgs false
set_option linter.unusedVariables false
namespace Go.Proofs.YtbnhgnhgbhjkcaaGreat.M
open Go.RowKit
set_option maxRecDepth 20000
set_option maxHeartbeats 8000000
section
variable (T U V:Nat) (a:List At) (n v ord:Int) (ts:List (List UInt8)) (hA:Ar a) (s t:List UInt8) (xs:List Rat)
abbrev sA0:List (Nat×AV):=[(0,.p (LTa T U a)),(1,.p (J n)),(2,.p (J v)),(3,.p (J ord)),(4,.p (LSt V ts))]
section
variable (c d:List At) (w g:Int×Int) (x:Rat) (k:Bool)
abbrev gZ:List (Nat×AV):=[(0,.p (LTa T U a)),(1,.p (J n)),(2,.p (J v)),(3,.p (J ord)),(4,.p (LSt V ts)),(11,.p (.str s)),(14,.p (TT2 c)),(16,.p (TT2 d)),(18,.ptr 18 0 0),(19,.slice 219 0 xs.length),(23,.p (.bool k)),(24,.ptr 24 0 0),(26,.ptr 26 0 0)]
include hA
theorem wu (P:Mp.TL) (h:Gd a n ord→g8 a 12=false→Con Tryz.prog AN 17 [LTa T U a] (MZ P)∧vE kz (jH v ord c d P s xs k) (dX w g x xs)):vE mW (gZ T U V a n v ord ts s xs c d k) (dX w g x xs):=by
 have k1:=oY T U a n ord hA.l9 hA.s9;by_cases h0:(fM a n ord).1=0
 ·have hg:=eD h0;have v1:=wD AN T U a 12 (by omega) (by have:=hg.len;omega) hA.str;rw[hg.fm] at k1;by_cases hv:g8 a 12=true
  ·rw[hv] at v1;skip
   (repeat first|simp only[kV,simprocAttr,aa,au,vE,gZ,dX]|refine aN ?_);refine⟨_,cx (k1),ulc ?_⟩;(repeat first|simp only[kV,simprocAttr,aa,au]|refine aN ?_);refine⟨_,cx (v1),ulc ?_⟩;(repeat first|simp only[kV,simprocAttr,aa,au]|refine aN ?_);refine ulc ?_;(repeat first|with_reducible refine kp [0,2,3,11,14,16,18,19,23,24,26,191] ?_|simp only[kV,simprocAttr,aa,au]|refine aN ?_);refine ulk ?_;(repeat first|with_reducible refine kp [10] ?_|simp only[kV,simprocAttr,aa,au,ac,ah,ae,af]|refine aN ?_)
  ·have hv:=Bool.eq_false_iff.2 hv;obtain⟨k2,h2⟩:=h hg hv;rw[hv] at v1;have k3:=Vs V ts;by_cases hl:24<lnW ts 0
   ·rw[decide_eq_true hl] at k3;skip
    (repeat first|simp only[kV,simprocAttr,aa,au,vE,gZ,dX]|refine aN ?_);refine⟨_,cx (k1),ulc ?_⟩;(repeat first|simp only[kV,simprocAttr,aa,au]|refine aN ?_);refine⟨_,cx (v1),ulc ?_⟩;(repeat first|simp only[kV,simprocAttr,aa,au]|refine aN ?_);refine⟨_,cx (k3),ulc ?_⟩;(repeat first|with_reducible refine kp [0,2,3,11,14,16,18,19,23,24,26,191] ?_|simp only[kV,simprocAttr,aa,au]|refine aN ?_);refine ulk ?_;(repeat first|with_reducible refine kp [10] ?_|simp only[kV,simprocAttr,aa,au,ac,ah,ae,af]|refine aN ?_)
   ·rw[decide_eq_false hl] at k3;skip
    (repeat first|simp only[kV,simprocAttr,aa,au,vE,gZ,dX]|refine aN ?_);refine⟨_,cx (k1),ulc ?_⟩;(repeat first|simp only[kV,simprocAttr,aa,au]|refine aN ?_);refine⟨_,cx (v1),ulc ?_⟩;(repeat first|simp only[kV,simprocAttr,aa,au]|refine aN ?_);refine⟨_,cx (k3),ulc ?_⟩;(repeat first|with_reducible refine kp [0,2,3,11,14,16,18,19,23,24,26,191] ?_|simp only[kV,simprocAttr,aa,au]|refine aN ?_);refine ulk ?_;(repeat first|with_reducible refine kp [0,2,3,11,14,16,18,19,23,24,26] ?_|simp only[kV,simprocAttr,aa,au]|refine aN ?_);refine⟨_,cx (k2),ulc ?_⟩;(repeat first|simp only[kV,simprocAttr,aa,au]|refine aN ?_);exact⟨_,(Sub.toG [2,3,11,14,16,18,19,23,24,26,27] [12,15,17,21,22,25,101]),h2⟩
 ·generalize fM a n ord=f at *;skip
  (repeat first|simp only[kV,simprocAttr,aa,au,vE,gZ,dX]|refine aN ?_);refine⟨_,cx (k1),ulc ?_⟩;(repeat first|simp only[kV,simprocAttr,aa,au,h0]|refine aN ?_);refine ulc ?_;(repeat first|simp only[kV,simprocAttr,aa,au,h0]|refine aN ?_);refine ulc ?_;(repeat first|with_reducible refine kp [0,2,3,11,14,16,18,19,23,24,26,191] ?_|simp only[kV,simprocAttr,aa,au,h0]|refine aN ?_);refine ulk ?_;(repeat first|with_reducible refine kp [10] ?_|simp only[kV,simprocAttr,aa,au,ac,ah,ae,af,h0]|refine aN ?_)
end
section
variable (w0:Int×Int) (hT:t.length≤9223372036854775807)
abbrev gn (c d:List At):List (Nat×AV):=[(0,.p (LTa T U a)),(1,.p (J n)),(2,.p (J v)),(3,.p (J ord)),(4,.p (LSt V ts)),(11,.p (.str s)),(13,.p (.str t)),(14,.p (TT2 c)),(15,.ptr 15 0 0),(16,.p (TT2 d)),(17,.ptr 17 0 0),(18,.ptr 18 0 0),(19,.slice 219 0 xs.length)]
abbrev gu (f2 f3:Int×Int):List (Nat×AObj):=[(15,fB f2),(17,fB f3),(18,fB w0),(219,xR xs)]
include hA hT
theorem wv (h:vE mW (gZ T U V a n v ord ts s xs (fixA a n v t ord) (derA a n v ord) (decide (w0.1=0))) (dX (derF a n v ord) (fixF a n v t ord) (qR t) xs)):vE mX (gn T U V a n v ord ts s t xs (fixA a n v t ord) (derA a n v ord)) (gu xs w0 (fixF a n v t ord) (derF a n v ord)):=by
 have k1:=oY T U a n ord hA.l9 hA.s9;have zp:=lK t hT;by_cases h0:(fM a n ord).1=0
 ·have hg:=eD h0;rw[hg.fm] at k1;by_cases hv:0≤v∧v<n
  ·have hd:derF a n v ord=(0,0):=by unfold derF;rw[if_pos h0,if_pos hv]
   have hf:fixF a n v t ord=(cR t,0):=by unfold fixF;rw[hd];exact if_pos rfl
   have v1:¬ v<0:=by omega
   have v2:¬ n≤v:=by omega
   rw[hd,hf] at h ⊢;generalize derA a n v ord=d at *;generalize hb:decide (w0.1=0)=b at *;by_cases hc:cR t=0
   ·rw[hc] at h zp ⊢;generalize fixA a n v t ord=c at *;skip
    (repeat first|with_reducible refine kp [0,1,2,3,4,11,13,14,15,16,17,18,19,23] ?_|simp only[kV,simprocAttr,aa,au,vE,gn,gu,hb]|refine aN ?_);refine⟨_,cx (k1),ulc ?_⟩;(repeat first|with_reducible refine kp [0,1,2,3,4,11,13,14,15,16,17,18,19,23,133] ?_|simp only[kV,simprocAttr,aa,au,v1,v2]|refine aN ?_);refine ulk ?_;(repeat first|with_reducible refine kp [0,1,2,3,4,11,13,14,15,16,17,18,19,23,137] ?_|simp only[kV,simprocAttr,aa,au,v1,v2]|refine aN ?_);refine ulk ?_;(repeat first|with_reducible refine kp [0,1,2,3,4,11,13,14,15,16,18,19,23] ?_|simp only[kV,simprocAttr,aa,au]|refine aN ?_);refine⟨_,cx (zp),ulc ?_⟩;(repeat first|with_reducible refine kp [0,1,2,3,4,11,14,15,16,18,19,23,24,25,26,151] ?_|simp only[kV,simprocAttr,aa,au]|refine aN ?_);refine ulk ?_;(repeat first|with_reducible refine kp [0,1,2,3,4,11,14,15,16,18,19,23,24,26,177] ?_|simp only[kV,simprocAttr,aa,au]|refine aN ?_);refine ulk ?_;(repeat first|simp only[kV,simprocAttr,aa,au]|refine aN ?_);exact⟨_,(Sub.toG [0,1,2,3,4,11,14,16,18,19,23,24,26] [12,15,17,21,22,25,101]),h⟩
   ·have he:fixA a n v t ord=[]:=if_neg (by rw[hf];exact hc);rw[he] at h ⊢;have kf:=lO (A:=AN) (cR t) 0;generalize cR t=e at *;skip
    (repeat first|with_reducible refine kp [0,1,2,3,4,11,13,14,15,16,17,18,19,23] ?_|simp only[kV,simprocAttr,aa,au,vE,gn,gu,hb]|refine aN ?_);refine⟨_,cx (k1),ulc ?_⟩;(repeat first|with_reducible refine kp [0,1,2,3,4,11,13,14,15,16,17,18,19,23,133] ?_|simp only[kV,simprocAttr,aa,au,v1,v2]|refine aN ?_);refine ulk ?_;(repeat first|with_reducible refine kp [0,1,2,3,4,11,13,14,15,16,17,18,19,23,137] ?_|simp only[kV,simprocAttr,aa,au,v1,v2]|refine aN ?_);refine ulk ?_;(repeat first|with_reducible refine kp [0,1,2,3,4,11,13,14,15,16,18,19,23] ?_|simp only[kV,simprocAttr,aa,au]|refine aN ?_);refine⟨_,cx (zp),ulc ?_⟩;(repeat first|with_reducible refine kp [0,1,2,3,4,11,14,15,16,18,19,23,24,25,26,151] ?_|simp only[kV,simprocAttr,aa,au,hc]|refine aN ?_);refine ulk ?_;(repeat first|simp only[kV,simprocAttr,aa,au,hc]|refine aN ?_);refine⟨_,cx (kf),ulc ?_⟩;(repeat first|with_reducible refine kp [0,1,2,3,4,11,14,15,16,18,19,23,24,26,177] ?_|simp only[kV,simprocAttr,aa,au,hc]|refine aN ?_);refine ulk ?_;(repeat first|simp only[kV,simprocAttr,aa,au,hc]|refine aN ?_);exact⟨_,(Sub.toG [0,1,2,3,4,11,14,16,18,19,23,24,26] [12,15,17,21,22,25,101]),h⟩
  ·have hd:derF a n v ord=(10,0):=by unfold derF;rw[if_pos h0,if_neg hv]
   have hf:fixF a n v t ord=(10,0):=by unfold fixF;rw[hd];exact if_neg (by decide)
   have he:fixA a n v t ord=[]:=if_neg (by rw[hf];decide);have hde:derA a n v ord=[]:=if_neg (by rw[hd];decide);rw[hd,hf,he,hde] at h ⊢;have kf:=lO (A:=AN) 10 0;generalize hb:decide (w0.1=0)=b at *;by_cases v1:v<0
   ·skip
    (repeat first|with_reducible refine kp [0,1,2,3,4,11,13,14,15,16,17,18,19,23] ?_|simp only[kV,simprocAttr,aa,au,vE,gn,gu,hb]|refine aN ?_);refine⟨_,cx (k1),ulc ?_⟩;(repeat first|with_reducible refine kp [0,1,2,3,4,11,13,14,15,16,17,18,19,23,133] ?_|simp only[kV,simprocAttr,aa,au,v1]|refine aN ?_);refine ulk ?_;(repeat first|simp only[kV,simprocAttr,aa,au,v1]|refine aN ?_);refine⟨_,cx (kf),ulc ?_⟩;(repeat first|with_reducible refine kp [0,1,2,3,4,11,13,14,15,16,17,18,19,23,137] ?_|simp only[kV,simprocAttr,aa,au]|refine aN ?_);refine ulk ?_;(repeat first|with_reducible refine kp [0,1,2,3,4,11,13,14,15,16,18,19,23] ?_|simp only[kV,simprocAttr,aa,au]|refine aN ?_);refine⟨_,cx (zp),ulc ?_⟩;(repeat first|with_reducible refine kp [0,1,2,3,4,11,14,15,16,18,19,23,24,25,26,151] ?_|simp only[kV,simprocAttr,aa,au]|refine aN ?_);refine ulk ?_;(repeat first|with_reducible refine kp [0,1,2,3,4,11,14,15,16,18,19,23,24,26,177] ?_|simp only[kV,simprocAttr,aa,au]|refine aN ?_);refine ulk ?_;(repeat first|simp only[kV,simprocAttr,aa,au]|refine aN ?_);exact⟨_,(Sub.toG [0,1,2,3,4,11,14,16,18,19,23,24,26] [12,15,17,21,22,25,101]),h⟩
   ·have v2:n≤v:=by omega
    skip
    (repeat first|with_reducible refine kp [0,1,2,3,4,11,13,14,15,16,17,18,19,23] ?_|simp only[kV,simprocAttr,aa,au,vE,gn,gu,hb]|refine aN ?_);refine⟨_,cx (k1),ulc ?_⟩;(repeat first|with_reducible refine kp [0,1,2,3,4,11,13,14,15,16,17,18,19,23,133] ?_|simp only[kV,simprocAttr,aa,au,v1,v2]|refine aN ?_);refine ulk ?_;(repeat first|simp only[kV,simprocAttr,aa,au,v1,v2]|refine aN ?_);refine⟨_,cx (kf),ulc ?_⟩;(repeat first|with_reducible refine kp [0,1,2,3,4,11,13,14,15,16,17,18,19,23,137] ?_|simp only[kV,simprocAttr,aa,au]|refine aN ?_);refine ulk ?_;(repeat first|with_reducible refine kp [0,1,2,3,4,11,13,14,15,16,18,19,23] ?_|simp only[kV,simprocAttr,aa,au]|refine aN ?_);refine⟨_,cx (zp),ulc ?_⟩;(repeat first|with_reducible refine kp [0,1,2,3,4,11,14,15,16,18,19,23,24,25,26,151] ?_|simp only[kV,simprocAttr,aa,au]|refine aN ?_);refine ulk ?_;(repeat first|with_reducible refine kp [0,1,2,3,4,11,14,15,16,18,19,23,24,26,177] ?_|simp only[kV,simprocAttr,aa,au]|refine aN ?_);refine ulk ?_;(repeat first|simp only[kV,simprocAttr,aa,au]|refine aN ?_);exact⟨_,(Sub.toG [0,1,2,3,4,11,14,16,18,19,23,24,26] [12,15,17,21,22,25,101]),h⟩
 ·have hd:derF a n v ord=fM a n ord:=if_neg h0;have hf:fixF a n v t ord=fM a n ord:=by unfold fixF;rw[hd];exact if_neg h0
  have he:fixA a n v t ord=[]:=if_neg (by rw[hf];exact h0);have hde:derA a n v ord=[]:=if_neg (by rw[hd];exact h0);rw[hd,hf,he,hde] at h ⊢;generalize hb:decide (w0.1=0)=b at *;generalize fM a n ord=f at *;skip
  (repeat first|with_reducible refine kp [0,1,2,3,4,11,13,14,15,16,17,18,19,23] ?_|simp only[kV,simprocAttr,aa,au,vE,gn,gu,hb]|refine aN ?_);refine⟨_,cx (k1),ulc ?_⟩;(repeat first|with_reducible refine kp [0,1,2,3,4,11,13,14,15,16,17,18,19,23,133] ?_|simp only[kV,simprocAttr,aa,au,h0]|refine aN ?_);refine ulk ?_;(repeat first|with_reducible refine kp [0,1,2,3,4,11,13,14,15,16,17,18,19,23,137] ?_|simp only[kV,simprocAttr,aa,au,h0]|refine aN ?_);refine ulk ?_;(repeat first|with_reducible refine kp [0,1,2,3,4,11,13,14,15,16,18,19,23] ?_|simp only[kV,simprocAttr,aa,au,h0]|refine aN ?_);refine⟨_,cx (zp),ulc ?_⟩;(repeat first|with_reducible refine kp [0,1,2,3,4,11,14,15,16,18,19,23,24,25,26,151] ?_|simp only[kV,simprocAttr,aa,au,h0]|refine aN ?_);refine ulk ?_;(repeat first|with_reducible refine kp [0,1,2,3,4,11,14,15,16,18,19,23,24,26,177] ?_|simp only[kV,simprocAttr,aa,au,h0]|refine aN ?_);refine ulk ?_;(repeat first|simp only[kV,simprocAttr,aa,au,h0]|refine aN ?_);exact⟨_,(Sub.toG [0,1,2,3,4,11,14,16,18,19,23,24,26] [12,15,17,21,22,25,101]),h⟩
abbrev gw (c d:List At):List (Nat×AV):=[(0,.p (LTa T U a)),(1,.p (J n)),(2,.p (J v)),(3,.p (J ord)),(4,.p (LSt V ts)),(11,.p (.str s)),(12,.ptr 12 0 0),(13,.p (.str t)),(14,.p (TT2 c)),(15,.ptr 15 0 0),(16,.p (TT2 d)),(17,.ptr 17 0 0),(18,.ptr 18 0 0),(19,.slice 219 0 xs.length)]
abbrev gz (f2 f3:Int×Int):List (Nat×AObj):=[(12,fB w0),(15,fB f2),(17,fB f3),(18,fB w0),(219,⟨50,4,.row (xs.map qZ),false⟩)]
theorem ww (hs:w0.1≠0→s=[]) (h:vE mX (gn T U V a n v ord ts s t xs (fixA a n v t ord) (derA a n v ord)) (gu xs w0 (fixF a n v t ord) (derF a n v ord))):vE kC (gw T U V a n v ord ts s t xs (fixA a n v t ord) (derA a n v ord)) (gz xs w0 (fixF a n v t ord) (derF a n v ord)):=by
 generalize fixF a n v t ord=f2 at *;generalize derF a n v ord=f3 at *;generalize fixA a n v t ord=c at *;generalize derA a n v ord=d at *;by_cases h0:w0.1=0
 ·skip
  (repeat first|simp only[kV,simprocAttr,aa,au,vE,gw,gz,h0]|refine aN ?_);refine eQ 219 _ [0,1,2,3,4,11,13,14,15,16,17,18,19,114] (by rfl) ?_;refine ulk ?_;(repeat first|simp only[kV,simprocAttr,aa,au,vE,gw,gz,h0]|refine aN ?_);refine ulk ?_;(repeat first|simp only[kV,simprocAttr,aa,au,h0]|refine aN ?_);exact⟨_,(Sub.toG [0,1,2,3,4,11,13,14,15,16,17,18,19] [12,21,22,24,25,26,101]),h⟩
 ·rw[hs h0] at h ⊢;skip
  (repeat first|simp only[kV,simprocAttr,aa,au,vE,gw,gz,h0]|refine aN ?_);refine eQ 219 _ [0,1,2,3,4,11,13,14,15,16,17,18,19,114] (by rfl) ?_;refine ulk ?_;(repeat first|simp only[kV,simprocAttr,aa,au,vE,gw,gz,h0]|refine aN ?_);refine ulk ?_;(repeat first|simp only[kV,simprocAttr,aa,au,h0]|refine aN ?_);exact⟨_,(Sub.toG [0,1,2,3,4,11,13,14,15,16,17,18,19] [12,21,22,24,25,26,101]),h⟩
end
end
end Go.Proofs.YtbnhgnhgbhjkcaaGreat.M
