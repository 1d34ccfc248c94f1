/- Lemmas. -/
import Derived.Test.YtbnhgnhgbhjkcaaGreatL50
set_option linter.defProp false
set_option linter.unusedSectionVars false
set_option linter.unusedSimpArgs false
set_option linter.unusedVariables false
namespace Go.Proofs.YtbnhgnhgbhjkcaaGreat.M
open Go.RowKit
set_option maxRecDepth 20000
abbrev uE (K:CC) (R:List (Nat×AV)) (M:List (Nat×AObj)):Prop:=cw [25,50] (ConX Tryz.prog AN) K (ae (.bool true) [(14,none)]) ⟨ar R,ay M⟩
abbrev rF (l:List At) (f:Int×Int):D:=.tup [TT2 l,flt f.1 f.2]
section
variable (da_ db_ dc_:D) (n v ord:Int) (ab:List At)
section
variable (l r d:List At)
abbrev nT:List (Nat×AV):=[(3,.p (J n)),(4,.p (J v)),(5,.p (J ord)),(15,.p (TT2 ab)),(39,.p (TT2 l)),(41,.p (TT2 r))]
theorem Vx (k1:Con Tryz.prog AN 23 [TT2 ab,J n,J v,J ord] (rF d (0,0))) (k2:Con Tryz.prog AN 11 [TT2 l,TT2 r,J n,J ord] (rF d (0,0))) (k3:Con Tryz.prog AN 15 [TT2 d,TT2 d] (.bool true)):uE nf (nT n v ord ab l r) []:=by
 skip
 (repeat first|simp only[kV,simprocAttr,aa,au,uE,nT]|refine aN ?_);refine⟨_,cx (k1),ulc ?_⟩;(repeat first|with_reducible refine kp [3,5,39,41,43,44] ?_|simp only[kV,simprocAttr,aa,au]|refine aN ?_);refine⟨_,cx (k2),ulc ?_⟩;(repeat first|with_reducible refine kp [43,44,45,46] ?_|simp only[kV,simprocAttr,aa,au]|refine aN ?_);refine⟨_,cx (k3),ulc ?_⟩;(repeat first|with_reducible refine kp [14] ?_|simp only[kV,simprocAttr,aa,au,ae,ai,ah,af]|refine aN ?_)
end
section
variable (da db:List At)
abbrev eG:List (Nat×AV):=[(0,.p da_),(1,.p db_),(3,.p (J n)),(4,.p (J v)),(5,.p (J ord)),(15,.p (TT2 ab)),(35,.p (TT2 da)),(37,.p (TT2 db))]
theorem Vy (l r:List At) (fl fr:Int×Int) (bl br:Bool) (k1:Con Tryz.prog AN 12 [TT2 da,db_,J n,J ord] (rF l fl)) (k2:Con Tryz.prog AN 12 [da_,TT2 db,J n,J ord] (rF r fr)) (o1:Con Tryz.prog AN 31 [TT2 l] (.bool bl)) (o2:Con Tryz.prog AN 31 [TT2 r] (.bool br)) (h:bl=false→br=false→uE nf (nT n v ord ab l r) []):uE ng (eG da_ db_ n v ord ab da db) []:=by
 cases bl
 ·cases br
  ·have h:=h rfl rfl;skip
   (repeat first|simp only[kV,simprocAttr,aa,au,uE,eG]|refine aN ?_);refine⟨_,cx (k1),ulc ?_⟩;(repeat first|with_reducible refine kp [0,3,4,5,15,37,39] ?_|simp only[kV,simprocAttr,aa,au]|refine aN ?_);refine⟨_,cx (k2),ulc ?_⟩;(repeat first|with_reducible refine kp [3,4,5,15,39,41] ?_|simp only[kV,simprocAttr,aa,au]|refine aN ?_);refine⟨_,cx (o1),ulc ?_⟩;(repeat first|simp only[kV,simprocAttr,aa,au]|refine aN ?_);refine⟨_,cx (o2),ulc ?_⟩;(repeat first|with_reducible refine kp [3,4,5,15,39,41,263] ?_|simp only[kV,simprocAttr,aa,au]|refine aN ?_);refine ulk ?_;(repeat first|simp only[kV,simprocAttr,aa,au]|refine aN ?_);exact⟨_,(Sub.toG [3,4,5,15,39,41] [16,18,20,22,24,26,28,30,31,32,33,34,36,38,40,42,44,46]),h⟩
  ·skip
   (repeat first|simp only[kV,simprocAttr,aa,au,uE,eG]|refine aN ?_);refine⟨_,cx (k1),ulc ?_⟩;(repeat first|with_reducible refine kp [0,3,4,5,15,37,39] ?_|simp only[kV,simprocAttr,aa,au]|refine aN ?_);refine⟨_,cx (k2),ulc ?_⟩;(repeat first|with_reducible refine kp [3,4,5,15,39,41] ?_|simp only[kV,simprocAttr,aa,au]|refine aN ?_);refine⟨_,cx (o1),ulc ?_⟩;(repeat first|simp only[kV,simprocAttr,aa,au]|refine aN ?_);refine⟨_,cx (o2),ulc ?_⟩;(repeat first|with_reducible refine kp [3,4,5,15,39,41,263] ?_|simp only[kV,simprocAttr,aa,au]|refine aN ?_);refine ulk ?_;(repeat first|with_reducible refine kp [14] ?_|simp only[kV,simprocAttr,aa,au,ae,ai,ah,af]|refine aN ?_)
 ·skip
  (repeat first|simp only[kV,simprocAttr,aa,au,uE,eG]|refine aN ?_);refine⟨_,cx (k1),ulc ?_⟩;(repeat first|with_reducible refine kp [0,3,4,5,15,37,39] ?_|simp only[kV,simprocAttr,aa,au]|refine aN ?_);refine⟨_,cx (k2),ulc ?_⟩;(repeat first|with_reducible refine kp [3,4,5,15,39,41] ?_|simp only[kV,simprocAttr,aa,au]|refine aN ?_);refine⟨_,cx (o1),ulc ?_⟩;(repeat first|simp only[kV,simprocAttr,aa,au]|refine aN ?_);refine ulc ?_;(repeat first|with_reducible refine kp [3,4,5,15,39,41,263] ?_|simp only[kV,simprocAttr,aa,au]|refine aN ?_);refine ulk ?_;(repeat first|with_reducible refine kp [14] ?_|simp only[kV,simprocAttr,aa,au,ae,ai,ah,af]|refine aN ?_)
theorem Vz (b1 b2:Bool) (o1:Con Tryz.prog AN 31 [TT2 da] (.bool b1)) (o2:Con Tryz.prog AN 31 [TT2 db] (.bool b2)) (h:b1=false→b2=false→uE ng (eG da_ db_ n v ord ab da db) []):uE nh (eG da_ db_ n v ord ab da db) []:=by
 cases b1
 ·cases b2
  ·have h:=h rfl rfl;skip
   (repeat first|simp only[kV,simprocAttr,aa,au,uE,eG]|refine aN ?_);refine⟨_,cx (o1),ulc ?_⟩;(repeat first|simp only[kV,simprocAttr,aa,au]|refine aN ?_);refine⟨_,cx (o2),ulc ?_⟩;(repeat first|with_reducible refine kp [0,1,3,4,5,15,35,37,241] ?_|simp only[kV,simprocAttr,aa,au]|refine aN ?_);refine ulk ?_;(repeat first|simp only[kV,simprocAttr,aa,au]|refine aN ?_);exact⟨_,(Sub.toG [0,1,3,4,5,15,35,37] [16,18,20,22,24,26,28,30,31,32,33,34,36,38,40,42,44,46]),h⟩
  ·skip
   (repeat first|simp only[kV,simprocAttr,aa,au,uE,eG]|refine aN ?_);refine⟨_,cx (o1),ulc ?_⟩;(repeat first|simp only[kV,simprocAttr,aa,au]|refine aN ?_);refine⟨_,cx (o2),ulc ?_⟩;(repeat first|with_reducible refine kp [0,1,3,4,5,15,35,37,241] ?_|simp only[kV,simprocAttr,aa,au]|refine aN ?_);refine ulk ?_;(repeat first|with_reducible refine kp [14] ?_|simp only[kV,simprocAttr,aa,au,ae,ai,ah,af]|refine aN ?_)
 ·skip
  (repeat first|simp only[kV,simprocAttr,aa,au,uE,eG]|refine aN ?_);refine⟨_,cx (o1),ulc ?_⟩;(repeat first|simp only[kV,simprocAttr,aa,au]|refine aN ?_);refine ulc ?_;(repeat first|with_reducible refine kp [0,1,3,4,5,15,35,37,241] ?_|simp only[kV,simprocAttr,aa,au]|refine aN ?_);refine ulk ?_;(repeat first|with_reducible refine kp [14] ?_|simp only[kV,simprocAttr,aa,au,ae,ai,ah,af]|refine aN ?_)
abbrev iH:List (Nat×AV):=[(0,.p da_),(1,.p db_),(3,.p (J n)),(4,.p (J v)),(5,.p (J ord)),(15,.p (TT2 ab))]
theorem VA (f:Int×Int) (k1:Con Tryz.prog AN 23 [da_,J n,J v,J ord] (rF da f)) (k2:Con Tryz.prog AN 23 [db_,J n,J v,J ord] (rF db f)) (hf:f.1≠0→v<0∨n≤v) (h:f.1=0→uE nh (eG da_ db_ n v ord ab da db) []):uE kH (iH da_ db_ n v ord ab) []:=by
 by_cases h0:f.1=0
 ·have h:=h h0;skip
  (repeat first|simp only[kV,simprocAttr,aa,au,uE,iH]|refine aN ?_);refine⟨_,cx (k1),ulc ?_⟩;(repeat first|with_reducible refine kp [0,1,3,4,5,15,35,36] ?_|simp only[kV,simprocAttr,aa,au,h0]|refine aN ?_);refine⟨_,cx (k2),ulc ?_⟩;(repeat first|with_reducible refine kp [0,1,3,4,5,15,35,36,37,38,228] ?_|simp only[kV,simprocAttr,aa,au,h0]|refine aN ?_);refine ulk ?_;(repeat first|simp only[kV,simprocAttr,aa,au,h0]|refine aN ?_);exact⟨_,(Sub.toG [0,1,3,4,5,15,35,37] [16,18,20,22,24,26,28,30,31,32,33,34,36,38,40,42,44,46]),h⟩
 ·by_cases v1:v<0
  ·skip
   (repeat first|simp only[kV,simprocAttr,aa,au,uE,iH]|refine aN ?_);refine⟨_,cx (k1),ulc ?_⟩;(repeat first|with_reducible refine kp [0,1,3,4,5,15,35,36] ?_|simp only[kV,simprocAttr,aa,au,h0]|refine aN ?_);refine⟨_,cx (k2),ulc ?_⟩;(repeat first|with_reducible refine kp [0,1,3,4,5,15,35,36,37,38,228] ?_|simp only[kV,simprocAttr,aa,au,h0]|refine aN ?_);(try simp only[kV,simprocAttr,aa,au,h0,v1]);refine ulk ?_;(repeat first|with_reducible refine kp [14] ?_|simp only[kV,simprocAttr,aa,au,ae,ai,ah,af,h0,v1]|refine aN ?_)
  ·have v2:n≤v:=(hf h0).resolve_left v1;skip
   (repeat first|simp only[kV,simprocAttr,aa,au,uE,iH]|refine aN ?_);refine⟨_,cx (k1),ulc ?_⟩;(repeat first|with_reducible refine kp [0,1,3,4,5,15,35,36] ?_|simp only[kV,simprocAttr,aa,au,h0]|refine aN ?_);refine⟨_,cx (k2),ulc ?_⟩;(repeat first|with_reducible refine kp [0,1,3,4,5,15,35,36,37,38,228] ?_|simp only[kV,simprocAttr,aa,au,h0]|refine aN ?_);(try simp only[kV,simprocAttr,aa,au,h0,v1,v2]);refine ulk ?_;(repeat first|with_reducible refine kp [14] ?_|simp only[kV,simprocAttr,aa,au,ae,ai,ah,af,h0,v1,v2]|refine aN ?_)
end
section
variable (x y z:List UInt8) (f:Int×Int) (h:uE kH (iH da_ db_ n v ord ab) [])
abbrev gS:List (Nat×AV):=[(0,.p da_),(1,.p db_),(3,.p (J n)),(4,.p (J v)),(5,.p (J ord)),(15,.p (TT2 ab)),(25,.p (.str x)),(26,.ptr 26 0 0),(27,.p (.str y)),(28,.ptr 28 0 0),(29,.p (.str z)),(30,.ptr 30 0 0)]
abbrev gT:List (Nat×AObj):=[(26,fB f),(28,fB f),(30,fB f)]
include h
theorem VB (h0:f.1≠0):uE jm (gS da_ db_ n v ord ab x y z) (gT f):=by
 skip
 (repeat first|with_reducible refine kp [0,1,3,4,5,15,25,27,29,188] ?_|simp only[kV,simprocAttr,aa,au,uE,gS,gT,h0]|refine aN ?_);refine ulk ?_;(repeat first|simp only[kV,simprocAttr,aa,au,h0]|refine aN ?_);exact⟨_,(Sub.toG [0,1,3,4,5,15] [16,18,20,22,24,26,28,30,31,32,33,34,36,38,40,42,44,46]),h⟩
theorem VC (h0:f.1=0) (hl:¬ (x.length:Int)+(y.length:Int)<500) (hx:x.length≤1000000000000000000) (hy:y.length≤1000000000000000000):uE jm (gS da_ db_ n v ord ab x y z) (gT f):=by
 skip
 (repeat first|with_reducible refine kp [0,1,3,4,5,15,25,27,29,188] ?_|simp only[kV,simprocAttr,aa,au,uE,gS,gT,h0,hl]|refine aN ?_);refine ulk ?_;(repeat first|simp only[kV,simprocAttr,aa,au,h0,hl]|refine aN ?_);exact⟨_,(Sub.toG [0,1,3,4,5,15] [16,18,20,22,24,26,28,30,31,32,33,34,36,38,40,42,44,46]),h⟩
theorem VD (h0:f.1=0) (hl:(x.length:Int)+(y.length:Int)<500) (p q w:Rat) (cp ap cq aq:Int) (k1:Con Tryz.prog AN 25 [.str x] (.tup [qZ p,flt cp ap])) (k2:Con Tryz.prog AN 25 [.str y] (.tup [qZ q,flt cq aq])) (k3:Con Tryz.prog AN 32 [qZ p,qZ q] (qZ w)) (k4:Con Tryz.prog AN 27 [qZ w] (.str z)):uE jm (gS da_ db_ n v ord ab x y z) (gT f):=by
 skip
 (repeat first|with_reducible refine kp [0,1,3,4,5,15,25,27,29,188] ?_|simp only[kV,simprocAttr,aa,au,uE,gS,gT,h0,hl]|refine aN ?_);refine ulk ?_;(repeat first|simp only[kV,simprocAttr,aa,au,h0,hl]|refine aN ?_);refine⟨_,cx (k1),ulc ?_⟩;(repeat first|with_reducible refine kp [0,1,3,4,5,15,27,29,31] ?_|simp only[kV,simprocAttr,aa,au]|refine aN ?_);refine⟨_,cx (k2),ulc ?_⟩;(repeat first|with_reducible refine kp [0,1,3,4,5,15,29,31,33] ?_|simp only[kV,simprocAttr,aa,au]|refine aN ?_);refine⟨_,cx (k3),ulc ?_⟩;(repeat first|simp only[kV,simprocAttr,aa,au]|refine aN ?_);refine⟨_,cx (k4),ulc ?_⟩;(repeat first|with_reducible refine kp [0,1,3,4,5,15,204] ?_|simp only[kV,simprocAttr,aa,au]|refine aN ?_);refine ulk ?_;(repeat first|simp only[kV,simprocAttr,aa,au]|refine aN ?_);exact⟨_,(Sub.toG [0,1,3,4,5,15] [16,18,20,22,24,26,28,30,31,32,33,34,36,38,40,42,44,46]),h⟩
end
end
set_option maxHeartbeats 4000000
section
variable (T U T' U' T2 U2 V:Nat) (a b c:List At) (n v ord:Int) (ts:List (List UInt8)) (ab:List At)
abbrev lA:D:=LTa T U a
abbrev lB:D:=LTa T' U' b
abbrev lC:D:=LTa T2 U2 c
abbrev j8:List (Nat×AV):=[(0,.p (LTa T U a)),(1,.p (LTa T' U' b)),(3,.p (J n)),(4,.p (J v)),(5,.p (J ord)),(6,.p (LSt V ts)),(15,.p (TT2 ab))]
theorem wt (x y z:List UInt8) (f:Int×Int) (k1:Con Tryz.prog AN 21 [LTa T U a,J n,LSt V ts] (.tup [.str x,flt f.1 f.2])) (k2:Con Tryz.prog AN 21 [LTa T' U' b,J n,LSt V ts] (.tup [.str y,flt f.1 f.2])) (k3:Con Tryz.prog AN 21 [TT2 ab,J n,LSt V ts] (.tup [.str z,flt f.1 f.2]))
  (h:uE jm (gS (LTa T U a) (LTa T' U' b) n v ord ab x y z) (gT f)):uE kJ (j8 T U T' U' V a b n v ord ts ab) []:=by
 skip
 (repeat first|simp only[kV,simprocAttr,aa,au,uE,j8]|refine aN ?_);refine⟨_,cx (k1),ulc ?_⟩;(repeat first|with_reducible refine kp [0,1,3,4,5,6,15,25,26] ?_|simp only[kV,simprocAttr,aa,au]|refine aN ?_);refine⟨_,cx (k2),ulc ?_⟩;(repeat first|with_reducible refine kp [0,1,3,4,5,6,15,25,26,27,28] ?_|simp only[kV,simprocAttr,aa,au]|refine aN ?_);refine⟨_,cx (k3),ulc ?_⟩;(repeat first|simp only[kV,simprocAttr,aa,au]|refine aN ?_);exact⟨_,(Sub.toG [0,1,3,4,5,15,25,26,27,28,29,30] [16,18,20,22,24,31,32,33,34,36,38,40,42,44,46]),h⟩
section
variable (ac az bo s:List At)
abbrev ml:List (Nat×AV):=[(0,.p (LTa T U a)),(1,.p (LTa T' U' b)),(3,.p (J n)),(4,.p (J v)),(5,.p (J ord)),(6,.p (LSt V ts)),(15,.p (TT2 ab)),(20,.ptr 20 0 0),(21,.p (TT2 az)),(22,.ptr 22 0 0),(23,.p (TT2 bo)),(24,.ptr 24 0 0)]
abbrev eV (f2 f3 f4:Int×Int):List (Nat×AObj):=[(20,fB f2),(22,fB f3),(24,fB f4)]
theorem wu (k1:Con Tryz.prog AN 15 [TT2 az,TT2 bo] (.bool true)) (h:uE kJ (j8 T U T' U' V a b n v ord ts ab) []):uE ni (ml T U T' U' V a b n v ord ts ab az bo) (eV (0,0) (0,0) (0,0)):=by
 skip
 (repeat first|simp only[kV,simprocAttr,aa,au,uE,ml,eV]|refine aN ?_);refine⟨_,cx (k1),ulc ?_⟩;(repeat first|with_reducible refine kp [0,1,3,4,5,6,15,146] ?_|simp only[kV,simprocAttr,aa,au]|refine aN ?_);refine ulk ?_;(repeat first|simp only[kV,simprocAttr,aa,au]|refine aN ?_);exact⟨_,(Sub.toG [0,1,3,4,5,6,15] [16,18,20,22,24,26,28,30,31,32,33,34,36,38,40,42,44,46]),h⟩
abbrev ic:List (Nat×AV):=[(0,.p (LTa T U a)),(1,.p (LTa T' U' b)),(3,.p (J n)),(4,.p (J v)),(5,.p (J ord)),(6,.p (LSt V ts)),(15,.p (TT2 ab)),(17,.p (TT2 s)),(19,.p (TT2 ac)),(20,.ptr 20 0 0),(21,.p (TT2 az)),(22,.ptr 22 0 0),(23,.p (TT2 bo)),(24,.ptr 24 0 0)]
theorem wv (f2 f3 f4:Int×Int) (b1 b2 b3:Bool) (o1:Con Tryz.prog AN 31 [TT2 s] (.bool b1)) (o2:Con Tryz.prog AN 31 [TT2 ac] (.bool b2)) (o3:Con Tryz.prog AN 31 [TT2 ab] (.bool b3)) (h:b1=false→b2=false→b3=false→uE ni (ml T U T' U' V a b n v ord ts ab az bo) (eV f2 f3 f4)):uE nj (ic T U T' U' V a b n v ord ts ab ac az bo s) (eV f2 f3 f4):=by
 cases b1
 ·cases b2
  ·cases b3
   ·have h:=h rfl rfl rfl;skip
    (repeat first|simp only[kV,simprocAttr,aa,au,uE,ic,eV]|refine aN ?_);refine⟨_,cx (o1),ulc ?_⟩;(repeat first|simp only[kV,simprocAttr,aa,au]|refine aN ?_);refine⟨_,cx (o2),ulc ?_⟩;(repeat first|simp only[kV,simprocAttr,aa,au]|refine aN ?_);refine⟨_,cx (o3),ulc ?_⟩;(repeat first|with_reducible refine kp [0,1,3,4,5,6,15,20,21,22,23,24,127] ?_|simp only[kV,simprocAttr,aa,au]|refine aN ?_);refine ulk ?_;(repeat first|simp only[kV,simprocAttr,aa,au]|refine aN ?_);exact⟨_,(Sub.toG [0,1,3,4,5,6,15,20,21,22,23,24] [16,18,26,28,30,31,32,33,34,36,38,40,42,44,46]),h⟩
   ·skip
    (repeat first|simp only[kV,simprocAttr,aa,au,uE,ic,eV]|refine aN ?_);refine⟨_,cx (o1),ulc ?_⟩;(repeat first|simp only[kV,simprocAttr,aa,au]|refine aN ?_);refine⟨_,cx (o2),ulc ?_⟩;(repeat first|simp only[kV,simprocAttr,aa,au]|refine aN ?_);refine⟨_,cx (o3),ulc ?_⟩;(repeat first|with_reducible refine kp [0,1,3,4,5,6,15,20,21,22,23,24,127] ?_|simp only[kV,simprocAttr,aa,au]|refine aN ?_);refine ulk ?_;(repeat first|with_reducible refine kp [14] ?_|simp only[kV,simprocAttr,aa,au,ae,ai,ah,af]|refine aN ?_)
  ·skip
   (repeat first|simp only[kV,simprocAttr,aa,au,uE,ic,eV]|refine aN ?_);refine⟨_,cx (o1),ulc ?_⟩;(repeat first|simp only[kV,simprocAttr,aa,au]|refine aN ?_);refine⟨_,cx (o2),ulc ?_⟩;(repeat first|simp only[kV,simprocAttr,aa,au]|refine aN ?_);refine ulc ?_;(repeat first|with_reducible refine kp [0,1,3,4,5,6,15,20,21,22,23,24,127] ?_|simp only[kV,simprocAttr,aa,au]|refine aN ?_);refine ulk ?_;(repeat first|with_reducible refine kp [14] ?_|simp only[kV,simprocAttr,aa,au,ae,ai,ah,af]|refine aN ?_)
 ·skip
  (repeat first|simp only[kV,simprocAttr,aa,au,uE,ic,eV]|refine aN ?_);refine⟨_,cx (o1),ulc ?_⟩;(repeat first|simp only[kV,simprocAttr,aa,au]|refine aN ?_);refine ulc ?_;(repeat first|simp only[kV,simprocAttr,aa,au]|refine aN ?_);refine ulc ?_;(repeat first|with_reducible refine kp [0,1,3,4,5,6,15,20,21,22,23,24,127] ?_|simp only[kV,simprocAttr,aa,au]|refine aN ?_);refine ulk ?_;(repeat first|with_reducible refine kp [14] ?_|simp only[kV,simprocAttr,aa,au,ae,ai,ah,af]|refine aN ?_)
abbrev mn:List (Nat×AV):=[(0,.p (LTa T U a)),(1,.p (LTa T' U' b)),(2,.p (LTa T2 U2 c)),(3,.p (J n)),(4,.p (J v)),(5,.p (J ord)),(6,.p (LSt V ts)),(15,.p (TT2 ab)),(17,.p (TT2 s))]
theorem ww (f2 f3 f4:Int×Int) (k1:Con Tryz.prog AN 12 [LTa T U a,LTa T2 U2 c,J n,J ord] (rF ac f2)) (k2:Con Tryz.prog AN 12 [LTa T U a,TT2 s,J n,J ord] (rF az f3)) (k3:Con Tryz.prog AN 11 [TT2 ab,TT2 ac,J n,J ord] (rF bo f4)) (h:uE nj (ic T U T' U' V a b n v ord ts ab ac az bo s) (eV f2 f3 f4)):uE nk (mn T U T' U' T2 U2 V a b c n v ord ts ab s) []:=by
 skip
 (repeat first|simp only[kV,simprocAttr,aa,au,uE,mn]|refine aN ?_);refine⟨_,cx (k1),ulc ?_⟩;(repeat first|with_reducible refine kp [0,1,3,4,5,6,15,17,19,20] ?_|simp only[kV,simprocAttr,aa,au]|refine aN ?_);refine⟨_,cx (k2),ulc ?_⟩;(repeat first|with_reducible refine kp [0,1,3,4,5,6,15,17,19,20,21,22] ?_|simp only[kV,simprocAttr,aa,au]|refine aN ?_);refine⟨_,cx (k3),ulc ?_⟩;(repeat first|simp only[kV,simprocAttr,aa,au]|refine aN ?_);exact⟨_,(Sub.toG [0,1,3,4,5,6,15,17,19,20,21,22,23,24] [16,18,26,28,30,31,32,33,34,36,38,40,42,44,46]),h⟩
abbrev fP:List (Nat×AV):=[(0,.p (LTa T U a)),(1,.p (LTa T' U' b)),(2,.p (LTa T2 U2 c)),(3,.p (J n)),(4,.p (J v)),(5,.p (J ord)),(6,.p (LSt V ts)),(15,.p (TT2 ab))]
theorem wx (f1:Int×Int) (k1:Con Tryz.prog AN 11 [LTa T' U' b,LTa T2 U2 c,J n,J ord] (rF s f1)) (h:f1.1=0→a.length≤12→b.length≤12→c.length≤12→ab.length≤100→uE nk (mn T U T' U' T2 U2 V a b c n v ord ts ab s) []):uE nn (fP T U T' U' T2 U2 V a b c n v ord ts ab) []:=by
 by_cases h0:f1.1=0
 ·by_cases ha:a.length≤12
  ·have haI:¬ (12:Int)<(a.length:Int):=by omega
   by_cases hb:b.length≤12
   ·have hbI:¬ (12:Int)<(b.length:Int):=by omega
    by_cases hc:c.length≤12
    ·have hcI:¬ (12:Int)<(c.length:Int):=by omega
     by_cases hd:ab.length≤100
     ·have hdI:¬ (100:Int)<(ab.length:Int):=by omega
      have h:=h h0 ha hb hc hd;skip
      (repeat first|simp only[kV,simprocAttr,aa,au,uE,fP]|refine aN ?_);refine⟨_,cx (k1),ulc ?_⟩;(repeat first|with_reducible refine kp [0,1,2,3,4,5,6,15,17,18,93] ?_|simp only[kV,simprocAttr,aa,au,h0,haI,hbI,hcI,hdI]|refine aN ?_);refine ulk ?_;(repeat first|simp only[kV,simprocAttr,aa,au,h0,haI,hbI,hcI,hdI]|refine aN ?_);exact⟨_,(Sub.toG [0,1,2,3,4,5,6,15,17] [16,18,20,22,24,26,28,30,31,32,33,34,36,38,40,42,44,46]),h⟩
     ·have hdI:(100:Int)<(ab.length:Int):=by omega
      skip
      (repeat first|simp only[kV,simprocAttr,aa,au,uE,fP]|refine aN ?_);refine⟨_,cx (k1),ulc ?_⟩;(repeat first|with_reducible refine kp [0,1,2,3,4,5,6,15,17,18,93] ?_|simp only[kV,simprocAttr,aa,au,h0,haI,hbI,hcI,hdI]|refine aN ?_);refine ulk ?_;(repeat first|with_reducible refine kp [14] ?_|simp only[kV,simprocAttr,aa,au,ae,ai,ah,af,h0,haI,hbI,hcI,hdI]|refine aN ?_)
    ·have hcI:(12:Int)<(c.length:Int):=by omega
     skip
     (repeat first|simp only[kV,simprocAttr,aa,au,uE,fP]|refine aN ?_);refine⟨_,cx (k1),ulc ?_⟩;(repeat first|with_reducible refine kp [0,1,2,3,4,5,6,15,17,18,93] ?_|simp only[kV,simprocAttr,aa,au,h0,haI,hbI,hcI]|refine aN ?_);refine ulk ?_;(repeat first|with_reducible refine kp [14] ?_|simp only[kV,simprocAttr,aa,au,ae,ai,ah,af,h0,haI,hbI,hcI]|refine aN ?_)
   ·have hbI:(12:Int)<(b.length:Int):=by omega
    skip
    (repeat first|simp only[kV,simprocAttr,aa,au,uE,fP]|refine aN ?_);refine⟨_,cx (k1),ulc ?_⟩;(repeat first|with_reducible refine kp [0,1,2,3,4,5,6,15,17,18,93] ?_|simp only[kV,simprocAttr,aa,au,h0,haI,hbI]|refine aN ?_);refine ulk ?_;(repeat first|with_reducible refine kp [14] ?_|simp only[kV,simprocAttr,aa,au,ae,ai,ah,af,h0,haI,hbI]|refine aN ?_)
  ·have haI:(12:Int)<(a.length:Int):=by omega
   skip
   (repeat first|simp only[kV,simprocAttr,aa,au,uE,fP]|refine aN ?_);refine⟨_,cx (k1),ulc ?_⟩;(repeat first|with_reducible refine kp [0,1,2,3,4,5,6,15,17,18,93] ?_|simp only[kV,simprocAttr,aa,au,h0,haI]|refine aN ?_);refine ulk ?_;(repeat first|with_reducible refine kp [14] ?_|simp only[kV,simprocAttr,aa,au,ae,ai,ah,af,h0,haI]|refine aN ?_)
 ·skip
  (repeat first|simp only[kV,simprocAttr,aa,au,uE,fP]|refine aN ?_);refine⟨_,cx (k1),ulc ?_⟩;(repeat first|with_reducible refine kp [0,1,2,3,4,5,6,15,17,18,93] ?_|simp only[kV,simprocAttr,aa,au,h0]|refine aN ?_);refine ulk ?_;(repeat first|with_reducible refine kp [14] ?_|simp only[kV,simprocAttr,aa,au,ae,ai,ah,af,h0]|refine aN ?_)
end
theorem wy (f:Int×Int) (k1:Con Tryz.prog AN 12 [LTa T U a,LTa T' U' b,J n,J ord] (rF ab f)) (he:f.1≠0→ab=[]) (h:f.1=0→uE nn (fP T U T' U' T2 U2 V a b c n v ord ts ab) []):Con Tryz.prog AN 5 [LTa T U a,LTa T' U' b,LTa T2 U2 c,J n,J v,J ord,LSt V ts] (.bool true):=by
 by_cases h0:f.1=0
 ·have h:=h h0;refine fn5.con rfl (by simp) ?_;(repeat first|with_reducible refine kp [0,1,2,3,4,5,6] ?_|simp only[kV,simprocAttr,aa,au,uS]|refine aN ?_);refine⟨_,cx (u4),ulc ?_⟩;(repeat first|with_reducible refine kp [0,1,2,3,4,5,6,48] ?_|simp only[kV,simprocAttr,aa,au]|refine aN ?_);refine ulk ?_;(repeat first|with_reducible refine kp [0,1,2,3,4,5,6] ?_|simp only[kV,simprocAttr,aa,au]|refine aN ?_);refine⟨_,cx (k1),ulc ?_⟩;(repeat first|with_reducible refine kp [0,1,2,3,4,5,6,15,16,59] ?_|simp only[kV,simprocAttr,aa,au,h0]|refine aN ?_);refine ulk ?_;(repeat first|simp only[kV,simprocAttr,aa,au,h0]|refine aN ?_);exact⟨_,(Sub.toG [0,1,2,3,4,5,6,15] [16,18,20,22,24,26,28,30,31,32,33,34,36,38,40,42,44,46]),h⟩
 ·have he:=he h0;subst he;refine fn5.con rfl (by simp) ?_;(repeat first|with_reducible refine kp [0,1,2,3,4,5,6] ?_|simp only[kV,simprocAttr,aa,au,uS]|refine aN ?_);refine⟨_,cx (u4),ulc ?_⟩;(repeat first|with_reducible refine kp [0,1,2,3,4,5,6,48] ?_|simp only[kV,simprocAttr,aa,au]|refine aN ?_);refine ulk ?_;(repeat first|with_reducible refine kp [0,1,2,3,4,5,6] ?_|simp only[kV,simprocAttr,aa,au]|refine aN ?_);refine⟨_,cx (k1),ulc ?_⟩;(repeat first|with_reducible refine kp [0,1,2,3,4,5,6,15,16,59] ?_|simp only[kV,simprocAttr,aa,au,h0]|refine aN ?_);refine ulk ?_;(repeat first|with_reducible refine kp [14] ?_|simp only[kV,simprocAttr,aa,au,ae,ai,ah,af,h0]|refine aN ?_)
end
end Go.Proofs.YtbnhgnhgbhjkcaaGreat.M
