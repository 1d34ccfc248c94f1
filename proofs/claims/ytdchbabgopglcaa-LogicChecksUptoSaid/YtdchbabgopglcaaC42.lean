/- Lemmas. -/
import Derived.Test.YtdchbabgopglcaaC41
set_option linter.defProp false
set_option linter.unusedSimpArgs false
set_option linter.unusedVariables false
namespace Go.Proofs.Ytdchbabgopglcaa.M
open Go.RowKit
set_option maxRecDepth 20000
set_option maxHeartbeats 1000000
theorem dY {A:List TypeId} (T U X:Nat) (kd rel v k:Int) (p:List At) (gs:List Fm):Con Try.prog A 20 [fD T U X kd rel v k p gs] (.bool (decide (kd=8∨kd=9))):=by
 refine Con.mono (A:=[]) ?_ (by simp);by_cases h8:kd=8
 ·subst h8;refine pu.con rfl (by simp) ?_;(repeat first|with_reducible refine kp [1,2] ?_|simp only[kV,simprocAttr,aa,bh,ac,af,ae,ah]|refine aN ?_);simp
 ·have e:decide (kd=8∨kd=9)=decide (kd=9):=decide_eq_decide.2 (by omega);rw[e];refine pu.con rfl (by simp) ?_;(repeat first|with_reducible refine kp [1,2] ?_|simp only[kV,simprocAttr,aa,bh,ac,af,ae,ah,h8]|refine aN ?_)
theorem dF {A:List TypeId} (T U X:Nat) (kd rel v k:Int) (p:List At) (gs:List Fm):Con Try.prog A 22 [fD T U X kd rel v k p gs] (.bool (decide (kd=3∨kd=4))):=by
 refine Con.mono (A:=[]) ?_ (by simp);by_cases h8:kd=3
 ·subst h8;refine pv.con rfl (by simp) ?_;(repeat first|with_reducible refine kp [1,2] ?_|simp only[kV,simprocAttr,aa,bh,ac,af,ae,ah]|refine aN ?_);simp
 ·have e:decide (kd=3∨kd=4)=decide (kd=4):=decide_eq_decide.2 (by omega);rw[e];refine pv.con rfl (by simp) ?_;(repeat first|with_reducible refine kp [1,2] ?_|simp only[kV,simprocAttr,aa,bh,ac,af,ae,ah,h8]|refine aN ?_)
abbrev jJ {A:List TypeId} (T U X:Nat) (rel v k:Int) (p:List At) (gs:List Fm):Con Try.prog A 20 [fD T U X 1 rel v k p gs] (.bool false):=dY T U X 1 rel v k p gs
abbrev fU {A:List TypeId} (T U X:Nat) (rel v k:Int) (p:List At) (gs:List Fm):Con Try.prog A 22 [fD T U X 1 rel v k p gs] (.bool false):=dF T U X 1 rel v k p gs
abbrev jK {A:List TypeId} (T U X:Nat) (rel v k:Int) (p:List At) (gs:List Fm):Con Try.prog A 20 [fD T U X 2 rel v k p gs] (.bool false):=dY T U X 2 rel v k p gs
abbrev fV {A:List TypeId} (T U X:Nat) (rel v k:Int) (p:List At) (gs:List Fm):Con Try.prog A 22 [fD T U X 2 rel v k p gs] (.bool false):=dF T U X 2 rel v k p gs
abbrev jL {A:List TypeId} (T U X:Nat) (rel v k:Int) (p:List At) (gs:List Fm):Con Try.prog A 20 [fD T U X 3 rel v k p gs] (.bool false):=dY T U X 3 rel v k p gs
abbrev fW {A:List TypeId} (T U X:Nat) (rel v k:Int) (p:List At) (gs:List Fm):Con Try.prog A 22 [fD T U X 3 rel v k p gs] (.bool true):=dF T U X 3 rel v k p gs
abbrev M5 {A:List TypeId} (T U X:Nat) (rel v k:Int) (p:List At) (gs:List Fm):Con Try.prog A 20 [fD T U X 4 rel v k p gs] (.bool false):=dY T U X 4 rel v k p gs
abbrev iz {A:List TypeId} (T U X:Nat) (rel v k:Int) (p:List At) (gs:List Fm):Con Try.prog A 22 [fD T U X 4 rel v k p gs] (.bool true):=dF T U X 4 rel v k p gs
abbrev jM {A:List TypeId} (T U X:Nat) (rel v k:Int) (p:List At) (gs:List Fm):Con Try.prog A 20 [fD T U X 5 rel v k p gs] (.bool false):=dY T U X 5 rel v k p gs
abbrev fX {A:List TypeId} (T U X:Nat) (rel v k:Int) (p:List At) (gs:List Fm):Con Try.prog A 22 [fD T U X 5 rel v k p gs] (.bool false):=dF T U X 5 rel v k p gs
abbrev iA {A:List TypeId} (T U X:Nat) (rel v k:Int) (p:List At) (gs:List Fm):Con Try.prog A 20 [fD T U X 6 rel v k p gs] (.bool false):=dY T U X 6 rel v k p gs
abbrev fY {A:List TypeId} (T U X:Nat) (rel v k:Int) (p:List At) (gs:List Fm):Con Try.prog A 22 [fD T U X 6 rel v k p gs] (.bool false):=dF T U X 6 rel v k p gs
abbrev iB {A:List TypeId} (T U X:Nat) (rel v k:Int) (p:List At) (gs:List Fm):Con Try.prog A 20 [fD T U X 7 rel v k p gs] (.bool false):=dY T U X 7 rel v k p gs
abbrev fZ {A:List TypeId} (T U X:Nat) (rel v k:Int) (p:List At) (gs:List Fm):Con Try.prog A 22 [fD T U X 7 rel v k p gs] (.bool false):=dF T U X 7 rel v k p gs
abbrev gH {A:List TypeId} (T U X:Nat) (rel v k:Int) (p:List At) (gs:List Fm):Con Try.prog A 20 [fD T U X 8 rel v k p gs] (.bool true):=dY T U X 8 rel v k p gs
abbrev gI {A:List TypeId} (T U X:Nat) (rel v k:Int) (p:List At) (gs:List Fm):Con Try.prog A 22 [fD T U X 8 rel v k p gs] (.bool false):=dF T U X 8 rel v k p gs
abbrev gJ {A:List TypeId} (T U X:Nat) (rel v k:Int) (p:List At) (gs:List Fm):Con Try.prog A 20 [fD T U X 9 rel v k p gs] (.bool true):=dY T U X 9 rel v k p gs
abbrev gK {A:List TypeId} (T U X:Nat) (rel v k:Int) (p:List At) (gs:List Fm):Con Try.prog A 22 [fD T U X 9 rel v k p gs] (.bool false):=dF T U X 9 rel v k p gs
theorem M6 (T U X:Nat) (rel v k:Int) (p:List At) (gs:List Fm) (n:Int) (hl:p.length≤9223372036854775807) (hs:∀t∈p,t.1.length≤9223372036854775807):Con Try.prog AN 19 [fD T U X 1 rel v k p gs,J n] (J (oneF (.mk 1 p rel v k gs) n)):=by
 refine dE.con rfl (by simp) ?_;(repeat first|with_reducible refine kp [1,2,13] ?_|simp only[kV,simprocAttr,aa,aw]|refine aN ?_);by_cases hz:0<(gs.length:Int)
 ·have hN:¬ gs.length=0:=by omega
  (try simp only[kV,simprocAttr,aa,hz]);refine ulk ?_;(repeat first|with_reducible refine kp [1,2,5] ?_|simp only[kV,simprocAttr,aa,hz]|refine aN ?_);refine ulc ?_;(repeat first|with_reducible refine kp [1,2,54] ?_|simp only[kV,simprocAttr,aa,hz]|refine aN ?_);refine ulk ?_;(repeat first|with_reducible refine kp [4] ?_|simp only[kV,simprocAttr,aa,ac,af,ae,ah,hz]|refine aN ?_);exact congrArg (D.int .i64) (show (8:Int)=_ by simp[oneF,Qt,Fm.kd,Fm.gs,Fm.p,Fm.rel,Fm.v,Fm.k,hN])
 have hN:gs.length=0:=by omega
 (try simp only[kV,simprocAttr,aa,hz]);refine ulk ?_;(repeat first|with_reducible refine kp [1,2,5] ?_|simp only[kV,simprocAttr,aa,hz]|refine aN ?_);refine⟨_,cx (jJ _ _ _ _ _ _ _ _),ulc ?_⟩;(repeat first|with_reducible refine kp [1,2,54] ?_|simp only[kV,simprocAttr,aa,hz]|refine aN ?_);refine ulk ?_;(repeat first|with_reducible refine kp [1,2] ?_|simp only[kV,simprocAttr,aa,hz]|refine aN ?_);by_cases hp:0<(p.length:Int)
 ·have hP:0<p.length:=by omega
  refine⟨_,cx (fU _ _ _ _ _ _ _ _),ulc ?_⟩;(repeat first|simp only[kV,simprocAttr,aa,hp]|refine aN ?_);refine ulc ?_;(repeat first|with_reducible refine kp [1,2,88] ?_|simp only[kV,simprocAttr,aa,hp]|refine aN ?_);refine ulk ?_;(repeat first|with_reducible refine kp [4] ?_|simp only[kV,simprocAttr,aa,ac,af,ae,ah,hp]|refine aN ?_);exact congrArg (D.int .i64) (show (3:Int)=_ by simp[oneF,Qt,Fm.kd,Fm.gs,Fm.p,Fm.rel,Fm.v,Fm.k,hN,hP])
 have hP:¬ 0<p.length:=by omega
 by_cases hr:rel=0
 rotate_left
 ·-- skip
  refine⟨_,cx (fU _ _ _ _ _ _ _ _),ulc ?_⟩;(repeat first|simp only[kV,simprocAttr,aa,hp,hr]|refine aN ?_);refine ulc ?_;(repeat first|with_reducible refine kp [1,2,88] ?_|simp only[kV,simprocAttr,aa,hr]|refine aN ?_);refine ulk ?_;(repeat first|with_reducible refine kp [4] ?_|simp only[kV,simprocAttr,aa,ac,af,ae,ah,hr]|refine aN ?_);exact congrArg (D.int .i64) (show (3:Int)=_ by simp[oneF,Qt,Fm.kd,Fm.gs,Fm.p,Fm.rel,Fm.v,Fm.k,hN,hP,hr])
 by_cases hk:k=0
 rotate_left
 ·-- skip
  refine⟨_,cx (fU _ _ _ _ _ _ _ _),ulc ?_⟩;(repeat first|simp only[kV,simprocAttr,aa,hp,hr,hk]|refine aN ?_);refine ulc ?_;(repeat first|with_reducible refine kp [1,2,88] ?_|simp only[kV,simprocAttr,aa,hk]|refine aN ?_);refine ulk ?_;(repeat first|with_reducible refine kp [4] ?_|simp only[kV,simprocAttr,aa,ac,af,ae,ah,hk]|refine aN ?_);exact congrArg (D.int .i64) (show (3:Int)=_ by simp[oneF,Qt,Fm.kd,Fm.gs,Fm.p,Fm.rel,Fm.v,Fm.k,hN,hP,hr,hk])
 by_cases hv:v=0
 rotate_left
 ·-- skip
  refine⟨_,cx (fU _ _ _ _ _ _ _ _),ulc ?_⟩;(repeat first|simp only[kV,simprocAttr,aa,hp,hr,hk]|refine aN ?_);refine⟨_,cx (jJ _ _ _ _ _ _ _ _),ulc ?_⟩;(repeat first|with_reducible refine kp [1,2,88] ?_|simp only[kV,simprocAttr,aa,hv]|refine aN ?_);refine ulk ?_;(repeat first|with_reducible refine kp [4] ?_|simp only[kV,simprocAttr,aa,ac,af,ae,ah]|refine aN ?_);exact congrArg (D.int .i64) (show (3:Int)=_ by simp[oneF,Qt,Fm.kd,Fm.gs,Fm.p,Fm.rel,Fm.v,Fm.k,hN,hP,hr,hk,hv])
 refine⟨_,cx (fU _ _ _ _ _ _ _ _),ulc ?_⟩;(repeat first|simp only[kV,simprocAttr,aa,hp,hr,hk,hv]|refine aN ?_);refine⟨_,cx (jJ _ _ _ _ _ _ _ _),ulc ?_⟩;(repeat first|with_reducible refine kp [1,2,88] ?_|simp only[kV,simprocAttr,aa,hp,hr,hk,hv]|refine aN ?_);refine ulk ?_;(repeat first|with_reducible refine kp [1,2] ?_|simp only[kV,simprocAttr,aa]|refine aN ?_);refine⟨_,cx (fU _ _ _ _ _ _ _ _),ulc ?_⟩;(repeat first|with_reducible refine kp [1,2,100] ?_|simp only[kV,simprocAttr,aa]|refine aN ?_);refine ulk ?_;(repeat first|with_reducible refine kp [1,2] ?_|simp only[kV,simprocAttr,aa]|refine aN ?_);refine⟨_,cx (jJ _ _ _ _ _ _ _ _),ulc ?_⟩;(repeat first|with_reducible refine kp [1,2,118] ?_|simp only[kV,simprocAttr,aa]|refine aN ?_);(try simp only[kV,simprocAttr,aa,hk]);refine ulk ?_;(repeat first|with_reducible refine kp [1,2,121] ?_|simp only[kV,simprocAttr,aa,hk]|refine aN ?_);refine ulk ?_;(repeat first|with_reducible refine kp [1,2] ?_|simp only[kV,simprocAttr,aa,hk]|refine aN ?_);refine⟨_,cx (fU _ _ _ _ _ _ _ _),?_⟩;(repeat first|with_reducible refine kp [1,2,123] ?_|simp only[kV,simprocAttr,aa]|refine aN ?_);refine ulk ?_;(repeat first|with_reducible refine kp [4] ?_|simp only[kV,simprocAttr,aa,ac,af,ae,ah]|refine aN ?_);exact congrArg (D.int .i64) (show (0:Int)=_ by simp[oneF,Qt,Fm.kd,Fm.gs,Fm.p,Fm.rel,Fm.v,Fm.k,hN,hP,hr,hk,hv])
theorem M7 (T U X:Nat) (rel v k:Int) (p:List At) (gs:List Fm) (n:Int) (hl:p.length≤9223372036854775807) (hs:∀t∈p,t.1.length≤9223372036854775807):Con Try.prog AN 19 [fD T U X 2 rel v k p gs,J n] (J (oneF (.mk 2 p rel v k gs) n)):=by
 refine dE.con rfl (by simp) ?_;(repeat first|with_reducible refine kp [1,2,13] ?_|simp only[kV,simprocAttr,aa,aw]|refine aN ?_);by_cases hz:0<(gs.length:Int)
 ·have hN:¬ gs.length=0:=by omega
  (try simp only[kV,simprocAttr,aa,hz]);refine ulk ?_;(repeat first|with_reducible refine kp [1,2,5] ?_|simp only[kV,simprocAttr,aa,hz]|refine aN ?_);refine ulc ?_;(repeat first|with_reducible refine kp [1,2,54] ?_|simp only[kV,simprocAttr,aa,hz]|refine aN ?_);refine ulk ?_;(repeat first|with_reducible refine kp [4] ?_|simp only[kV,simprocAttr,aa,ac,af,ae,ah,hz]|refine aN ?_);exact congrArg (D.int .i64) (show (8:Int)=_ by simp[oneF,Qt,Fm.kd,Fm.gs,Fm.p,Fm.rel,Fm.v,Fm.k,hN])
 have hN:gs.length=0:=by omega
 (try simp only[kV,simprocAttr,aa,hz]);refine ulk ?_;(repeat first|with_reducible refine kp [1,2,5] ?_|simp only[kV,simprocAttr,aa,hz]|refine aN ?_);refine⟨_,cx (jK _ _ _ _ _ _ _ _),ulc ?_⟩;(repeat first|with_reducible refine kp [1,2,54] ?_|simp only[kV,simprocAttr,aa,hz]|refine aN ?_);refine ulk ?_;(repeat first|with_reducible refine kp [1,2] ?_|simp only[kV,simprocAttr,aa,hz]|refine aN ?_);by_cases hp:0<(p.length:Int)
 ·have hP:0<p.length:=by omega
  refine⟨_,cx (fV _ _ _ _ _ _ _ _),ulc ?_⟩;(repeat first|simp only[kV,simprocAttr,aa,hp]|refine aN ?_);refine ulc ?_;(repeat first|with_reducible refine kp [1,2,88] ?_|simp only[kV,simprocAttr,aa,hp]|refine aN ?_);refine ulk ?_;(repeat first|with_reducible refine kp [4] ?_|simp only[kV,simprocAttr,aa,ac,af,ae,ah,hp]|refine aN ?_);exact congrArg (D.int .i64) (show (3:Int)=_ by simp[oneF,Qt,Fm.kd,Fm.gs,Fm.p,Fm.rel,Fm.v,Fm.k,hN,hP])
 have hP:¬ 0<p.length:=by omega
 by_cases hr:rel=0
 rotate_left
 ·-- skip
  refine⟨_,cx (fV _ _ _ _ _ _ _ _),ulc ?_⟩;(repeat first|simp only[kV,simprocAttr,aa,hp,hr]|refine aN ?_);refine ulc ?_;(repeat first|with_reducible refine kp [1,2,88] ?_|simp only[kV,simprocAttr,aa,hr]|refine aN ?_);refine ulk ?_;(repeat first|with_reducible refine kp [4] ?_|simp only[kV,simprocAttr,aa,ac,af,ae,ah,hr]|refine aN ?_);exact congrArg (D.int .i64) (show (3:Int)=_ by simp[oneF,Qt,Fm.kd,Fm.gs,Fm.p,Fm.rel,Fm.v,Fm.k,hN,hP,hr])
 by_cases hk:k=0
 rotate_left
 ·-- skip
  refine⟨_,cx (fV _ _ _ _ _ _ _ _),ulc ?_⟩;(repeat first|simp only[kV,simprocAttr,aa,hp,hr,hk]|refine aN ?_);refine ulc ?_;(repeat first|with_reducible refine kp [1,2,88] ?_|simp only[kV,simprocAttr,aa,hk]|refine aN ?_);refine ulk ?_;(repeat first|with_reducible refine kp [4] ?_|simp only[kV,simprocAttr,aa,ac,af,ae,ah,hk]|refine aN ?_);exact congrArg (D.int .i64) (show (3:Int)=_ by simp[oneF,Qt,Fm.kd,Fm.gs,Fm.p,Fm.rel,Fm.v,Fm.k,hN,hP,hr,hk])
 by_cases hv:v=0
 rotate_left
 ·-- skip
  refine⟨_,cx (fV _ _ _ _ _ _ _ _),ulc ?_⟩;(repeat first|simp only[kV,simprocAttr,aa,hp,hr,hk]|refine aN ?_);refine⟨_,cx (jK _ _ _ _ _ _ _ _),ulc ?_⟩;(repeat first|with_reducible refine kp [1,2,88] ?_|simp only[kV,simprocAttr,aa,hv]|refine aN ?_);refine ulk ?_;(repeat first|with_reducible refine kp [4] ?_|simp only[kV,simprocAttr,aa,ac,af,ae,ah]|refine aN ?_);exact congrArg (D.int .i64) (show (3:Int)=_ by simp[oneF,Qt,Fm.kd,Fm.gs,Fm.p,Fm.rel,Fm.v,Fm.k,hN,hP,hr,hk,hv])
 refine⟨_,cx (fV _ _ _ _ _ _ _ _),ulc ?_⟩;(repeat first|simp only[kV,simprocAttr,aa,hp,hr,hk,hv]|refine aN ?_);refine⟨_,cx (jK _ _ _ _ _ _ _ _),ulc ?_⟩;(repeat first|with_reducible refine kp [1,2,88] ?_|simp only[kV,simprocAttr,aa,hp,hr,hk,hv]|refine aN ?_);refine ulk ?_;(repeat first|with_reducible refine kp [1,2] ?_|simp only[kV,simprocAttr,aa]|refine aN ?_);refine⟨_,cx (fV _ _ _ _ _ _ _ _),ulc ?_⟩;(repeat first|with_reducible refine kp [1,2,100] ?_|simp only[kV,simprocAttr,aa]|refine aN ?_);refine ulk ?_;(repeat first|with_reducible refine kp [1,2] ?_|simp only[kV,simprocAttr,aa]|refine aN ?_);refine⟨_,cx (jK _ _ _ _ _ _ _ _),ulc ?_⟩;(repeat first|with_reducible refine kp [1,2,118] ?_|simp only[kV,simprocAttr,aa]|refine aN ?_);(try simp only[kV,simprocAttr,aa,hk]);refine ulk ?_;(repeat first|with_reducible refine kp [1,2,121] ?_|simp only[kV,simprocAttr,aa,hk]|refine aN ?_);refine ulk ?_;(repeat first|with_reducible refine kp [1,2] ?_|simp only[kV,simprocAttr,aa,hk]|refine aN ?_);refine⟨_,cx (fV _ _ _ _ _ _ _ _),?_⟩;(repeat first|with_reducible refine kp [1,2,123] ?_|simp only[kV,simprocAttr,aa]|refine aN ?_);refine ulk ?_;(repeat first|with_reducible refine kp [4] ?_|simp only[kV,simprocAttr,aa,ac,af,ae,ah]|refine aN ?_);exact congrArg (D.int .i64) (show (0:Int)=_ by simp[oneF,Qt,Fm.kd,Fm.gs,Fm.p,Fm.rel,Fm.v,Fm.k,hN,hP,hr,hk,hv])
theorem M8 (T U X:Nat) (rel v k:Int) (p:List At) (gs:List Fm) (n:Int) (hl:p.length≤9223372036854775807) (hs:∀t∈p,t.1.length≤9223372036854775807):Con Try.prog AN 19 [fD T U X 3 rel v k p gs,J n] (J (oneF (.mk 3 p rel v k gs) n)):=by
 refine dE.con rfl (by simp) ?_;(repeat first|with_reducible refine kp [1,2,13] ?_|simp only[kV,simprocAttr,aa,aw]|refine aN ?_);by_cases hz:0<(gs.length:Int)
 ·have hN:¬ gs.length=0:=by omega
  (try simp only[kV,simprocAttr,aa,hz]);refine ulk ?_;(repeat first|with_reducible refine kp [1,2,5] ?_|simp only[kV,simprocAttr,aa,hz]|refine aN ?_);refine ulc ?_;(repeat first|with_reducible refine kp [1,2,54] ?_|simp only[kV,simprocAttr,aa,hz]|refine aN ?_);refine ulk ?_;(repeat first|with_reducible refine kp [4] ?_|simp only[kV,simprocAttr,aa,ac,af,ae,ah,hz]|refine aN ?_);exact congrArg (D.int .i64) (show (8:Int)=_ by simp[oneF,Qt,Fm.kd,Fm.gs,Fm.p,Fm.rel,Fm.v,Fm.k,hN])
 have hN:gs.length=0:=by omega
 (try simp only[kV,simprocAttr,aa,hz]);refine ulk ?_;(repeat first|with_reducible refine kp [1,2,5] ?_|simp only[kV,simprocAttr,aa,hz]|refine aN ?_);refine⟨_,cx (jL _ _ _ _ _ _ _ _),ulc ?_⟩;(repeat first|with_reducible refine kp [1,2,54] ?_|simp only[kV,simprocAttr,aa,hz]|refine aN ?_);refine ulk ?_;(repeat first|with_reducible refine kp [1,2] ?_|simp only[kV,simprocAttr,aa,hz]|refine aN ?_);by_cases hk:k=0
 rotate_left
 ·-- skip
  refine⟨_,cx (fW _ _ _ _ _ _ _ _),ulc ?_⟩;(repeat first|simp only[kV,simprocAttr,aa,hk]|refine aN ?_);refine ulc ?_;(repeat first|with_reducible refine kp [1,2,88] ?_|simp only[kV,simprocAttr,aa,hk]|refine aN ?_);refine ulk ?_;(repeat first|with_reducible refine kp [4] ?_|simp only[kV,simprocAttr,aa,ac,af,ae,ah,hk]|refine aN ?_);exact congrArg (D.int .i64) (show (3:Int)=_ by simp[oneF,Qt,Fm.kd,Fm.gs,Fm.p,Fm.rel,Fm.v,Fm.k,hN,hk])
 by_cases hv:v=0
 rotate_left
 ·-- skip
  refine⟨_,cx (fW _ _ _ _ _ _ _ _),ulc ?_⟩;(repeat first|simp only[kV,simprocAttr,aa,hk]|refine aN ?_);refine⟨_,cx (jL _ _ _ _ _ _ _ _),ulc ?_⟩;(repeat first|with_reducible refine kp [1,2,88] ?_|simp only[kV,simprocAttr,aa,hv]|refine aN ?_);refine ulk ?_;(repeat first|with_reducible refine kp [4] ?_|simp only[kV,simprocAttr,aa,ac,af,ae,ah]|refine aN ?_);exact congrArg (D.int .i64) (show (3:Int)=_ by simp[oneF,Qt,Fm.kd,Fm.gs,Fm.p,Fm.rel,Fm.v,Fm.k,hN,hk,hv])
 refine⟨_,cx (fW _ _ _ _ _ _ _ _),ulc ?_⟩;(repeat first|simp only[kV,simprocAttr,aa,hk,hv]|refine aN ?_);refine⟨_,cx (jL _ _ _ _ _ _ _ _),ulc ?_⟩;(repeat first|with_reducible refine kp [1,2,88] ?_|simp only[kV,simprocAttr,aa,hk,hv]|refine aN ?_);refine ulk ?_;(repeat first|with_reducible refine kp [1,2] ?_|simp only[kV,simprocAttr,aa]|refine aN ?_);by_cases h1:rel<1
 ·-- skip
  refine⟨_,cx (fW _ _ _ _ _ _ _ _),ulc ?_⟩;(repeat first|with_reducible refine kp [1,2,100] ?_|simp only[kV,simprocAttr,aa,h1]|refine aN ?_);refine ulk ?_;(repeat first|with_reducible refine kp [4] ?_|simp only[kV,simprocAttr,aa,ac,af,ae,ah,h1]|refine aN ?_);exact congrArg (D.int .i64) (show (11:Int)=_ by simp[oneF,Qt,Fm.kd,Fm.gs,Fm.p,Fm.rel,Fm.v,Fm.k,hN,hk,hv,h1])
 by_cases h6:6<rel
 ·-- skip
  refine⟨_,cx (fW _ _ _ _ _ _ _ _),ulc ?_⟩;(repeat first|with_reducible refine kp [1,2,100] ?_|simp only[kV,simprocAttr,aa,h1,h6]|refine aN ?_);refine ulk ?_;(repeat first|with_reducible refine kp [4] ?_|simp only[kV,simprocAttr,aa,ac,af,ae,ah,h1]|refine aN ?_);exact congrArg (D.int .i64) (show (11:Int)=_ by simp[oneF,Qt,Fm.kd,Fm.gs,Fm.p,Fm.rel,Fm.v,Fm.k,hN,hk,hv,h1,h6])
 refine⟨_,cx (fW _ _ _ _ _ _ _ _),ulc ?_⟩;(repeat first|with_reducible refine kp [1,2,100] ?_|simp only[kV,simprocAttr,aa,h1,h6]|refine aN ?_);refine ulk ?_;(repeat first|with_reducible refine kp [1,2] ?_|simp only[kV,simprocAttr,aa]|refine aN ?_);refine⟨_,cx (jL _ _ _ _ _ _ _ _),ulc ?_⟩;(repeat first|with_reducible refine kp [1,2,118] ?_|simp only[kV,simprocAttr,aa]|refine aN ?_);(try simp only[kV,simprocAttr,aa,hk]);refine ulk ?_;(repeat first|with_reducible refine kp [1,2,121] ?_|simp only[kV,simprocAttr,aa,hk]|refine aN ?_);refine ulk ?_;(repeat first|with_reducible refine kp [1,2] ?_|simp only[kV,simprocAttr,aa,hk]|refine aN ?_);refine⟨_,cx (fW _ _ _ _ _ _ _ _),?_⟩;(repeat first|with_reducible refine kp [1,2,123] ?_|simp only[kV,simprocAttr,aa]|refine aN ?_);refine ulk ?_;(repeat first|simp only[kV,simprocAttr,aa]|refine aN ?_);refine⟨_,cx (nV T U p n 0 hl hs),ulc ?_⟩;(repeat first|with_reducible refine kp [4] ?_|simp only[kV,simprocAttr,aa,ac,af,ae,ah]|refine aN ?_);exact congrArg (D.int .i64) (show (fM p n 0).1=_ by simp[oneF,Qt,Fm.kd,Fm.gs,Fm.p,Fm.rel,Fm.v,Fm.k,hN,hk,hv,h1,h6])
theorem M9 (T U X:Nat) (rel v k:Int) (p:List At) (gs:List Fm) (n:Int) (hl:p.length≤9223372036854775807) (hs:∀t∈p,t.1.length≤9223372036854775807):Con Try.prog AN 19 [fD T U X 4 rel v k p gs,J n] (J (oneF (.mk 4 p rel v k gs) n)):=by
 refine dE.con rfl (by simp) ?_;(repeat first|with_reducible refine kp [1,2,13] ?_|simp only[kV,simprocAttr,aa,aw]|refine aN ?_);by_cases hz:0<(gs.length:Int)
 ·have hN:¬ gs.length=0:=by omega
  (try simp only[kV,simprocAttr,aa,hz]);refine ulk ?_;(repeat first|with_reducible refine kp [1,2,5] ?_|simp only[kV,simprocAttr,aa,hz]|refine aN ?_);refine ulc ?_;(repeat first|with_reducible refine kp [1,2,54] ?_|simp only[kV,simprocAttr,aa,hz]|refine aN ?_);refine ulk ?_;(repeat first|with_reducible refine kp [4] ?_|simp only[kV,simprocAttr,aa,ac,af,ae,ah,hz]|refine aN ?_);exact congrArg (D.int .i64) (show (8:Int)=_ by simp[oneF,Qt,Fm.kd,Fm.gs,Fm.p,Fm.rel,Fm.v,Fm.k,hN])
 have hN:gs.length=0:=by omega
 (try simp only[kV,simprocAttr,aa,hz]);refine ulk ?_;(repeat first|with_reducible refine kp [1,2,5] ?_|simp only[kV,simprocAttr,aa,hz]|refine aN ?_);refine⟨_,cx (M5 _ _ _ _ _ _ _ _),ulc ?_⟩;(repeat first|with_reducible refine kp [1,2,54] ?_|simp only[kV,simprocAttr,aa,hz]|refine aN ?_);refine ulk ?_;(repeat first|with_reducible refine kp [1,2] ?_|simp only[kV,simprocAttr,aa,hz]|refine aN ?_);refine⟨_,cx (iz _ _ _ _ _ _ _ _),ulc ?_⟩;(repeat first|simp only[kV,simprocAttr,aa]|refine aN ?_);refine ulc ?_;(repeat first|with_reducible refine kp [1,2,88] ?_|simp only[kV,simprocAttr,aa]|refine aN ?_);refine ulk ?_;(repeat first|with_reducible refine kp [1,2] ?_|simp only[kV,simprocAttr,aa]|refine aN ?_);by_cases h1:rel<1
 ·-- skip
  refine⟨_,cx (iz _ _ _ _ _ _ _ _),ulc ?_⟩;(repeat first|with_reducible refine kp [1,2,100] ?_|simp only[kV,simprocAttr,aa,h1]|refine aN ?_);refine ulk ?_;(repeat first|with_reducible refine kp [4] ?_|simp only[kV,simprocAttr,aa,ac,af,ae,ah,h1]|refine aN ?_);exact congrArg (D.int .i64) (show (11:Int)=_ by simp[oneF,Qt,Fm.kd,Fm.gs,Fm.p,Fm.rel,Fm.v,Fm.k,hN,h1])
 by_cases h6:6<rel
 ·-- skip
  refine⟨_,cx (iz _ _ _ _ _ _ _ _),ulc ?_⟩;(repeat first|with_reducible refine kp [1,2,100] ?_|simp only[kV,simprocAttr,aa,h1,h6]|refine aN ?_);refine ulk ?_;(repeat first|with_reducible refine kp [4] ?_|simp only[kV,simprocAttr,aa,ac,af,ae,ah,h1]|refine aN ?_);exact congrArg (D.int .i64) (show (11:Int)=_ by simp[oneF,Qt,Fm.kd,Fm.gs,Fm.p,Fm.rel,Fm.v,Fm.k,hN,h1,h6])
 refine⟨_,cx (iz _ _ _ _ _ _ _ _),ulc ?_⟩;(repeat first|with_reducible refine kp [1,2,100] ?_|simp only[kV,simprocAttr,aa,h1,h6]|refine aN ?_);refine ulk ?_;(repeat first|with_reducible refine kp [1,2] ?_|simp only[kV,simprocAttr,aa]|refine aN ?_);by_cases v0:v<0
 ·-- skip
  refine ulc ?_;(repeat first|with_reducible refine kp [1,2,118] ?_|simp only[kV,simprocAttr,aa,v0]|refine aN ?_);refine ulk ?_;(repeat first|with_reducible refine kp [4] ?_|simp only[kV,simprocAttr,aa,ac,af,ae,ah]|refine aN ?_);exact congrArg (D.int .i64) (show (10:Int)=_ by simp[oneF,Qt,Fm.kd,Fm.gs,Fm.p,Fm.rel,Fm.v,Fm.k,hN,h1,h6,v0])
 by_cases vn:n≤v
 ·-- skip
  refine ulc ?_;(repeat first|with_reducible refine kp [1,2,118] ?_|simp only[kV,simprocAttr,aa,v0,vn]|refine aN ?_);refine ulk ?_;(repeat first|with_reducible refine kp [4] ?_|simp only[kV,simprocAttr,aa,ac,af,ae,ah]|refine aN ?_);exact congrArg (D.int .i64) (show (10:Int)=_ by simp[oneF,Qt,Fm.kd,Fm.gs,Fm.p,Fm.rel,Fm.v,Fm.k,hN,h1,h6,v0,vn])
 refine ulc ?_;(repeat first|with_reducible refine kp [1,2,118] ?_|simp only[kV,simprocAttr,aa,v0,vn]|refine aN ?_);refine ulk ?_;(repeat first|with_reducible refine kp [1,2,121] ?_|simp only[kV,simprocAttr,aa]|refine aN ?_);by_cases hk:k<0
 ·(try simp only[kV,simprocAttr,aa,hk]);refine ulk ?_;(repeat first|with_reducible refine kp [4] ?_|simp only[kV,simprocAttr,aa,ac,af,ae,ah,hk]|refine aN ?_);exact congrArg (D.int .i64) (show (7:Int)=_ by simp[oneF,Qt,Fm.kd,Fm.gs,Fm.p,Fm.rel,Fm.v,Fm.k,hN,h1,h6,v0,vn,hk])
 (try simp only[kV,simprocAttr,aa,hk]);refine ulk ?_;(repeat first|with_reducible refine kp [1,2] ?_|simp only[kV,simprocAttr,aa,hk]|refine aN ?_);refine⟨_,cx (iz _ _ _ _ _ _ _ _),?_⟩;(repeat first|with_reducible refine kp [1,2,123] ?_|simp only[kV,simprocAttr,aa]|refine aN ?_);refine ulk ?_;(repeat first|simp only[kV,simprocAttr,aa]|refine aN ?_);refine⟨_,cx (nV T U p n 0 hl hs),ulc ?_⟩;(repeat first|with_reducible refine kp [4] ?_|simp only[kV,simprocAttr,aa,ac,af,ae,ah]|refine aN ?_);exact congrArg (D.int .i64) (show (fM p n 0).1=_ by simp[oneF,Qt,Fm.kd,Fm.gs,Fm.p,Fm.rel,Fm.v,Fm.k,hN,h1,h6,v0,vn,hk])
theorem Na (T U X:Nat) (rel v k:Int) (p:List At) (gs:List Fm) (n:Int) (hl:p.length≤9223372036854775807) (hs:∀t∈p,t.1.length≤9223372036854775807):Con Try.prog AN 19 [fD T U X 5 rel v k p gs,J n] (J (oneF (.mk 5 p rel v k gs) n)):=by
 refine dE.con rfl (by simp) ?_;(repeat first|with_reducible refine kp [1,2,13] ?_|simp only[kV,simprocAttr,aa,aw]|refine aN ?_);by_cases hz:(gs.length:Int)=1
 rotate_left
 ·have hN:¬ gs.length=1:=by omega
  (try simp only[kV,simprocAttr,aa,hz]);refine ulk ?_;(repeat first|with_reducible refine kp [1,2,5] ?_|simp only[kV,simprocAttr,aa,hz]|refine aN ?_);refine ulc ?_;(repeat first|with_reducible refine kp [1,2,54] ?_|simp only[kV,simprocAttr,aa,hz]|refine aN ?_);refine ulk ?_;(repeat first|with_reducible refine kp [4] ?_|simp only[kV,simprocAttr,aa,ac,af,ae,ah,hz]|refine aN ?_);exact congrArg (D.int .i64) (show (8:Int)=_ by simp[oneF,Qt,Fm.kd,Fm.gs,Fm.p,Fm.rel,Fm.v,Fm.k,hN])
 have hN:gs.length=1:=by omega
 (try simp only[kV,simprocAttr,aa,hz]);refine ulk ?_;(repeat first|with_reducible refine kp [1,2,5] ?_|simp only[kV,simprocAttr,aa,hz]|refine aN ?_);refine⟨_,cx (jM _ _ _ _ _ _ _ _),ulc ?_⟩;(repeat first|with_reducible refine kp [1,2,54] ?_|simp only[kV,simprocAttr,aa,hz]|refine aN ?_);refine ulk ?_;(repeat first|with_reducible refine kp [1,2] ?_|simp only[kV,simprocAttr,aa,hz]|refine aN ?_);by_cases hp:0<(p.length:Int)
 ·have hP:0<p.length:=by omega
  refine⟨_,cx (fX _ _ _ _ _ _ _ _),ulc ?_⟩;(repeat first|simp only[kV,simprocAttr,aa,hp]|refine aN ?_);refine ulc ?_;(repeat first|with_reducible refine kp [1,2,88] ?_|simp only[kV,simprocAttr,aa,hp]|refine aN ?_);refine ulk ?_;(repeat first|with_reducible refine kp [4] ?_|simp only[kV,simprocAttr,aa,ac,af,ae,ah,hp]|refine aN ?_);exact congrArg (D.int .i64) (show (3:Int)=_ by simp[oneF,Qt,Fm.kd,Fm.gs,Fm.p,Fm.rel,Fm.v,Fm.k,hN,hP])
 have hP:¬ 0<p.length:=by omega
 by_cases hr:rel=0
 rotate_left
 ·-- skip
  refine⟨_,cx (fX _ _ _ _ _ _ _ _),ulc ?_⟩;(repeat first|simp only[kV,simprocAttr,aa,hp,hr]|refine aN ?_);refine ulc ?_;(repeat first|with_reducible refine kp [1,2,88] ?_|simp only[kV,simprocAttr,aa,hr]|refine aN ?_);refine ulk ?_;(repeat first|with_reducible refine kp [4] ?_|simp only[kV,simprocAttr,aa,ac,af,ae,ah,hr]|refine aN ?_);exact congrArg (D.int .i64) (show (3:Int)=_ by simp[oneF,Qt,Fm.kd,Fm.gs,Fm.p,Fm.rel,Fm.v,Fm.k,hN,hP,hr])
 by_cases hk:k=0
 rotate_left
 ·-- skip
  refine⟨_,cx (fX _ _ _ _ _ _ _ _),ulc ?_⟩;(repeat first|simp only[kV,simprocAttr,aa,hp,hr,hk]|refine aN ?_);refine ulc ?_;(repeat first|with_reducible refine kp [1,2,88] ?_|simp only[kV,simprocAttr,aa,hk]|refine aN ?_);refine ulk ?_;(repeat first|with_reducible refine kp [4] ?_|simp only[kV,simprocAttr,aa,ac,af,ae,ah,hk]|refine aN ?_);exact congrArg (D.int .i64) (show (3:Int)=_ by simp[oneF,Qt,Fm.kd,Fm.gs,Fm.p,Fm.rel,Fm.v,Fm.k,hN,hP,hr,hk])
 by_cases hv:v=0
 rotate_left
 ·-- skip
  refine⟨_,cx (fX _ _ _ _ _ _ _ _),ulc ?_⟩;(repeat first|simp only[kV,simprocAttr,aa,hp,hr,hk]|refine aN ?_);refine⟨_,cx (jM _ _ _ _ _ _ _ _),ulc ?_⟩;(repeat first|with_reducible refine kp [1,2,88] ?_|simp only[kV,simprocAttr,aa,hv]|refine aN ?_);refine ulk ?_;(repeat first|with_reducible refine kp [4] ?_|simp only[kV,simprocAttr,aa,ac,af,ae,ah]|refine aN ?_);exact congrArg (D.int .i64) (show (3:Int)=_ by simp[oneF,Qt,Fm.kd,Fm.gs,Fm.p,Fm.rel,Fm.v,Fm.k,hN,hP,hr,hk,hv])
 refine⟨_,cx (fX _ _ _ _ _ _ _ _),ulc ?_⟩;(repeat first|simp only[kV,simprocAttr,aa,hp,hr,hk,hv]|refine aN ?_);refine⟨_,cx (jM _ _ _ _ _ _ _ _),ulc ?_⟩;(repeat first|with_reducible refine kp [1,2,88] ?_|simp only[kV,simprocAttr,aa,hp,hr,hk,hv]|refine aN ?_);refine ulk ?_;(repeat first|with_reducible refine kp [1,2] ?_|simp only[kV,simprocAttr,aa]|refine aN ?_);refine⟨_,cx (fX _ _ _ _ _ _ _ _),ulc ?_⟩;(repeat first|with_reducible refine kp [1,2,100] ?_|simp only[kV,simprocAttr,aa]|refine aN ?_);refine ulk ?_;(repeat first|with_reducible refine kp [1,2] ?_|simp only[kV,simprocAttr,aa]|refine aN ?_);refine⟨_,cx (jM _ _ _ _ _ _ _ _),ulc ?_⟩;(repeat first|with_reducible refine kp [1,2,118] ?_|simp only[kV,simprocAttr,aa]|refine aN ?_);(try simp only[kV,simprocAttr,aa,hk]);refine ulk ?_;(repeat first|with_reducible refine kp [1,2,121] ?_|simp only[kV,simprocAttr,aa,hk]|refine aN ?_);refine ulk ?_;(repeat first|with_reducible refine kp [1,2] ?_|simp only[kV,simprocAttr,aa,hk]|refine aN ?_);refine⟨_,cx (fX _ _ _ _ _ _ _ _),?_⟩;(repeat first|with_reducible refine kp [1,2,123] ?_|simp only[kV,simprocAttr,aa]|refine aN ?_);refine ulk ?_;(repeat first|with_reducible refine kp [4] ?_|simp only[kV,simprocAttr,aa,ac,af,ae,ah]|refine aN ?_);exact congrArg (D.int .i64) (show (0:Int)=_ by simp[oneF,Qt,Fm.kd,Fm.gs,Fm.p,Fm.rel,Fm.v,Fm.k,hN,hP,hr,hk,hv])
theorem Nb (T U X:Nat) (rel v k:Int) (p:List At) (gs:List Fm) (n:Int) (hl:p.length≤9223372036854775807) (hs:∀t∈p,t.1.length≤9223372036854775807):Con Try.prog AN 19 [fD T U X 6 rel v k p gs,J n] (J (oneF (.mk 6 p rel v k gs) n)):=by
 refine dE.con rfl (by simp) ?_;(repeat first|with_reducible refine kp [1,2,13] ?_|simp only[kV,simprocAttr,aa,aw]|refine aN ?_);by_cases hz:(gs.length:Int)=0
 ·have hN:gs.length=0:=by omega
  (try simp only[kV,simprocAttr,aa,hz]);refine ulk ?_;(repeat first|with_reducible refine kp [1,2,5] ?_|simp only[kV,simprocAttr,aa,hz]|refine aN ?_);refine⟨_,cx (iA _ _ _ _ _ _ _ _),ulc ?_⟩;(repeat first|with_reducible refine kp [1,2,54] ?_|simp only[kV,simprocAttr,aa,hz]|refine aN ?_);refine ulk ?_;(repeat first|with_reducible refine kp [4] ?_|simp only[kV,simprocAttr,aa,ac,af,ae,ah,hz]|refine aN ?_);exact congrArg (D.int .i64) (show (8:Int)=_ by simp[oneF,Qt,Fm.kd,Fm.gs,Fm.p,Fm.rel,Fm.v,Fm.k,hN])
 have hN:¬ gs.length=0:=by omega
 (try simp only[kV,simprocAttr,aa,hz]);refine ulk ?_;(repeat first|with_reducible refine kp [1,2,5] ?_|simp only[kV,simprocAttr,aa,hz]|refine aN ?_);refine⟨_,cx (iA _ _ _ _ _ _ _ _),ulc ?_⟩;(repeat first|with_reducible refine kp [1,2,54] ?_|simp only[kV,simprocAttr,aa,hz]|refine aN ?_);refine ulk ?_;(repeat first|with_reducible refine kp [1,2] ?_|simp only[kV,simprocAttr,aa,hz]|refine aN ?_);by_cases hp:0<(p.length:Int)
 ·have hP:0<p.length:=by omega
  refine⟨_,cx (fY _ _ _ _ _ _ _ _),ulc ?_⟩;(repeat first|simp only[kV,simprocAttr,aa,hp]|refine aN ?_);refine ulc ?_;(repeat first|with_reducible refine kp [1,2,88] ?_|simp only[kV,simprocAttr,aa,hp]|refine aN ?_);refine ulk ?_;(repeat first|with_reducible refine kp [4] ?_|simp only[kV,simprocAttr,aa,ac,af,ae,ah,hp]|refine aN ?_);exact congrArg (D.int .i64) (show (3:Int)=_ by simp[oneF,Qt,Fm.kd,Fm.gs,Fm.p,Fm.rel,Fm.v,Fm.k,hN,hP])
 have hP:¬ 0<p.length:=by omega
 by_cases hr:rel=0
 rotate_left
 ·-- skip
  refine⟨_,cx (fY _ _ _ _ _ _ _ _),ulc ?_⟩;(repeat first|simp only[kV,simprocAttr,aa,hp,hr]|refine aN ?_);refine ulc ?_;(repeat first|with_reducible refine kp [1,2,88] ?_|simp only[kV,simprocAttr,aa,hr]|refine aN ?_);refine ulk ?_;(repeat first|with_reducible refine kp [4] ?_|simp only[kV,simprocAttr,aa,ac,af,ae,ah,hr]|refine aN ?_);exact congrArg (D.int .i64) (show (3:Int)=_ by simp[oneF,Qt,Fm.kd,Fm.gs,Fm.p,Fm.rel,Fm.v,Fm.k,hN,hP,hr])
 by_cases hk:k=0
 rotate_left
 ·-- skip
  refine⟨_,cx (fY _ _ _ _ _ _ _ _),ulc ?_⟩;(repeat first|simp only[kV,simprocAttr,aa,hp,hr,hk]|refine aN ?_);refine ulc ?_;(repeat first|with_reducible refine kp [1,2,88] ?_|simp only[kV,simprocAttr,aa,hk]|refine aN ?_);refine ulk ?_;(repeat first|with_reducible refine kp [4] ?_|simp only[kV,simprocAttr,aa,ac,af,ae,ah,hk]|refine aN ?_);exact congrArg (D.int .i64) (show (3:Int)=_ by simp[oneF,Qt,Fm.kd,Fm.gs,Fm.p,Fm.rel,Fm.v,Fm.k,hN,hP,hr,hk])
 by_cases hv:v=0
 rotate_left
 ·-- skip
  refine⟨_,cx (fY _ _ _ _ _ _ _ _),ulc ?_⟩;(repeat first|simp only[kV,simprocAttr,aa,hp,hr,hk]|refine aN ?_);refine⟨_,cx (iA _ _ _ _ _ _ _ _),ulc ?_⟩;(repeat first|with_reducible refine kp [1,2,88] ?_|simp only[kV,simprocAttr,aa,hv]|refine aN ?_);refine ulk ?_;(repeat first|with_reducible refine kp [4] ?_|simp only[kV,simprocAttr,aa,ac,af,ae,ah]|refine aN ?_);exact congrArg (D.int .i64) (show (3:Int)=_ by simp[oneF,Qt,Fm.kd,Fm.gs,Fm.p,Fm.rel,Fm.v,Fm.k,hN,hP,hr,hk,hv])
 refine⟨_,cx (fY _ _ _ _ _ _ _ _),ulc ?_⟩;(repeat first|simp only[kV,simprocAttr,aa,hp,hr,hk,hv]|refine aN ?_);refine⟨_,cx (iA _ _ _ _ _ _ _ _),ulc ?_⟩;(repeat first|with_reducible refine kp [1,2,88] ?_|simp only[kV,simprocAttr,aa,hp,hr,hk,hv]|refine aN ?_);refine ulk ?_;(repeat first|with_reducible refine kp [1,2] ?_|simp only[kV,simprocAttr,aa]|refine aN ?_);refine⟨_,cx (fY _ _ _ _ _ _ _ _),ulc ?_⟩;(repeat first|with_reducible refine kp [1,2,100] ?_|simp only[kV,simprocAttr,aa]|refine aN ?_);refine ulk ?_;(repeat first|with_reducible refine kp [1,2] ?_|simp only[kV,simprocAttr,aa]|refine aN ?_);refine⟨_,cx (iA _ _ _ _ _ _ _ _),ulc ?_⟩;(repeat first|with_reducible refine kp [1,2,118] ?_|simp only[kV,simprocAttr,aa]|refine aN ?_);(try simp only[kV,simprocAttr,aa,hk]);refine ulk ?_;(repeat first|with_reducible refine kp [1,2,121] ?_|simp only[kV,simprocAttr,aa,hk]|refine aN ?_);refine ulk ?_;(repeat first|with_reducible refine kp [1,2] ?_|simp only[kV,simprocAttr,aa,hk]|refine aN ?_);refine⟨_,cx (fY _ _ _ _ _ _ _ _),?_⟩;(repeat first|with_reducible refine kp [1,2,123] ?_|simp only[kV,simprocAttr,aa]|refine aN ?_);refine ulk ?_;(repeat first|with_reducible refine kp [4] ?_|simp only[kV,simprocAttr,aa,ac,af,ae,ah]|refine aN ?_);exact congrArg (D.int .i64) (show (0:Int)=_ by simp[oneF,Qt,Fm.kd,Fm.gs,Fm.p,Fm.rel,Fm.v,Fm.k,hN,hP,hr,hk,hv])
theorem Nc (T U X:Nat) (rel v k:Int) (p:List At) (gs:List Fm) (n:Int) (hl:p.length≤9223372036854775807) (hs:∀t∈p,t.1.length≤9223372036854775807):Con Try.prog AN 19 [fD T U X 7 rel v k p gs,J n] (J (oneF (.mk 7 p rel v k gs) n)):=by
 refine dE.con rfl (by simp) ?_;(repeat first|with_reducible refine kp [1,2,13] ?_|simp only[kV,simprocAttr,aa,aw]|refine aN ?_);by_cases hz:(gs.length:Int)=0
 ·have hN:gs.length=0:=by omega
  (try simp only[kV,simprocAttr,aa,hz]);refine ulk ?_;(repeat first|with_reducible refine kp [1,2,5] ?_|simp only[kV,simprocAttr,aa,hz]|refine aN ?_);refine⟨_,cx (iB _ _ _ _ _ _ _ _),ulc ?_⟩;(repeat first|with_reducible refine kp [1,2,54] ?_|simp only[kV,simprocAttr,aa,hz]|refine aN ?_);refine ulk ?_;(repeat first|with_reducible refine kp [4] ?_|simp only[kV,simprocAttr,aa,ac,af,ae,ah,hz]|refine aN ?_);exact congrArg (D.int .i64) (show (8:Int)=_ by simp[oneF,Qt,Fm.kd,Fm.gs,Fm.p,Fm.rel,Fm.v,Fm.k,hN])
 have hN:¬ gs.length=0:=by omega
 (try simp only[kV,simprocAttr,aa,hz]);refine ulk ?_;(repeat first|with_reducible refine kp [1,2,5] ?_|simp only[kV,simprocAttr,aa,hz]|refine aN ?_);refine⟨_,cx (iB _ _ _ _ _ _ _ _),ulc ?_⟩;(repeat first|with_reducible refine kp [1,2,54] ?_|simp only[kV,simprocAttr,aa,hz]|refine aN ?_);refine ulk ?_;(repeat first|with_reducible refine kp [1,2] ?_|simp only[kV,simprocAttr,aa,hz]|refine aN ?_);by_cases hp:0<(p.length:Int)
 ·have hP:0<p.length:=by omega
  refine⟨_,cx (fZ _ _ _ _ _ _ _ _),ulc ?_⟩;(repeat first|simp only[kV,simprocAttr,aa,hp]|refine aN ?_);refine ulc ?_;(repeat first|with_reducible refine kp [1,2,88] ?_|simp only[kV,simprocAttr,aa,hp]|refine aN ?_);refine ulk ?_;(repeat first|with_reducible refine kp [4] ?_|simp only[kV,simprocAttr,aa,ac,af,ae,ah,hp]|refine aN ?_);exact congrArg (D.int .i64) (show (3:Int)=_ by simp[oneF,Qt,Fm.kd,Fm.gs,Fm.p,Fm.rel,Fm.v,Fm.k,hN,hP])
 have hP:¬ 0<p.length:=by omega
 by_cases hr:rel=0
 rotate_left
 ·-- skip
  refine⟨_,cx (fZ _ _ _ _ _ _ _ _),ulc ?_⟩;(repeat first|simp only[kV,simprocAttr,aa,hp,hr]|refine aN ?_);refine ulc ?_;(repeat first|with_reducible refine kp [1,2,88] ?_|simp only[kV,simprocAttr,aa,hr]|refine aN ?_);refine ulk ?_;(repeat first|with_reducible refine kp [4] ?_|simp only[kV,simprocAttr,aa,ac,af,ae,ah,hr]|refine aN ?_);exact congrArg (D.int .i64) (show (3:Int)=_ by simp[oneF,Qt,Fm.kd,Fm.gs,Fm.p,Fm.rel,Fm.v,Fm.k,hN,hP,hr])
 by_cases hk:k=0
 rotate_left
 ·-- skip
  refine⟨_,cx (fZ _ _ _ _ _ _ _ _),ulc ?_⟩;(repeat first|simp only[kV,simprocAttr,aa,hp,hr,hk]|refine aN ?_);refine ulc ?_;(repeat first|with_reducible refine kp [1,2,88] ?_|simp only[kV,simprocAttr,aa,hk]|refine aN ?_);refine ulk ?_;(repeat first|with_reducible refine kp [4] ?_|simp only[kV,simprocAttr,aa,ac,af,ae,ah,hk]|refine aN ?_);exact congrArg (D.int .i64) (show (3:Int)=_ by simp[oneF,Qt,Fm.kd,Fm.gs,Fm.p,Fm.rel,Fm.v,Fm.k,hN,hP,hr,hk])
 by_cases hv:v=0
 rotate_left
 ·-- skip
  refine⟨_,cx (fZ _ _ _ _ _ _ _ _),ulc ?_⟩;(repeat first|simp only[kV,simprocAttr,aa,hp,hr,hk]|refine aN ?_);refine⟨_,cx (iB _ _ _ _ _ _ _ _),ulc ?_⟩;(repeat first|with_reducible refine kp [1,2,88] ?_|simp only[kV,simprocAttr,aa,hv]|refine aN ?_);refine ulk ?_;(repeat first|with_reducible refine kp [4] ?_|simp only[kV,simprocAttr,aa,ac,af,ae,ah]|refine aN ?_);exact congrArg (D.int .i64) (show (3:Int)=_ by simp[oneF,Qt,Fm.kd,Fm.gs,Fm.p,Fm.rel,Fm.v,Fm.k,hN,hP,hr,hk,hv])
 refine⟨_,cx (fZ _ _ _ _ _ _ _ _),ulc ?_⟩;(repeat first|simp only[kV,simprocAttr,aa,hp,hr,hk,hv]|refine aN ?_);refine⟨_,cx (iB _ _ _ _ _ _ _ _),ulc ?_⟩;(repeat first|with_reducible refine kp [1,2,88] ?_|simp only[kV,simprocAttr,aa,hp,hr,hk,hv]|refine aN ?_);refine ulk ?_;(repeat first|with_reducible refine kp [1,2] ?_|simp only[kV,simprocAttr,aa]|refine aN ?_);refine⟨_,cx (fZ _ _ _ _ _ _ _ _),ulc ?_⟩;(repeat first|with_reducible refine kp [1,2,100] ?_|simp only[kV,simprocAttr,aa]|refine aN ?_);refine ulk ?_;(repeat first|with_reducible refine kp [1,2] ?_|simp only[kV,simprocAttr,aa]|refine aN ?_);refine⟨_,cx (iB _ _ _ _ _ _ _ _),ulc ?_⟩;(repeat first|with_reducible refine kp [1,2,118] ?_|simp only[kV,simprocAttr,aa]|refine aN ?_);(try simp only[kV,simprocAttr,aa,hk]);refine ulk ?_;(repeat first|with_reducible refine kp [1,2,121] ?_|simp only[kV,simprocAttr,aa,hk]|refine aN ?_);refine ulk ?_;(repeat first|with_reducible refine kp [1,2] ?_|simp only[kV,simprocAttr,aa,hk]|refine aN ?_);refine⟨_,cx (fZ _ _ _ _ _ _ _ _),?_⟩;(repeat first|with_reducible refine kp [1,2,123] ?_|simp only[kV,simprocAttr,aa]|refine aN ?_);refine ulk ?_;(repeat first|with_reducible refine kp [4] ?_|simp only[kV,simprocAttr,aa,ac,af,ae,ah]|refine aN ?_);exact congrArg (D.int .i64) (show (0:Int)=_ by simp[oneF,Qt,Fm.kd,Fm.gs,Fm.p,Fm.rel,Fm.v,Fm.k,hN,hP,hr,hk,hv])
theorem Ng (T U X:Nat) (rel v k:Int) (p:List At) (gs:List Fm) (n:Int) (hl:p.length≤9223372036854775807) (hs:∀t∈p,t.1.length≤9223372036854775807):Con Try.prog AN 19 [fD T U X 8 rel v k p gs,J n] (J (oneF (.mk 8 p rel v k gs) n)):=by
 refine dE.con rfl (by simp) ?_;(repeat first|with_reducible refine kp [1,2,13] ?_|simp only[kV,simprocAttr,aa,aw]|refine aN ?_);by_cases hz:(gs.length:Int)=1
 rotate_left
 ·have hN:¬ gs.length=1:=by omega
  (try simp only[kV,simprocAttr,aa,hz]);refine ulk ?_;(repeat first|with_reducible refine kp [1,2,5] ?_|simp only[kV,simprocAttr,aa,hz]|refine aN ?_);refine⟨_,cx (gH _ _ _ _ _ _ _ _),ulc ?_⟩;(repeat first|with_reducible refine kp [1,2,54] ?_|simp only[kV,simprocAttr,aa,hz]|refine aN ?_);refine ulk ?_;(repeat first|with_reducible refine kp [4] ?_|simp only[kV,simprocAttr,aa,ac,af,ae,ah,hz]|refine aN ?_);exact congrArg (D.int .i64) (show (8:Int)=_ by simp[oneF,Qt,Fm.kd,Fm.gs,Fm.p,Fm.rel,Fm.v,Fm.k,hN])
 have hN:gs.length=1:=by omega
 (try simp only[kV,simprocAttr,aa,hz]);refine ulk ?_;(repeat first|with_reducible refine kp [1,2,5] ?_|simp only[kV,simprocAttr,aa,hz]|refine aN ?_);refine⟨_,cx (gH _ _ _ _ _ _ _ _),ulc ?_⟩;(repeat first|with_reducible refine kp [1,2,54] ?_|simp only[kV,simprocAttr,aa,hz]|refine aN ?_);refine ulk ?_;(repeat first|with_reducible refine kp [1,2] ?_|simp only[kV,simprocAttr,aa,hz]|refine aN ?_);by_cases hp:0<(p.length:Int)
 ·have hP:0<p.length:=by omega
  refine⟨_,cx (gI _ _ _ _ _ _ _ _),ulc ?_⟩;(repeat first|simp only[kV,simprocAttr,aa,hp]|refine aN ?_);refine ulc ?_;(repeat first|with_reducible refine kp [1,2,88] ?_|simp only[kV,simprocAttr,aa,hp]|refine aN ?_);refine ulk ?_;(repeat first|with_reducible refine kp [4] ?_|simp only[kV,simprocAttr,aa,ac,af,ae,ah,hp]|refine aN ?_);exact congrArg (D.int .i64) (show (3:Int)=_ by simp[oneF,Qt,Fm.kd,Fm.gs,Fm.p,Fm.rel,Fm.v,Fm.k,hN,hP])
 have hP:¬ 0<p.length:=by omega
 by_cases hr:rel=0
 rotate_left
 ·-- skip
  refine⟨_,cx (gI _ _ _ _ _ _ _ _),ulc ?_⟩;(repeat first|simp only[kV,simprocAttr,aa,hp,hr]|refine aN ?_);refine ulc ?_;(repeat first|with_reducible refine kp [1,2,88] ?_|simp only[kV,simprocAttr,aa,hr]|refine aN ?_);refine ulk ?_;(repeat first|with_reducible refine kp [4] ?_|simp only[kV,simprocAttr,aa,ac,af,ae,ah,hr]|refine aN ?_);exact congrArg (D.int .i64) (show (3:Int)=_ by simp[oneF,Qt,Fm.kd,Fm.gs,Fm.p,Fm.rel,Fm.v,Fm.k,hN,hP,hr])
 by_cases hk:k=0
 rotate_left
 ·-- skip
  refine⟨_,cx (gI _ _ _ _ _ _ _ _),ulc ?_⟩;(repeat first|simp only[kV,simprocAttr,aa,hp,hr,hk]|refine aN ?_);refine ulc ?_;(repeat first|with_reducible refine kp [1,2,88] ?_|simp only[kV,simprocAttr,aa,hk]|refine aN ?_);refine ulk ?_;(repeat first|with_reducible refine kp [4] ?_|simp only[kV,simprocAttr,aa,ac,af,ae,ah,hk]|refine aN ?_);exact congrArg (D.int .i64) (show (3:Int)=_ by simp[oneF,Qt,Fm.kd,Fm.gs,Fm.p,Fm.rel,Fm.v,Fm.k,hN,hP,hr,hk])
 refine⟨_,cx (gI _ _ _ _ _ _ _ _),ulc ?_⟩;(repeat first|simp only[kV,simprocAttr,aa,hp,hr,hk]|refine aN ?_);refine⟨_,cx (gH _ _ _ _ _ _ _ _),ulc ?_⟩;(repeat first|with_reducible refine kp [1,2,88] ?_|simp only[kV,simprocAttr,aa,hp,hr,hk]|refine aN ?_);refine ulk ?_;(repeat first|with_reducible refine kp [1,2] ?_|simp only[kV,simprocAttr,aa]|refine aN ?_);refine⟨_,cx (gI _ _ _ _ _ _ _ _),ulc ?_⟩;(repeat first|with_reducible refine kp [1,2,100] ?_|simp only[kV,simprocAttr,aa]|refine aN ?_);refine ulk ?_;(repeat first|with_reducible refine kp [1,2] ?_|simp only[kV,simprocAttr,aa]|refine aN ?_);by_cases v0:v<0
 ·-- skip
  refine⟨_,cx (gH _ _ _ _ _ _ _ _),ulc ?_⟩;(repeat first|with_reducible refine kp [1,2,118] ?_|simp only[kV,simprocAttr,aa,v0]|refine aN ?_);refine ulk ?_;(repeat first|with_reducible refine kp [4] ?_|simp only[kV,simprocAttr,aa,ac,af,ae,ah]|refine aN ?_);exact congrArg (D.int .i64) (show (10:Int)=_ by simp[oneF,Qt,Fm.kd,Fm.gs,Fm.p,Fm.rel,Fm.v,Fm.k,hN,hP,hr,hk,v0])
 by_cases vn:n≤v
 ·-- skip
  refine⟨_,cx (gH _ _ _ _ _ _ _ _),ulc ?_⟩;(repeat first|with_reducible refine kp [1,2,118] ?_|simp only[kV,simprocAttr,aa,v0,vn]|refine aN ?_);refine ulk ?_;(repeat first|with_reducible refine kp [4] ?_|simp only[kV,simprocAttr,aa,ac,af,ae,ah]|refine aN ?_);exact congrArg (D.int .i64) (show (10:Int)=_ by simp[oneF,Qt,Fm.kd,Fm.gs,Fm.p,Fm.rel,Fm.v,Fm.k,hN,hP,hr,hk,v0,vn])
 refine⟨_,cx (gH _ _ _ _ _ _ _ _),ulc ?_⟩;(repeat first|with_reducible refine kp [1,2,118] ?_|simp only[kV,simprocAttr,aa,v0,vn]|refine aN ?_);(try simp only[kV,simprocAttr,aa,hk]);refine ulk ?_;(repeat first|with_reducible refine kp [1,2,121] ?_|simp only[kV,simprocAttr,aa,hk]|refine aN ?_);refine ulk ?_;(repeat first|with_reducible refine kp [1,2] ?_|simp only[kV,simprocAttr,aa,hk]|refine aN ?_);refine⟨_,cx (gI _ _ _ _ _ _ _ _),?_⟩;(repeat first|with_reducible refine kp [1,2,123] ?_|simp only[kV,simprocAttr,aa]|refine aN ?_);refine ulk ?_;(repeat first|with_reducible refine kp [4] ?_|simp only[kV,simprocAttr,aa,ac,af,ae,ah]|refine aN ?_);exact congrArg (D.int .i64) (show (0:Int)=_ by simp[oneF,Qt,Fm.kd,Fm.gs,Fm.p,Fm.rel,Fm.v,Fm.k,hN,hP,hr,hk,v0,vn])
theorem Nh (T U X:Nat) (rel v k:Int) (p:List At) (gs:List Fm) (n:Int) (hl:p.length≤9223372036854775807) (hs:∀t∈p,t.1.length≤9223372036854775807):Con Try.prog AN 19 [fD T U X 9 rel v k p gs,J n] (J (oneF (.mk 9 p rel v k gs) n)):=by
 refine dE.con rfl (by simp) ?_;(repeat first|with_reducible refine kp [1,2,13] ?_|simp only[kV,simprocAttr,aa,aw]|refine aN ?_);by_cases hz:(gs.length:Int)=1
 rotate_left
 ·have hN:¬ gs.length=1:=by omega
  (try simp only[kV,simprocAttr,aa,hz]);refine ulk ?_;(repeat first|with_reducible refine kp [1,2,5] ?_|simp only[kV,simprocAttr,aa,hz]|refine aN ?_);refine⟨_,cx (gJ _ _ _ _ _ _ _ _),ulc ?_⟩;(repeat first|with_reducible refine kp [1,2,54] ?_|simp only[kV,simprocAttr,aa,hz]|refine aN ?_);refine ulk ?_;(repeat first|with_reducible refine kp [4] ?_|simp only[kV,simprocAttr,aa,ac,af,ae,ah,hz]|refine aN ?_);exact congrArg (D.int .i64) (show (8:Int)=_ by simp[oneF,Qt,Fm.kd,Fm.gs,Fm.p,Fm.rel,Fm.v,Fm.k,hN])
 have hN:gs.length=1:=by omega
 (try simp only[kV,simprocAttr,aa,hz]);refine ulk ?_;(repeat first|with_reducible refine kp [1,2,5] ?_|simp only[kV,simprocAttr,aa,hz]|refine aN ?_);refine⟨_,cx (gJ _ _ _ _ _ _ _ _),ulc ?_⟩;(repeat first|with_reducible refine kp [1,2,54] ?_|simp only[kV,simprocAttr,aa,hz]|refine aN ?_);refine ulk ?_;(repeat first|with_reducible refine kp [1,2] ?_|simp only[kV,simprocAttr,aa,hz]|refine aN ?_);by_cases hp:0<(p.length:Int)
 ·have hP:0<p.length:=by omega
  refine⟨_,cx (gK _ _ _ _ _ _ _ _),ulc ?_⟩;(repeat first|simp only[kV,simprocAttr,aa,hp]|refine aN ?_);refine ulc ?_;(repeat first|with_reducible refine kp [1,2,88] ?_|simp only[kV,simprocAttr,aa,hp]|refine aN ?_);refine ulk ?_;(repeat first|with_reducible refine kp [4] ?_|simp only[kV,simprocAttr,aa,ac,af,ae,ah,hp]|refine aN ?_);exact congrArg (D.int .i64) (show (3:Int)=_ by simp[oneF,Qt,Fm.kd,Fm.gs,Fm.p,Fm.rel,Fm.v,Fm.k,hN,hP])
 have hP:¬ 0<p.length:=by omega
 by_cases hr:rel=0
 rotate_left
 ·-- skip
  refine⟨_,cx (gK _ _ _ _ _ _ _ _),ulc ?_⟩;(repeat first|simp only[kV,simprocAttr,aa,hp,hr]|refine aN ?_);refine ulc ?_;(repeat first|with_reducible refine kp [1,2,88] ?_|simp only[kV,simprocAttr,aa,hr]|refine aN ?_);refine ulk ?_;(repeat first|with_reducible refine kp [4] ?_|simp only[kV,simprocAttr,aa,ac,af,ae,ah,hr]|refine aN ?_);exact congrArg (D.int .i64) (show (3:Int)=_ by simp[oneF,Qt,Fm.kd,Fm.gs,Fm.p,Fm.rel,Fm.v,Fm.k,hN,hP,hr])
 by_cases hk:k=0
 rotate_left
 ·-- skip
  refine⟨_,cx (gK _ _ _ _ _ _ _ _),ulc ?_⟩;(repeat first|simp only[kV,simprocAttr,aa,hp,hr,hk]|refine aN ?_);refine ulc ?_;(repeat first|with_reducible refine kp [1,2,88] ?_|simp only[kV,simprocAttr,aa,hk]|refine aN ?_);refine ulk ?_;(repeat first|with_reducible refine kp [4] ?_|simp only[kV,simprocAttr,aa,ac,af,ae,ah,hk]|refine aN ?_);exact congrArg (D.int .i64) (show (3:Int)=_ by simp[oneF,Qt,Fm.kd,Fm.gs,Fm.p,Fm.rel,Fm.v,Fm.k,hN,hP,hr,hk])
 refine⟨_,cx (gK _ _ _ _ _ _ _ _),ulc ?_⟩;(repeat first|simp only[kV,simprocAttr,aa,hp,hr,hk]|refine aN ?_);refine⟨_,cx (gJ _ _ _ _ _ _ _ _),ulc ?_⟩;(repeat first|with_reducible refine kp [1,2,88] ?_|simp only[kV,simprocAttr,aa,hp,hr,hk]|refine aN ?_);refine ulk ?_;(repeat first|with_reducible refine kp [1,2] ?_|simp only[kV,simprocAttr,aa]|refine aN ?_);refine⟨_,cx (gK _ _ _ _ _ _ _ _),ulc ?_⟩;(repeat first|with_reducible refine kp [1,2,100] ?_|simp only[kV,simprocAttr,aa]|refine aN ?_);refine ulk ?_;(repeat first|with_reducible refine kp [1,2] ?_|simp only[kV,simprocAttr,aa]|refine aN ?_);by_cases v0:v<0
 ·-- skip
  refine⟨_,cx (gJ _ _ _ _ _ _ _ _),ulc ?_⟩;(repeat first|with_reducible refine kp [1,2,118] ?_|simp only[kV,simprocAttr,aa,v0]|refine aN ?_);refine ulk ?_;(repeat first|with_reducible refine kp [4] ?_|simp only[kV,simprocAttr,aa,ac,af,ae,ah]|refine aN ?_);exact congrArg (D.int .i64) (show (10:Int)=_ by simp[oneF,Qt,Fm.kd,Fm.gs,Fm.p,Fm.rel,Fm.v,Fm.k,hN,hP,hr,hk,v0])
 by_cases vn:n≤v
 ·-- skip
  refine⟨_,cx (gJ _ _ _ _ _ _ _ _),ulc ?_⟩;(repeat first|with_reducible refine kp [1,2,118] ?_|simp only[kV,simprocAttr,aa,v0,vn]|refine aN ?_);refine ulk ?_;(repeat first|with_reducible refine kp [4] ?_|simp only[kV,simprocAttr,aa,ac,af,ae,ah]|refine aN ?_);exact congrArg (D.int .i64) (show (10:Int)=_ by simp[oneF,Qt,Fm.kd,Fm.gs,Fm.p,Fm.rel,Fm.v,Fm.k,hN,hP,hr,hk,v0,vn])
 refine⟨_,cx (gJ _ _ _ _ _ _ _ _),ulc ?_⟩;(repeat first|with_reducible refine kp [1,2,118] ?_|simp only[kV,simprocAttr,aa,v0,vn]|refine aN ?_);(try simp only[kV,simprocAttr,aa,hk]);refine ulk ?_;(repeat first|with_reducible refine kp [1,2,121] ?_|simp only[kV,simprocAttr,aa,hk]|refine aN ?_);refine ulk ?_;(repeat first|with_reducible refine kp [1,2] ?_|simp only[kV,simprocAttr,aa,hk]|refine aN ?_);refine⟨_,cx (gK _ _ _ _ _ _ _ _),?_⟩;(repeat first|with_reducible refine kp [1,2,123] ?_|simp only[kV,simprocAttr,aa]|refine aN ?_);refine ulk ?_;(repeat first|with_reducible refine kp [4] ?_|simp only[kV,simprocAttr,aa,ac,af,ae,ah]|refine aN ?_);exact congrArg (D.int .i64) (show (0:Int)=_ by simp[oneF,Qt,Fm.kd,Fm.gs,Fm.p,Fm.rel,Fm.v,Fm.k,hN,hP,hr,hk,v0,vn])
theorem Ni (T U X:Nat) (kd rel v k:Int) (p:List At) (gs:List Fm) (n:Int) (hl:p.length≤9223372036854775807) (hs:∀t∈p,t.1.length≤9223372036854775807):Con Try.prog AN 19 [fD T U X kd rel v k p gs,J n] (J (oneF (.mk kd p rel v k gs) n)):=by
 by_cases h1:kd<1
 ·refine dE.con rfl (by simp) ?_;(repeat first|with_reducible refine kp [1,2,13] ?_|simp only[kV,simprocAttr,aa,aw,h1]|refine aN ?_);refine ulk ?_;(repeat first|with_reducible refine kp [4] ?_|simp only[kV,simprocAttr,aa,ac,af,ae,ah,h1]|refine aN ?_);exact congrArg (D.int .i64) (show (11:Int)=_ by simp[oneF,Fm.kd,h1])
 by_cases h9:9<kd
 ·refine dE.con rfl (by simp) ?_;(repeat first|with_reducible refine kp [1,2,13] ?_|simp only[kV,simprocAttr,aa,aw,h1,h9]|refine aN ?_);refine ulk ?_;(repeat first|with_reducible refine kp [4] ?_|simp only[kV,simprocAttr,aa,ac,af,ae,ah,h9]|refine aN ?_);exact congrArg (D.int .i64) (show (11:Int)=_ by simp[oneF,Fm.kd,h9])
 rcases (show kd=1∨kd=2∨kd=3∨kd=4∨kd=5∨kd=6∨kd=7∨kd=8∨kd=9 by omega) with rfl | rfl | rfl | rfl | rfl | rfl | rfl | rfl | rfl
 ·exact M6 T U X rel v k p gs n hl hs
 ·exact M7 T U X rel v k p gs n hl hs
 ·exact M8 T U X rel v k p gs n hl hs
 ·exact M9 T U X rel v k p gs n hl hs
 ·exact Na T U X rel v k p gs n hl hs
 ·exact Nb T U X rel v k p gs n hl hs
 ·exact Nc T U X rel v k p gs n hl hs
 ·exact Ng T U X rel v k p gs n hl hs
 ·exact Nh T U X rel v k p gs n hl hs
end Go.Proofs.Ytdchbabgopglcaa.M
