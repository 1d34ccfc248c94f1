/- Lemmas. -/
import Derived.Test.YtbnhgnhgbhjkcaaGreatQ51
import Derived.Test.YtbnhgnhgbhjkcaaGreatQ25
import Derived.Test.YtbnhgnhgbhjkcaaGreatQ49
import Derived.Test.YtbnhgnhgbhjkcaaGreatQ21
import Derived.Test.YtbnhgnhgbhjkcaaGreatRows
import Derived.SliceStrings
import Derived.Test.YtbnhgnhgbhjkcaaGreatQ50
set_option linter.defProp false
set_option linter.unusedSectionVars false
set_option linter.unusedSimpArgs false
set_option linter.unusedVariables false
namespace Go.Proofs.YtbnhgnhgbhjkcaaGreat.M
set_option linter.unusedSimpArgs false
set_option maxRecDepth 20000
set_option maxHeartbeats 2000000
open Go.RowKit
abbrev Sq:=List UInt8×List At
def sqD (T U:Nat) (s:Sq):D:=.agg [.str s.1,LTa T U s.2]
abbrev LSq (V T U:Nat) (l:List Sq):D:=.list V 2 (l.map (sqD T U))
noncomputable def sF (n:Int) (s:Sq):Int:=if cR s.1=0 then (if qR s.1<0 then 7 else (fM s.2 n 0).1) else cR s.1
noncomputable def sLs (n:Int):Nat→List Sq→Int×Int
 |_,[]=>(0,0)
 |i,s::l=>if sF n s=0 then sLs n (i+1) l else (sF n s,(i:Int))
noncomputable def sM (l:List Sq) (n:Int):Int×Int:=if n<1∨4<n then (7,0) else if 200<l.length then (9,0) else sLs n 0 l
def sq0 (l:List Sq) (i:Nat):Sq:=l.getD i ([],[])
theorem dI {l:List Sq}{i:Nat} (h:i<l.length):sq0 l i∈l:=by unfold sq0;rw[z91,z9P h];exact z9a h
theorem uE {l:List Sq}{i:Nat} (h:i<l.length):l.drop i=sq0 l i::l.drop (i+1):=by rw[z9k h];simp[sq0,h]
theorem zaA {l:List Sq}{i:Nat} (h:i<l.length):l.take (i+1)=l.take i++[sq0 l i]:=by rw[z9c h];simp[sq0,h]
theorem jB {T U:Nat}{l:List Sq}{i:Nat} (h:i<l.length):(l.map (sqD T U)).getD i default = .agg [.str (sq0 l i).1,.list T 2 ((sq0 l i).2.map (atD U))]:=by simp[sq0,sqD,h]
structure Gs (l:List Sq) (n:Int):Prop where
 n1:1≤n
 n4:n≤4
 len:l.length≤200
 ft:∀s∈l,cR s.1=0∧0≤qR s.1∧Gd s.2 n 0
theorem zaB {n:Int}{s:Sq} (h:sF n s=0):cR s.1=0∧0≤qR s.1∧Gd s.2 n 0:=by
 unfold sF at h;split at h
 ·rename_i h1;split at h
  ·cases h
  ·rename_i h2;exact⟨h1,Rat.not_lt.1 h2,zbT h⟩
 ·rename_i h1;exact absurd h h1
theorem oR {n:Int}:∀{l:List Sq}{i:Nat},(sLs n i l).1=0→∀s∈l,sF n s=0
 |[],_,_=>fun _ h=>by cases h
 |t::l,i,h=>by
  rw[sLs] at h;split at h
  ·rename_i h0;exact fun x hx=>by
    rcases z9L.1 hx with rfl | hx
    ·exact h0
    ·exact oR h x hx
  ·rename_i h0;exact absurd h h0
theorem uF {n:Int}:∀{l:List Sq}{i:Nat},(∀s∈l,sF n s=0)→sLs n i l=(0,0)
 |[],_,_=>rfl
 |t::l,i,h=>by rw[sLs,if_pos (h t z9X)];exact uF fun x hx=>h x (z9T _ hx)
theorem uG {l:List Sq}{n:Int} (h:(sM l n).1=0):Gs l n∧sM l n=(0,0):=by
 have h0:=h;unfold sM at h;split at h
 ·cases h
 split at h
 ·cases h
 rename_i h1 h2;refine⟨⟨by omega,by omega,by omega,fun s hs=>zaB (oR h s hs)⟩,?_⟩;unfold sM;rw[if_neg h1,if_neg h2];exact uF (oR h)
theorem jC {x:Rat}:(d5 x<0)↔x<0:=by
 have h:=@Rat.num_nonneg x;unfold d5 bM;rw[←Rat.not_le,←h];split
 ·omega
 ·split<;>omega
theorem uH {n:Int} (h:¬ (n<1∨4<n)):fM [] n 0=(0,0):=by
 unfold fM;rw[if_neg h,if_neg (by decide),if_neg (by decide)];rfl
theorem uI {n:Int} (h:n<1∨4<n):fM [] n 0=(7,0):=if_pos h
theorem lP {A:List TypeId} (c a:Int):Con Tryz.prog A 71 [J c,J a] (flt c a):=by
 refine Con.mono (A:=[]) ?_ (by simp);refine yX.con rfl (by simp) ?_;(repeat first|with_reducible refine kp [0,1,4] ?_|simp only[kV,simprocAttr,aa,ax,af,ai,aq,ah]|refine aN ?_)
theorem uJ (V T U:Nat) (l:List Sq) (n:Int) (hl:l.length≤9223372036854775807) (hs:∀s∈l,s.1.length≤9223372036854775807∧Ar s.2) :
  Con Tryz.prog AN 41 [LSq V T U l,J n] (flt (sM l n).1 (sM l n).2):=by
 by_cases n1:n<1∨4<n
 ·have e:sM l n=(7,0):=if_pos n1;rw[e];have k1:=l8 83 0 [] n 0 (by simp) (by simp);rw[uI n1] at k1;refine ko.con rfl (by simp) ?_;(repeat first|with_reducible refine kp [0,1,4] ?_|simp only[kV,simprocAttr,aa,aZ,a6,ax]|refine aN ?_);refine⟨_,cx (k1),ulc ?_⟩;(repeat first|with_reducible refine kp [0,1,4,5,15] ?_|simp only[kV,simprocAttr,aa,aZ,a6]|refine aN ?_);refine ulk ?_;(repeat first|with_reducible refine kp [4] ?_|simp only[kV,simprocAttr,aa,aZ,a6,af,ai,aq,ah]|refine aN ?_)
 have k1:=l8 83 0 [] n 0 (by simp) (by simp);rw[uH n1] at k1;by_cases h4:200<l.length
 ·have e:sM l n=(9,0):=by unfold sM;rw[if_neg n1,if_pos h4]
  have h4I:(200:Int)<(l.length:Int):=by omega
  rw[e];refine ko.con rfl (by simp) ?_;(repeat first|with_reducible refine kp [0,1,4] ?_|simp only[kV,simprocAttr,aa,aZ,a6,ax]|refine aN ?_);refine⟨_,cx (k1),ulc ?_⟩;(repeat first|with_reducible refine kp [0,1,4,5,15] ?_|simp only[kV,simprocAttr,aa,aZ,a6]|refine aN ?_);refine ulk ?_;(repeat first|with_reducible refine kp [0,1,4,19] ?_|simp only[kV,simprocAttr,aa,aZ,a6]|refine aN ?_);(try simp only[kV,simprocAttr,aa,aZ,a6,h4I]);refine ulk ?_;(repeat first|simp only[kV,simprocAttr,aa,aZ,a6,h4I]|refine aN ?_);refine⟨_,cx (lP 9 0),ulc ?_⟩;(repeat first|with_reducible refine kp [4] ?_|simp only[kV,simprocAttr,aa,aZ,a6,af,ai,aq,ah]|refine aN ?_)
 have e:sM l n=sLs n 0 l:=by unfold sM;rw[if_neg n1,if_neg h4]
 have h4I:¬ (200:Int)<(l.length:Int):=by omega
 rw[e];refine ko.con rfl (by simp) ?_;(repeat first|with_reducible refine kp [0,1,4] ?_|simp only[kV,simprocAttr,aa,aZ,a6,ax]|refine aN ?_);refine⟨_,cx (k1),ulc ?_⟩;(repeat first|with_reducible refine kp [0,1,4,5,15] ?_|simp only[kV,simprocAttr,aa,aZ,a6]|refine aN ?_);refine ulk ?_;(repeat first|with_reducible refine kp [0,1,4,19] ?_|simp only[kV,simprocAttr,aa,aZ,a6]|refine aN ?_);(try simp only[kV,simprocAttr,aa,aZ,a6,h4I]);refine ulk ?_;(repeat first|simp only[kV,simprocAttr,aa,aZ,a6,h4I]|refine aN ?_);refine kp [0,1,4] ?_;(repeat first|simp only[kV,simprocAttr,aa,aZ,a6,h4I]|refine aN ?_);refine kp [1,4,21,22,23] ?_;(repeat first|simp only[kV,simprocAttr,aa,aZ,a6,h4I]|refine aN ?_);refine aB (ι:=Nat) (fun i=>i≤l.length∧sLs n i (l.drop i)=sLs n 0 l) (fun i=>⟨ar [(1,.p (J n)),(4,.ptr 4 0 0),(21,.p (LSq V T U l)),(22,.p (J l.length)),(23,.p (J i))],
  au [(4,⟨25,2,.box (.p (flt 0 0)),false⟩)]⟩) (fun i=>l.length-i) 0 ⟨z9O _,rfl⟩ (Sub.toG [1,4,21,22,23] [5,7,8,9,10]) ?_
 rintro i ⟨hi,he⟩;by_cases h:i<l.length
 ·have hI:(i:Int)<(l.length:Int):=by omega
  have g1:=jB (T:=T) (U:=U) h;obtain⟨hst,hA⟩:=hs _ (dI h);rw[uE h,sLs] at he;generalize sq0 l i=t at *;obtain⟨c,p⟩:=t;(repeat first|with_reducible refine kp [1,4,21,22,23,24] ?_|simp only[kV,simprocAttr,aa,aZ,a6,hI]|refine aN ?_);(try simp only[kV,simprocAttr,aa,aZ,a6,hI,g1,h]);refine ulk ?_;(repeat first|with_reducible refine kp [1,4,6,7,21,22,23] ?_|simp only[kV,simprocAttr,aa,aZ,a6,hI,g1,h]|refine aN ?_);refine⟨_,cx (lY c hst),ulc ?_⟩;(repeat first|with_reducible refine kp [1,4,6,7,8,9,21,22,23,36] ?_|simp only[kV,simprocAttr,aa,aZ,a6]|refine aN ?_);by_cases hc:cR c=0
  ·refine⟨fun h1=>absurd h1 (by rw[hc];simp),fun _ => ?_⟩;(try simp only[kV,simprocAttr,aa,aZ,a6]);refine ulk ?_;(repeat first|with_reducible refine kp [1,4,6,7,8,21,22,23] ?_|simp only[kV,simprocAttr,aa,aZ,a6]|refine aN ?_);refine⟨_,cx (vk (qR c) 4000 (iP c) (by decide)),ulc ?_⟩;(repeat first|with_reducible refine kp [1,4,6,7,21,22,23,43] ?_|simp only[kV,simprocAttr,aa,aZ,a6]|refine aN ?_);by_cases hq:qR c<0
   ·have hf:sF n (c,p)=7:=by unfold sF;rw[if_pos hc,if_pos hq]
    rw[hf,if_neg (by decide)] at he;refine⟨fun _ => ?_,fun h1=>absurd h1 (by simp[jC,hq])⟩;(try simp only[kV,simprocAttr,aa,aZ,a6]);refine ulk ?_;(repeat first|simp only[kV,simprocAttr,aa,aZ,a6]|refine aN ?_);refine⟨_,cx (lP 7 i),ulc ?_⟩;(repeat first|with_reducible refine kp [4] ?_|simp only[kV,simprocAttr,aa,aZ,a6,af,ai,aq,ah]|refine aN ?_);rw[←he]
   ·have hf:sF n (c,p)=(fM p n 0).1:=by unfold sF;rw[if_pos hc,if_neg hq]
    rw[hf] at he;refine⟨fun h1=>absurd h1 (by simp[jC,hq]),fun _ => ?_⟩;(try simp only[kV,simprocAttr,aa,aZ,a6]);refine ulk ?_;(repeat first|with_reducible refine kp [1,4,6,7,21,22,23] ?_|simp only[kV,simprocAttr,aa,aZ,a6]|refine aN ?_);refine⟨_,cx (l8 T U p n 0 hA.l9 hA.s9),ulc ?_⟩;(repeat first|with_reducible refine kp [1,4,6,10,21,22,23,52] ?_|simp only[kV,simprocAttr,aa,aZ,a6]|refine aN ?_);by_cases hm:(fM p n 0).1=0
    ·rw[if_pos hm] at he;refine⟨fun h1=>absurd h1 (by rw[hm];simp),fun _ => ?_⟩;(try simp only[kV,simprocAttr,aa,aZ,a6]);refine ulk ?_;(repeat first|with_reducible refine kp [1,4,21,22,23] ?_|simp only[kV,simprocAttr,aa,aZ,a6]|refine aN ?_);exact⟨i+1,⟨h,he⟩,(Sub.toG [1,4,21,22,23] [5,7,8,9,10]),by omega⟩
    ·rw[if_neg hm] at he;refine⟨fun _ => ?_,fun h1=>absurd h1 (by rw[z8R hm];simp)⟩;(try simp only[kV,simprocAttr,aa,aZ,a6]);refine ulk ?_;(repeat first|simp only[kV,simprocAttr,aa,aZ,a6]|refine aN ?_);refine⟨_,cx (lP (fM p n 0).1 i),ulc ?_⟩;(repeat first|with_reducible refine kp [4] ?_|simp only[kV,simprocAttr,aa,aZ,a6,af,ai,aq,ah]|refine aN ?_);rw[←he]
  ·have hf:sF n (c,p)=cR c:=by unfold sF;rw[if_neg hc]
   rw[hf,if_neg hc] at he;refine⟨fun _ => ?_,fun h1=>absurd h1 (by rw[z8R hc];simp)⟩;(try simp only[kV,simprocAttr,aa,aZ,a6]);refine ulk ?_;(repeat first|simp only[kV,simprocAttr,aa,aZ,a6]|refine aN ?_);refine⟨_,cx (lP (cR c) i),ulc ?_⟩;(repeat first|with_reducible refine kp [4] ?_|simp only[kV,simprocAttr,aa,aZ,a6,af,ai,aq,ah]|refine aN ?_);rw[←he]
 ·have hI:¬ (i:Int)<(l.length:Int):=by omega
  rw[z9l (by omega)] at he;(repeat first|with_reducible refine kp [1,4,21,22,23,24] ?_|simp only[kV,simprocAttr,aa,aZ,a6,hI]|refine aN ?_);refine ulk ?_;(repeat first|with_reducible refine kp [4] ?_|simp only[kV,simprocAttr,aa,aZ,a6,af,ai,aq,ah,hI]|refine aN ?_);rw[←he];rfl
set_option linter.unusedSimpArgs false
set_option maxRecDepth 20000
set_option maxHeartbeats 2000000
open Go.RowKit
theorem xf (V T U:Nat) (l:List Sq) (n:Int) (hl:l.length≤9223372036854775807) (hs:∀s∈l,s.1.length≤9223372036854775807∧Ar s.2) :
  Con Tryz.prog AN 43 [LSq V T U l,J n] (flt (sM l n).1 (sM l n).2):=by
 by_cases n1:n<1∨4<n
 ·have e:sM l n=(7,0):=if_pos n1;rw[e];have k1:=pG 83 0 [] n 0 (by simp) (by simp);rw[uI n1] at k1;refine mK.con rfl (by simp) ?_;(repeat first|with_reducible refine kp [0,1,4] ?_|simp only[kV,simprocAttr,aa,ab,ac,ae,ax]|refine aN ?_);refine⟨_,cx (k1),ulc ?_⟩;(repeat first|with_reducible refine kp [0,1,4,5,19] ?_|simp only[kV,simprocAttr,aa,ab,ac,ae]|refine aN ?_);refine ulk ?_;(repeat first|simp only[kV,simprocAttr,aa,ab,ac,ae]|refine aN ?_);refine kp [0,1,4,5] ?_;(repeat first|simp only[kV,simprocAttr,aa,ab,ac,ae]|refine aN ?_);refine kp [0,1,4,5,6] ?_;(repeat first|simp only[kV,simprocAttr,aa,ab,ac,ae]|refine aN ?_);refine aB (ι:=Nat) (fun i=>i=0) (fun i=>⟨ar [(0,.p (LSq V T U l)),(1,.p (J n)),(4,.ptr 4 0 0),(5,.ptr 5 0 0),(6,.p (J 0))],
   au [(4,⟨25,2,.box (.p (flt 0 0)),false⟩),(5,⟨25,2,.box (.p (flt 7 0)),false⟩)]⟩) (fun i=>0) 0 rfl (Sub.toG [0,1,4,5,6] [7,8,9]) ?_
  rintro i rfl;by_cases h:0<l.length
  ·have hI:(0:Int)<(l.length:Int):=by omega
   (repeat first|with_reducible refine kp [0,1,4,5,6,29] ?_|simp only[kV,simprocAttr,aa,ab,ac,ae,hI]|refine aN ?_);refine ulk ?_;(repeat first|with_reducible refine kp [4,5] ?_|simp only[kV,simprocAttr,aa,ab,ac,ae,af,ai,aq,ah,hI]|refine aN ?_)
  ·have hI:¬ (0:Int)<(l.length:Int):=by omega
   (repeat first|with_reducible refine kp [0,1,4,5,6,29] ?_|simp only[kV,simprocAttr,aa,ab,ac,ae,hI]|refine aN ?_);refine ulk ?_;(repeat first|with_reducible refine kp [4,5] ?_|simp only[kV,simprocAttr,aa,ab,ac,ae,af,ai,aq,ah,hI]|refine aN ?_)
 have k1:=pG 83 0 [] n 0 (by simp) (by simp);rw[uH n1] at k1;by_cases h4:200<l.length
 ·have e:sM l n=(9,0):=by unfold sM;rw[if_neg n1,if_pos h4]
  have h4I:(200:Int)<(l.length:Int):=by omega
  rw[e];refine mK.con rfl (by simp) ?_;(repeat first|with_reducible refine kp [0,1,4] ?_|simp only[kV,simprocAttr,aa,ab,ac,ae,ax]|refine aN ?_);refine⟨_,cx (k1),ulc ?_⟩;(repeat first|with_reducible refine kp [0,1,4,5,19] ?_|simp only[kV,simprocAttr,aa,ab,ac,ae]|refine aN ?_);(try simp only[kV,simprocAttr,aa,ab,ac,ae,h4I]);refine ulk ?_;(repeat first|simp only[kV,simprocAttr,aa,ab,ac,ae,h4I]|refine aN ?_);refine⟨_,cx (jK 9 0),ulc ?_⟩;(repeat first|simp only[kV,simprocAttr,aa,ab,ac,ae]|refine aN ?_);refine kp [0,1,4,5] ?_;(repeat first|simp only[kV,simprocAttr,aa,ab,ac,ae]|refine aN ?_);refine kp [0,1,4,5,6] ?_;(repeat first|simp only[kV,simprocAttr,aa,ab,ac,ae]|refine aN ?_);refine aB (ι:=Nat) (fun i=>i=0) (fun i=>⟨ar [(0,.p (LSq V T U l)),(1,.p (J n)),(4,.ptr 4 0 0),(5,.ptr 5 0 0),(6,.p (J 0))],
   au [(4,⟨25,2,.box (.p (flt 0 0)),false⟩),(5,⟨25,2,.box (.p (flt 9 0)),false⟩)]⟩) (fun i=>0) 0 rfl (Sub.toG [0,1,4,5,6] [7,8,9]) ?_
  rintro i rfl;have hI:(0:Int)<(l.length:Int):=by omega
  (repeat first|with_reducible refine kp [0,1,4,5,6,29] ?_|simp only[kV,simprocAttr,aa,ab,ac,ae,hI]|refine aN ?_);refine ulk ?_;(repeat first|with_reducible refine kp [4,5] ?_|simp only[kV,simprocAttr,aa,ab,ac,ae,af,ai,aq,ah,hI]|refine aN ?_)
 have e:sM l n=sLs n 0 l:=by unfold sM;rw[if_neg n1,if_neg h4]
 have h4I:¬ (200:Int)<(l.length:Int):=by omega
 rw[e];refine mK.con rfl (by simp) ?_;(repeat first|with_reducible refine kp [0,1,4] ?_|simp only[kV,simprocAttr,aa,ab,ac,ae,ax]|refine aN ?_);refine⟨_,cx (k1),ulc ?_⟩;(repeat first|with_reducible refine kp [0,1,4,5,19] ?_|simp only[kV,simprocAttr,aa,ab,ac,ae]|refine aN ?_);(try simp only[kV,simprocAttr,aa,ab,ac,ae,h4I]);refine ulk ?_;(repeat first|simp only[kV,simprocAttr,aa,ab,ac,ae,h4I]|refine aN ?_);refine kp [0,1,4,5] ?_;(repeat first|simp only[kV,simprocAttr,aa,ab,ac,ae,h4I]|refine aN ?_);refine kp [0,1,4,5,6] ?_;(repeat first|simp only[kV,simprocAttr,aa,ab,ac,ae,h4I]|refine aN ?_);refine aB (ι:=Nat) (fun i=>i≤l.length∧sLs n i (l.drop i)=sLs n 0 l) (fun i=>⟨ar [(0,.p (LSq V T U l)),(1,.p (J n)),(4,.ptr 4 0 0),(5,.ptr 5 0 0),(6,.p (J i))],
  au [(4,⟨25,2,.box (.p (flt 0 0)),false⟩),(5,⟨25,2,.box (.p (flt 0 0)),false⟩)]⟩) (fun i=>l.length-i) 0 ⟨z9O _,rfl⟩ (Sub.toG [0,1,4,5,6] [7,8,9]) ?_
 rintro i ⟨hi,he⟩;by_cases h:i<l.length
 ·have hI:(i:Int)<(l.length:Int):=by omega
  have g1:=jB (T:=T) (U:=U) h;obtain⟨hst,hA⟩:=hs _ (dI h);rw[uE h,sLs] at he;generalize sq0 l i=t at *;obtain⟨c,p⟩:=t;(repeat first|with_reducible refine kp [0,1,4,5,6,29] ?_|simp only[kV,simprocAttr,aa,ab,ac,ae,hI]|refine aN ?_);(try simp only[kV,simprocAttr,aa,ab,ac,ae,hI,g1,h]);refine ulk ?_;(repeat first|with_reducible refine kp [0,1,4,5,6] ?_|simp only[kV,simprocAttr,aa,ab,ac,ae,hI,g1,h]|refine aN ?_);refine⟨_,cx (jG c hst),ulc ?_⟩;(repeat first|with_reducible refine kp [0,1,4,5,6,7,8,43] ?_|simp only[kV,simprocAttr,aa,ab,ac,ae]|refine aN ?_);by_cases hc:cR c=0
  ·refine⟨fun h1=>absurd h1 (by rw[hc];simp),fun _ => ?_⟩;(try simp only[kV,simprocAttr,aa,ab,ac,ae]);refine ulk ?_;(repeat first|with_reducible refine kp [0,1,4,5,6,7] ?_|simp only[kV,simprocAttr,aa,ab,ac,ae]|refine aN ?_);refine⟨_,cx (iN (qR c) 4000 (iP c) (by decide)),ulc ?_⟩;(repeat first|with_reducible refine kp [0,1,4,5,6,50] ?_|simp only[kV,simprocAttr,aa,ab,ac,ae]|refine aN ?_);by_cases hq:qR c<0
   ·have hf:sF n (c,p)=7:=by unfold sF;rw[if_pos hc,if_pos hq]
    rw[hf,if_neg (by decide)] at he;refine⟨fun _ => ?_,fun h1=>absurd h1 (by simp[jC,hq])⟩;(try simp only[kV,simprocAttr,aa,ab,ac,ae]);refine ulk ?_;(repeat first|simp only[kV,simprocAttr,aa,ab,ac,ae]|refine aN ?_);refine⟨_,cx (jK 7 i),ulc ?_⟩;(repeat first|with_reducible refine kp [4] ?_|simp only[kV,simprocAttr,aa,ab,ac,ae,af,ai,aq,ah]|refine aN ?_);rw[←he]
   ·have hf:sF n (c,p)=(fM p n 0).1:=by unfold sF;rw[if_pos hc,if_neg hq]
    rw[hf] at he;refine⟨fun h1=>absurd h1 (by simp[jC,hq]),fun _ => ?_⟩;(try simp only[kV,simprocAttr,aa,ab,ac,ae,hI,g1,h]);refine ulk ?_;(repeat first|with_reducible refine kp [0,1,4,5,6] ?_|simp only[kV,simprocAttr,aa,ab,ac,ae,hI,g1,h]|refine aN ?_);refine⟨_,cx (pG T U p n 0 hA.l9 hA.s9),ulc ?_⟩;(repeat first|with_reducible refine kp [0,1,4,5,6,9,62] ?_|simp only[kV,simprocAttr,aa,ab,ac,ae]|refine aN ?_);by_cases hm:(fM p n 0).1=0
    ·rw[if_pos hm] at he;refine⟨fun h1=>absurd h1 (by rw[hm];simp),fun _ => ?_⟩;(try simp only[kV,simprocAttr,aa,ab,ac,ae]);refine ulk ?_;(repeat first|with_reducible refine kp [0,1,4,5,6] ?_|simp only[kV,simprocAttr,aa,ab,ac,ae]|refine aN ?_);exact⟨i+1,⟨h,he⟩,(Sub.toG [0,1,4,5,6] [7,8,9]),by omega⟩
    ·rw[if_neg hm] at he;refine⟨fun _ => ?_,fun h1=>absurd h1 (by rw[z8R hm];simp)⟩;(try simp only[kV,simprocAttr,aa,ab,ac,ae]);refine ulk ?_;(repeat first|simp only[kV,simprocAttr,aa,ab,ac,ae]|refine aN ?_);refine⟨_,cx (jK (fM p n 0).1 i),ulc ?_⟩;(repeat first|with_reducible refine kp [4] ?_|simp only[kV,simprocAttr,aa,ab,ac,ae,af,ai,aq,ah]|refine aN ?_);rw[←he]
  ·have hf:sF n (c,p)=cR c:=by unfold sF;rw[if_neg hc]
   rw[hf,if_neg hc] at he;refine⟨fun _ => ?_,fun h1=>absurd h1 (by rw[z8R hc];simp)⟩;(try simp only[kV,simprocAttr,aa,ab,ac,ae]);refine ulk ?_;(repeat first|simp only[kV,simprocAttr,aa,ab,ac,ae]|refine aN ?_);refine⟨_,cx (jK (cR c) i),ulc ?_⟩;(repeat first|with_reducible refine kp [4] ?_|simp only[kV,simprocAttr,aa,ab,ac,ae,af,ai,aq,ah]|refine aN ?_);rw[←he]
 ·have hI:¬ (i:Int)<(l.length:Int):=by omega
  rw[z9l (by omega)] at he;(repeat first|with_reducible refine kp [0,1,4,5,6,29] ?_|simp only[kV,simprocAttr,aa,ab,ac,ae,hI]|refine aN ?_);refine ulk ?_;(repeat first|with_reducible refine kp [4,5] ?_|simp only[kV,simprocAttr,aa,ab,ac,ae,af,ai,aq,ah,hI]|refine aN ?_);rw[←he];rfl
set_option linter.unusedSimpArgs false
open Go.RowKit Go.ChangeShapes
theorem ui {H:Type}:∀(ss:List ByteArray),ss.length≤Rows.uptoBulkAll (strs (H:=H) ss)
 |[]=>z9O _
 |s::ss=>by
  have ih:=ui (H:=H) ss;simp only[strs,z89,Rows.uptoBulkAll,Rows.uptoBulk,List.length_cons] at ih ⊢;omega
theorem Z2 {H:Type}{enc:TypeId×Value→H}{P:Program}{w:World}{N:Nat→Prop}{spare:Nat→Bool}{held:Bool}{v:Value}{t e:TypeId}{T:TypeId}{l:List (List UInt8)}{d:DataW H}{ps:List MemPlace} (hu:P.underlying t=some (.slice e)) (he:P.underlying e=some .string) (hc:P.cellsOf e=1)
  (hv:V w N v (.list T 1 (l.map D.str))) (h:DataW.Trod enc P w 0 spare held t v d ps):l.length≤Rows.uptoBulk d:=by
 obtain⟨fuel,h⟩:=h;generalize hL:l.map D.str=L at hv;have hll:L.length=l.length:=by rw[←hL,z9V]
 cases hv with
 |empty a cap =>
  have:l=[]:=by cases l<;>simp_all
  subst this;exact z9O _
 |list b o cap _ _ _ c fr h1 h2 h3 h4 h5 h6 h7 =>
  rcases open_strings hu he hc h with⟨hc0,-⟩ | ⟨a,len,cap',ss,hcs,-,hl,hm,hz,hx,hcell,-⟩
  ·simp[Value.cells] at hc0
  ·simp[Value.cells] at hcs;obtain⟨rfl,hlen,-⟩:=hcs;cases hx;have hsl:len≤ss.length:=by rw[hz];split<;>omega
   have k5:=ui (H:=H) (ss.take len);rw[z9N] at k5;simp only[Rows.uptoBulk];omega
theorem Z3 {d:D} (y:TyW Tryz.prog 68 d.cells) (z:d.isAgg=bl Tryz.prog 68):∃l:List Sq,d=LSq (131+1000000) (83+1000000) (3+1000000) l∧l.length≤9223372036854775807∧∀s∈l,s.1.length≤140737488355328∧Ar s.2:=by
 obtain⟨l,rfl,h1,h2,h3⟩:=mr Tryz.underlying68 y z;have e40:Tryz.prog.bytesOf 131=40:=by kernel_rfl
 have ec:Tryz.prog.cellsOf 131=2:=by kernel_rfl
 have ec1:Tryz.prog.cellsOf 22=1:=by kernel_rfl
 have ec2:Tryz.prog.cellsOf 9=1:=by kernel_rfl
 have er:reachBytes≤140737488355328:=by decide
 rw[e40] at h1;have key:∃m:List Sq,l=m.map (sqD (83+1000000) (3+1000000))∧∀s∈m,s.1.length≤140737488355328∧Ar s.2:=by
  clear h1 y z;induction l with
  |nil=>exact⟨[],rfl,by simp⟩
  |cons d l ih =>
   obtain⟨m,rfl,m1⟩:=ih (fun d hd=>h2 d (by simp[hd])) (fun d hd=>h3 d (by simp[hd]));have g1:=h2 d (by simp);obtain⟨g2,g3,g4⟩:=h3 d (by simp);rw[ec] at g2;have g5:bl Tryz.prog 131=true:=by kernel_rfl
   rw[g5] at g4;obtain⟨q,rfl⟩:∃q,d = .agg q:=by cases d<;>first | exact⟨_,rfl⟩ | (simp[D.isAgg] at g4)
   have hq:(D.agg q).cells=q:=rfl;rw[hq] at g1 g2 g3
   match q,g2 with
   |[a,b],_ =>
    generalize hqq:([a,b]:List D)=qq at g1;cases g1 with
    |struct t fs l' hu hl hf =>
     subst hqq;rw[Tryz.underlying131] at hu;cases hu;have f0:=hf _ (by simp;exact .inl rfl);have f1:=hf _ (by simp;exact .inr rfl);simp only[ec1,ec2] at f0 f1;have oa:∀x:D,x.one=true→x.cells=[x]∧x.isAgg=false:=fun x hx=>by cases x<;>first | exact⟨rfl,rfl⟩ | (simp[D.one] at hx)
     obtain⟨a1,a2⟩:=oa a (g3 a (by simp));obtain⟨b1,b2⟩:=oa b (g3 b (by simp));have t0:TyW Tryz.prog 9 a.cells:=by rw[a1];exact f0
     have t1:TyW Tryz.prog 22 b.cells:=by rw[b1];exact f1
     obtain⟨s,rfl,hs⟩:=pU Tryz.underlying9 t0 (by rw[a2];kernel_rfl);obtain⟨e,rfl,he⟩:=yV t1 (by rw[b2];kernel_rfl);refine⟨(s,e)::m,rfl,fun t ht => ?_⟩;rcases z9L.1 ht with rfl | ht
     ·exact⟨z9E hs er,he⟩
     ·exact m1 t ht
    |bool t b hu=>rw[Tryz.underlying131] at hu;cases hu
    |int t k n hu=>rw[Tryz.underlying131] at hu;cases hu
    |str t s hu=>rw[Tryz.underlying131] at hu;cases hu
    |slice t e l hu=>rw[Tryz.underlying131] at hu;cases hu
 obtain⟨m,rfl,m1⟩:=key;rw[z9V] at h1;exact⟨m,by rw[ec],by omega,m1⟩
set_option linter.unusedSimpArgs false
set_option maxRecDepth 20000
set_option maxHeartbeats 2000000
open Go.RowKit
def vsS (s:Sq):Bool:=gZ s.2 8||decide (60<s.1.length)
def vsB (l:List Sq):Bool:=l.any vsS||decide (20<l.length)
theorem Xh (V T U:Nat) (l:List Sq) (n:Int) (hg:Gs l n) (hs:∀s∈l,s.1.length≤140737488355328∧Ar s.2) :
  Con Tryz.prog AN 36 [LSq V T U l] (.bool (vsB l)):=by
 have hl2:=hg.len;refine By.con rfl (by simp) ?_;(repeat first|simp only[kV,simprocAttr,aa,aP]|refine aN ?_);refine kp [0] ?_;(repeat first|simp only[kV,simprocAttr,aa,aP]|refine aN ?_);refine kp [0,3] ?_;(repeat first|simp only[kV,simprocAttr,aa,aP]|refine aN ?_);refine aB (ι:=Nat) (fun i=>i≤l.length∧∀s∈l.take i,vsS s=false) (fun i=>⟨ar [(0,.p (LSq V T U l)),(3,.p (J i))],au []⟩) (fun i=>l.length-i) 0 ⟨z9O _,by simp⟩ (Sub.toG [0,3] []) ?_;rintro i ⟨hi,he⟩;by_cases h:i<l.length
 ·have hI:(i:Int)<(l.length:Int):=by omega
  have g1:=jB (T:=T) (U:=U) h;have hm:=dI h;have htk:=zaA h;obtain⟨hst,hA⟩:=hs _ hm;have hG:=(hg.ft _ hm).2.2;have et:vsS (sq0 l i)=true→vsB l=true:=fun hv=>by unfold vsB;rw[z83];exact .inl (List.any_eq_true.2 ⟨_,hm,hv⟩)
  generalize sq0 l i=t at *;obtain⟨c,p⟩:=t;have k:=xe AN T U p 8 (by decide) (z9E hG.len (by decide)) hA.str;cases hv:gZ p 8
  ·rw[hv] at k;by_cases hc:60<c.length
   ·have hcI:(60:Int)<(c.length:Int):=by omega
    have e:vsB l=true:=et (by unfold vsS;simp[hc]);rw[e];(repeat first|with_reducible refine kp [0,3,7] ?_|simp only[kV,simprocAttr,aa,hI]|refine aN ?_);(try simp only[kV,simprocAttr,aa,hI,g1,h]);refine ulk ?_;(repeat first|with_reducible refine kp [0,3] ?_|simp only[kV,simprocAttr,aa,hI,g1,h]|refine aN ?_);refine⟨_,cx (k),ulc ?_⟩;(repeat first|with_reducible refine kp [0,3,24] ?_|simp only[kV,simprocAttr,aa,hI,g1,h,hcI]|refine aN ?_);refine ulk ?_;(repeat first|with_reducible refine kp [2] ?_|simp only[kV,simprocAttr,aa,af,ai,aq,ah,hcI]|refine aN ?_)
   ·have hcI:¬ (60:Int)<(c.length:Int):=by omega
    have e:vsS (c,p)=false:=by unfold vsS;simp[hv];omega
    (repeat first|with_reducible refine kp [0,3,7] ?_|simp only[kV,simprocAttr,aa,hI]|refine aN ?_);(try simp only[kV,simprocAttr,aa,hI,g1,h]);refine ulk ?_;(repeat first|with_reducible refine kp [0,3] ?_|simp only[kV,simprocAttr,aa,hI,g1,h]|refine aN ?_);refine⟨_,cx (k),ulc ?_⟩;(repeat first|with_reducible refine kp [0,3,24] ?_|simp only[kV,simprocAttr,aa,hI,g1,h,hcI]|refine aN ?_);refine ulk ?_;(repeat first|with_reducible refine kp [0,3] ?_|simp only[kV,simprocAttr,aa,hcI]|refine aN ?_);exact⟨i+1,⟨h,fun s hs=>by
     rw[htk] at hs;rcases z9y.1 hs with hs | hs
     ·exact he s hs
     ·rw[z9e.1 hs];exact e⟩,(Sub.toG [0,3] []),by omega⟩
  ·rw[hv] at k;have e:vsB l=true:=et (by unfold vsS;simp[hv]);rw[e];(repeat first|with_reducible refine kp [0,3,7] ?_|simp only[kV,simprocAttr,aa,hI]|refine aN ?_);(try simp only[kV,simprocAttr,aa,hI,g1,h]);refine ulk ?_;(repeat first|with_reducible refine kp [0,3] ?_|simp only[kV,simprocAttr,aa,hI,g1,h]|refine aN ?_);refine⟨_,cx (k),ulc ?_⟩;(repeat first|with_reducible refine kp [0,3,24] ?_|simp only[kV,simprocAttr,aa,hI,g1,h]|refine aN ?_);refine ulk ?_;(repeat first|with_reducible refine kp [2] ?_|simp only[kV,simprocAttr,aa,af,ai,aq,ah]|refine aN ?_)
 ·have hI:¬ (i:Int)<(l.length:Int):=by omega
  obtain rfl:i=l.length:=by omega
  have e:vsB l=decide ((20:Int)<(l.length:Int)):=by
   unfold vsB;rw[show l.any vsS=false from List.any_eq_false.2 fun s hs=>by rw[he s (by rw[z9x];exact hs)];decide,Bool.false_or];exact decide_eq_decide.2 (by omega)
  rw[e];(repeat first|with_reducible refine kp [0,3,7] ?_|simp only[kV,simprocAttr,aa,hI]|refine aN ?_);refine ulk ?_;(repeat first|with_reducible refine kp [0,2] ?_|simp only[kV,simprocAttr,aa,af,ai,aq,ah,hI]|refine aN ?_)
theorem Xi (V:Nat) (ts:List (List UInt8)) (hl:ts.length≤1048576) (hs:∀t∈ts,t.length≤9223372036854775807) :
  Con Tryz.prog AN 39 [LSt V ts] (.tup [LZ (if (pF 0 ts).1=0 then ptL ts else []),flt (pF 0 ts).1 (pF 0 ts).2]):=by
 refine Ca.con rfl (by simp) ?_;(repeat first|simp only[kV,simprocAttr,aa,ab,ac,ae,aP]|refine aN ?_);refine kp [0,3] ?_;(repeat first|simp only[kV,simprocAttr,aa,ab,ac,ae,aP]|refine aN ?_);refine kp [0,3,4] ?_;(repeat first|simp only[kV,simprocAttr,aa,ab,ac,ae,aP]|refine aN ?_);refine kp [0,3,4,5] ?_;(repeat first|simp only[kV,simprocAttr,aa,ab,ac,ae,aP]|refine aN ?_);refine aB (ι:=Nat) (fun i=>i≤ts.length∧pF i (ts.drop i)=pF 0 ts) (fun i=>⟨ar [(0,.p (LSt V ts)),(3,.ptr 3 0 0),(4,.slice 204 0 i),(5,.p (J i))],
  au [(3,⟨25,2,.box (.p (flt 0 0)),false⟩),(204,⟨FZt,4,.row ((ptL (ts.take i)).map qZ),false⟩)]⟩) (fun i=>ts.length-i) 0 ⟨z9O _,rfl⟩ (Sub.tr (Sub.nilG 4 204 FZt 4) (Sub.toG [0,3,4,5] [6,7,31])) ?_
 rintro i ⟨hi,he⟩;by_cases h:i<ts.length
 ·have hI:(i:Int)<(ts.length:Int):=by omega
  have g1:=zcN h;have hst:=hs _ (Ux h);have htk:=su h;have hlen:(ptL (ts.take i)).length=i:=by rw[iX,z9N,z9f hi]
  rw[Uy h,pF] at he;have f1:(ptL (ts.take (i+1))).map qZ=(ptL (ts.take i)).map qZ++[qZ (qR (st0 ts i))]:=by rw[htk];simp[ptL]
  generalize st0 ts i=t at *;generalize ptL (ts.take i)=q at *;have hb:(i+1)*64≤140737488355328:=by omega
  (repeat first|with_reducible refine kp [0,3,4,5,11] ?_|simp only[kV,simprocAttr,aa,ab,ac,ae,hI]|refine aN ?_);(try simp only[kV,simprocAttr,aa,ab,ac,ae,hI,g1,h]);refine ulk ?_;(repeat first|with_reducible refine kp [0,3,4,5] ?_|simp only[kV,simprocAttr,aa,ab,ac,ae,hI,g1,h]|refine aN ?_);refine⟨_,cx (jG t hst),ulc ?_⟩;(repeat first|with_reducible refine kp [0,3,4,5,6,7,24] ?_|simp only[kV,simprocAttr,aa,ab,ac,ae,hlen]|refine aN ?_);by_cases hc:cR t=0
  ·rw[if_pos hc] at he;refine⟨fun h1=>absurd h1 (by rw[hc];simp),fun _ => ?_⟩;(try simp only[kV,simprocAttr,aa,ab,ac,ae,hlen]);refine ulk ?_;(repeat first|with_reducible refine kp [0,3,4,5,6] ?_|simp only[kV,simprocAttr,aa,ab,ac,ae,hlen]|refine aN ?_);exact⟨i+1,⟨h,he⟩,by rw[f1];exact (Sub.toG [0,3,4,5] [6,7,31]),by omega⟩
  ·rw[if_neg hc] at he;refine⟨fun _ => ?_,fun h1=>absurd h1 (by rw[z8R hc];simp)⟩;rw[←he,if_neg hc];(try simp only[kV,simprocAttr,aa,ab,ac,ae]);refine ulk ?_;(repeat first|simp only[kV,simprocAttr,aa,ab,ac,ae]|refine aN ?_);refine⟨_,cx (jK (cR t) i),ulc ?_⟩;(repeat first|with_reducible refine kp [2,3] ?_|simp only[kV,simprocAttr,aa,ab,ac,ae,af,ai,aq,ah]|refine aN ?_);rfl
 ·have hI:¬ (i:Int)<(ts.length:Int):=by omega
  obtain rfl:i=ts.length:=by omega
  have htk:List.take ts.length ((ptL ts).map qZ)=(ptL ts).map qZ:=z93 (by rw[z9V,iX];exact z95 _);rw[List.drop_length,pF] at he;rw[←he,if_pos rfl,z9x];(repeat first|with_reducible refine kp [0,3,4,5,11] ?_|simp only[kV,simprocAttr,aa,ab,ac,ae,hI]|refine aN ?_);(try simp only[kV,simprocAttr,aa,ab,ac,ae,hI,iX]);refine ulk ?_;(repeat first|simp only[kV,simprocAttr,aa,ab,ac,ae,hI,iX]|refine aN ?_);refine iy 204 _ [3,4] (by rfl) ?_;refine ulk ?_;(repeat first|with_reducible refine kp [2,3] ?_|simp only[kV,simprocAttr,aa,ab,ac,ae,af,ai,aq,ah,hI,iX]|refine aN ?_);simp only[Bool.true_or,if_true];rw[htk]
set_option linter.unusedSimpArgs false
set_option maxRecDepth 20000
set_option maxHeartbeats 2000000
open Go.RowKit
def bV (k:Rat) (a:Mp.TL):Mp.TL:=a.map fun x=>(x.1*k,x.2)
theorem kZ (k:Rat) (a:Mp.TL):(bV k a).length=a.length:=z9V _
theorem sL {k:Rat}{a:Mp.TL}{D X E Y:Nat} (ha:Dz D X a) (hk:Db E Y k):Dz (D*E) (X*Y) (bV k a):=fun x hx=>by
 obtain⟨y,hy,rfl⟩:=z9Q.1 hx;exact (ha y hy).mul hk
theorem sN {k:Rat}{a:Mp.TL}{n:Nat} (h:Mp.Wd n a):Mp.Wd n (bV k a):=fun x hx=>by
 obtain⟨y,hy,rfl⟩:=z9Q.1 hx;exact h y hy
theorem U7 {k:Rat}{a:Mp.TL}{i:Nat} (h:i<a.length):zt (bV k a) i=((zt a i).1*k,(zt a i).2):=by
 simp[zt,bV,h]
theorem U8 (a:Mp.TL) (k:Rat){n D X E Y p:Nat} (hw:Mp.Wd n a) (ha:Dz D X a) (hk:Db E Y k) (hl:a.length≤100000) (hn:n≤1000) (hD:D<2^p) (hX:X<2^p) (hE:E<2^p) (hY:Y<2^p)
  (hDE:D*E<2^p) (hXY:(a.length+1)*(X*Y)<2^p) (hp:p≤2048000000000):Con Tryz.prog AN 76 [MZ a,qZ k] (MZ (Mp.growL [] (bV k a))):=by
 have hwd:=sN (k:=k) hw;have hdb:=sL ha hk;have hkb:=hk.Bq hE hY;have hXp:∀i,i≤a.length+1→i*(X*Y)<2^p:=fun i hi=>z9K (z92 _ hi) hXY
 refine QB.con rfl (by simp) ?_;(repeat first|simp only[kV,simprocAttr,ab,ac,ae,ax]|refine aN ?_);refine kp [0,3] ?_;(repeat first|simp only[kV,simprocAttr,ab,ac,ae,ax]|refine aN ?_);refine kp [0,3,5] ?_;(repeat first|simp only[kV,simprocAttr,ab,ac,ae,ax]|refine aN ?_);refine kp [0,3,5,6] ?_;(repeat first|simp only[kV,simprocAttr,ab,ac,ae,ax]|refine aN ?_);refine aB (ι:=Nat) (fun i=>i≤a.length) (fun i=>⟨ar [(0,.p (MZ a)),(3,.ptr 3 0 0),(5,.p (MZ (Mp.growL [] ((bV k a).take i)))),(6,.p (.int .i64 i))],
  au [(3,⟨50,4,.box (.p (qZ k)),false⟩)]⟩) (fun i=>a.length-i) 0 (z9O _) ((Sub.revG 5 (MZ []) (by rfl)).tr (Sub.toG [0,3,5,6] [])) ?_
 intro i hi;by_cases h:i<a.length
 ·have hI:(i:Int)<(a.length:Int):=by omega
  have g1:=fG h;have hii:i<(bV k a).length:=by rw[kZ];exact h
  have hgr:=oH (a:=[]) hii;have hgl:=Mp.growL_len ((bV k a).take i) [];rw[z9N,z9f (by omega)] at hgl;have hgd:=fp (hdb.take i) (Dz.nil (X:=0));rw[z9N,z9f (by omega)] at hgd;have hgw:=Mp.growL_wd (a:=[]) (fun x hx=>by cases hx) (oI hwd i);have hbd:=hdb _ (cO hii);have hbw:=hwd _ (cO hii);have hbx:=(ha _ (cO h)).Bq hD hX;rw[U7 h] at hgr hbd hbw;have hxi:=hXp (i+1) (by omega);rw[z8Z] at hxi;generalize Mp.growL [] ((bV k a).take i)=q at *;generalize zt a i=t at *;have c1:=lG q (t.1*k,t.2) hgw hbw hgd hbd (by simp only[List.length_nil] at hgl;omega) (by omega) hDE (by omega) hp;have c0:=pk t.1 k p hbx hkb hp;(repeat first|with_reducible refine kp [0,3,5,6,10] ?_|simp only[kV,simprocAttr,ab,ac,ae,hI]|refine aN ?_);(try simp only[kV,simprocAttr,ab,ac,ae,hI,g1,h]);refine ulk ?_;(repeat first|with_reducible refine kp [0,3,5,6] ?_|simp only[kV,simprocAttr,ab,ac,ae,hI,g1,h]|refine aN ?_);refine⟨_,cx (c0),ulc ?_⟩;(repeat first|simp only[kV,simprocAttr,ab,ac,ae,hI,g1,h]|refine aN ?_);refine⟨_,cx (c1),ulc ?_⟩;(repeat first|with_reducible refine kp [0,3,5,6] ?_|simp only[kV,simprocAttr,ab,ac,ae]|refine aN ?_);exact⟨i+1,h,by rw[hgr];exact (Sub.toG [0,3,5,6] []),by omega⟩
 ·have hI:¬ (i:Int)<(a.length:Int):=by omega
  obtain rfl:i=a.length:=by omega
  rw[z93 (by rw[kZ];omega)];(repeat first|with_reducible refine kp [0,3,5,6,10] ?_|simp only[kV,simprocAttr,ab,ac,ae,hI]|refine aN ?_);refine ulk ?_;(repeat first|with_reducible refine kp [4,5] ?_|simp only[kV,simprocAttr,ab,ac,ae,af,ai,aq,ah,hI]|refine aN ?_)
set_option linter.unusedSimpArgs false
open Go.RowKit
noncomputable def sqT (s:Sq):List Tm:=cnT 0 (timT (qR s.1) (gR s.2 s.2 0))
noncomputable def bN (l:List Sq):Nat→List Tm
 |0=>[]
 |i+1=>cnT 0 (bN l i++sqT (sq0 l i))
theorem Szd.mono {a b a' b':Nat}{l:List Tm} (h:Szd a b l) (h1:a≤a') (h2:b≤b'):Szd a' b' l:=by
 obtain⟨D,d1,d2,d3⟩:=h;exact⟨D,d1,z9E d2 (pl h1),fun x hx=>(d3 x hx).mono (pl h2)⟩
theorem Szd.nil {a b:Nat}:Szd a b []:=⟨1,by decide,Nat.one_le_two_pow,fun x hx=>absurd hx List.not_mem_nil⟩
theorem SzZ.nil {a b:Nat}:SzZ a b []:=⟨1,by decide,Nat.one_le_two_pow,fun x hx=>absurd hx List.not_mem_nil⟩
theorem SzZ.mono {a b a' b':Nat}{l:Mp.TL} (h:SzZ a b l) (h1:a≤a') (h2:b≤b'):SzZ a' b' l:=by
 obtain⟨D,d1,d2,d3⟩:=h;exact⟨D,d1,z9E d2 (pl h1),d3.mono (pl h2)⟩
theorem NS (n ord:Int){k:Rat}{l:List Tm}{a b q c p:Nat}{G:Int} (h:Szd a b l) (hk:Bq q k) (gl:∀t∈l,Gx G t.2) (hG:G≤1000000000000) (hl:l.length≤1000000000) (hc:l.length≤2^c)
  (h1:a+q<p) (h2:c+(b+q)<p) (hp:p≤2048000000000) :
  Con Tryz.prog AN 100 [SmD l n ord,qI k] (SmD (cnT ord (timT k l)) n ord)∧Szd (a+q) (b+q+c) (cnT ord (timT k l)):=by
 have hbl:=h.bc (p:=p) (by omega) (by omega);obtain⟨D,d1,d2,d3⟩:=h;have hkd:Db k.den (2^q) k:=(Db.of_self k).mono (Nat.le_of_lt hk.1);have hke:k.den≤2^q:=Nat.le_of_lt hk.2;have hDE:D*k.den≤2^(a+q):=by rw[z9p];exact z82 d2 hke
 refine⟨XV n ord k l d3 hkd gl hG hl (z9K hDE (pw h1)) ?_ hbl (hk.mono (by omega)) hp,?_⟩
 ·rw[←z9p];refine z9K (z92 _ hc) ?_;rw[←z9p];exact pw h2
 ·refine Szd.cn n ord ⟨D*k.den,Nat.mul_pos d1 k.den_pos,hDE,fun x hx => ?_⟩ (fun x hx => ?_) (by rw[iD];exact hl) (by rw[iD];exact hc)
  ·have:=t6 d3 hkd x hx
   rwa[←z9p] at this
  ·obtain⟨y,hy,rfl⟩:=z9Q.1 hx;exact (gl y hy).ge hG
section
variable {s:Sq}{n:Int} (hg:Gd s.2 n 0)
include hg
theorem nu:Con Tryz.prog AN 100 [SmD (gR s.2 s.2 0) n 0,qI (qR s.1)] (SmD (sqT s) n 0)∧Szd 4000000 4000000 (sqT s)∧(∀t∈sqT s,Gx 80 t.2)∧(sqT s).length≤160000:=by
 obtain⟨l1,l2,l3,l4⟩:=vx s.2 s.2 n 0 hg hg;have hll:(mulT (frm s.2 0) (frm s.2 0)).length≤160000:=by rw[kQ];exact l2
 have hgx:=rS (hg.fx 0) (hg.fx 0);have hsz:=((hg.sz 0).mul (hg.sz 0)).cn n 0 (fun x hx=>(hgx x hx).ge (by decide)) (z9E hll (by decide)) (c:=18) (z9E hll (by decide));have hml:(gR s.2 s.2 0).length≤160000:=z9E (lL _ _) hll;have hmg:∀t∈gR s.2 s.2 0,Gx 80 t.2:=l6 hgx;obtain⟨k1,k2⟩:=NS n 0 (k:=qR s.1) (l:=gR s.2 s.2 0) (q:=4000) (c:=18) (p:=5000000) hsz (iP s.1) hmg (by decide) (by omega) (z9E hml (by decide)) (by decide) (by decide) (by decide);refine⟨k1,k2.mono (by decide) (by decide),l6 fun t ht => ?_,z9E (lL _ _) (by rw[iD];exact hml)⟩;obtain⟨y,hy,rfl⟩:=z9Q.1 ht;exact hmg y hy
end
section
variable {l:List Sq}{n:Int} (hg:Gs l n)
include hg
theorem nw:∀i,i≤l.length→Szd (4000000*i) (5000000*i) (bN l i)∧(∀t∈bN l i,Gx 80 t.2)∧(bN l i).length≤160000*i
 |0,_=>⟨Szd.nil,fun x hx=>absurd hx List.not_mem_nil,z95 0⟩
 |i+1,hi=>by
  obtain⟨h1,h2,h3⟩:=nw i (by omega);obtain⟨-,k1,k2,k3⟩:=nu (hg.ft _ (dI (by omega:i<l.length))).2.2;have hl2:=hg.len;have hap:∀t∈bN l i++sqT (sq0 l i),Gx 80 t.2:=fun t ht=>(z9y.1 ht).elim (h2 t) (k2 t)
  have hlen:(bN l i++sqT (sq0 l i)).length≤160000*(i+1):=by rw[z96];omega
  refine⟨?_,l6 hap,z9E (lL _ _) hlen⟩;have h:=((h1.app k1 (c:=5000000*i+4000000) (by omega) (by omega)).cn n 0 (fun t ht=>(hap t ht).ge (by decide)) (by omega) (c:=25) (z9E hlen (z9E (by omega:_≤32000000) (by decide))))
  exact h.mono (by omega) (by omega)
theorem NT {i:Nat} (hi:i<l.length):Con Tryz.prog AN 49 [SmD (bN l i) n 0,SmD (sqT (sq0 l i)) n 0] (SmD (bN l (i+1)) n 0):=by
 obtain⟨h1,h2,h3⟩:=nw hg i (by omega);obtain⟨-,k1,k2,k3⟩:=nu (hg.ft _ (dI hi)).2.2;have hl2:=hg.len;exact zbF n 0 n 0 h1 k1 (fun t ht=>(h2 t ht).ge (by decide)) (fun t ht=>(k2 t ht).ge (by decide)) (by omega) (q:=25) (z9E (by omega:_≤32000000) (by decide)) (c:=5000000*i+4000000) (by omega) (by omega) (p:=2000000000) (by omega) (by omega) (by decide)
theorem NU:Bc 2000000000 (bN l l.length)∧(bN l l.length).length≤32000000:=by
 obtain⟨h1,h2,h3⟩:=nw hg l.length (z95 _);have hl2:=hg.len;exact⟨h1.bc (by omega) (by omega),by omega⟩
end
noncomputable def ji (l:List Sq) (n:Int):List At:=if (sM l n).1=0 then WR n.toNat (bN l l.length) else []
end Go.Proofs.YtbnhgnhgbhjkcaaGreat.M
