/- Lemmas. -/
import Derived.Test.YtbnhgnhgbhjkcaaGreatQ45
import Derived.Test.YtbnhgnhgbhjkcaaGreatQ27
set_option linter.defProp false
set_option linter.unusedSimpArgs false
set_option linter.unusedVariables false
namespace Go.Proofs.YtbnhgnhgbhjkcaaGreat.M
set_option linter.unusedSimpArgs false
set_option maxRecDepth 20000
set_option maxHeartbeats 2000000
open Go.RowKit
noncomputable def fT (n:Int) (t:At):Int:=if (t.2.length:Int)=n then (if ∀e∈t.2,0≤e∧e≤40 then cR t.1 else 7) else 8
noncomputable def fLs (n:Int):Nat→List At→Int×Int
 |_,[]=>(0,0)
 |i,t::l=>if fT n t=0 then fLs n (i+1) l else (fT n t,(i:Int))
noncomputable def fM (l:List At) (n ord:Int):Int×Int:=
 if n<1∨4<n then (7,0) else if ord<0∨2<ord then (11,0) else if 400<l.length then (9,0) else fLs n 0 l
def at0 (l:List At) (i:Nat):At:=l.getD i ([],[])
theorem gg {l:List At}{i:Nat} (h:i<l.length):at0 l i∈l:=by unfold at0;rw[z91,z9P h];exact z9a h
theorem vF {l:List At}{i:Nat} (h:i<l.length):l.drop i=at0 l i::l.drop (i+1):=by rw[z9k h];simp[at0,h]
theorem vG {l:List At}{i:Nat} (h:i<l.length):l.take (i+1)=l.take i++[at0 l i]:=by rw[z9c h];simp[at0,h]
theorem gS {U:Nat}{l:List At}{i:Nat} (h:i<l.length):(l.map (atD U)).getD i default = .agg [.str (at0 l i).1,.list U 1 ((at0 l i).2.map (D.int .i64))]:=by simp[at0,atD,h]
theorem vH {l:List Int}{i:Nat} (h:i<l.length):(l.map (D.int .i64)).getD i default = .int .i64 (l.getD i 0):=by simp[h]
theorem vI {n:Int}:∀{l:List At}{i:Nat},(fLs n i l).1=0→fLs n i l=(0,0)∧∀t∈l,fT n t=0
 |[],_,_=>⟨rfl,fun _ h=>by cases h⟩
 |t::l,i,h=>by
  rw[fLs] at h ⊢;split at h
  ·rename_i h0;rw[if_pos h0];obtain⟨h1,h2⟩:=vI h;exact⟨h1,fun x hx=>by
    rcases z9L.1 hx with rfl | hx
    ·exact h0
    ·exact h2 x hx⟩
  ·rename_i h0;exact absurd h h0
theorem vJ {n:Int}:∀{l:List At}{i:Nat},(∀t∈l,fT n t=0)→fLs n i l=(0,0)
 |[],_,_=>rfl
 |t::l,i,h=>by rw[fLs,if_pos (h t z9X)];exact vJ fun x hx=>h x (z9T _ hx)
structure Gd (l:List At) (n ord:Int):Prop where
 n1:1≤n
 n4:n≤4
 o0:0≤ord
 o2:ord≤2
 len:l.length≤400
 ft:∀t∈l,fT n t=0
theorem zbT {l:List At}{n ord:Int} (h:(fM l n ord).1=0):Gd l n ord:=by
 unfold fM at h;split at h
 ·cases h
 split at h
 ·cases h
 split at h
 ·cases h
 exact⟨by omega,by omega,by omega,by omega,by omega,(vI h).2⟩
theorem Gd.fm {l:List At}{n ord:Int} (h:Gd l n ord):fM l n ord=(0,0):=by
 have h1:=h.n1;have h2:=h.n4;have h3:=h.o0;have h4:=h.o2;have h5:=h.len;unfold fM;rw[if_neg (by omega),if_neg (by omega),if_neg (by omega)];exact vJ h.ft
theorem jJ {n:Int}{t:At} (h:fT n t=0):(t.2.length:Int)=n∧(∀e∈t.2,0≤e∧e≤40)∧cR t.1=0:=by
 unfold fT at h;split at h
 ·rename_i h1;split at h
  ·rename_i h2;exact⟨h1,h2,h⟩
  ·cases h
 ·cases h
theorem vK {n:Int}{t:At} (h:¬ (t.2.length:Int)=n):fT n t=8:=if_neg h
theorem l7 {n:Int}{t:At} (h:(t.2.length:Int)=n){j:Nat} (hj:j<t.2.length) (hb:¬ (0≤t.2.getD j 0∧t.2.getD j 0≤40)):fT n t=7:=by
 unfold fT;rw[if_pos h,if_neg (fun hh=>hb (hh _ (by rw[z91,z9P hj];exact z9a hj)))]
theorem vL {n:Int}{t:At} (h:(t.2.length:Int)=n) (hb:∀j,j<t.2.length→0≤t.2.getD j 0∧t.2.getD j 0≤40):fT n t=cR t.1:=by
 unfold fT;rw[if_pos h,if_pos fun e he=>by
  obtain⟨j,hj,rfl⟩:=z85.1 he;have:=hb j hj;rw[z91,z9P hj] at this;exact this]
theorem fD {A:List TypeId} (c a:Int):Con Tryz.prog A 44 [J c,J a] (flt c a):=by
 refine Con.mono (A:=[]) ?_ (by simp);refine I0.con rfl (by simp) ?_;(repeat first|with_reducible refine kp [0,1,4] ?_|simp only[kV,simprocAttr,aa,ax,af,ai,aq,ah]|refine aN ?_)
theorem fE {A:List TypeId} (c a:Int):Con Tryz.prog A 51 [J c,J a] (flt c a):=by
 refine Con.mono (A:=[]) ?_ (by simp);refine N2.con rfl (by simp) ?_;(repeat first|with_reducible refine kp [0,1,4] ?_|simp only[kV,simprocAttr,aa,ax,af,ai,aq,ah]|refine aN ?_)
theorem jK {A:List TypeId} (c a:Int):Con Tryz.prog A 24 [J c,J a] (flt c a):=by
 refine Con.mono (A:=[]) ?_ (by simp);refine N4.con rfl (by simp) ?_;(repeat first|with_reducible refine kp [0,1,4] ?_|simp only[kV,simprocAttr,aa,ax,af,ai,aq,ah]|refine aN ?_)
theorem l8 (T U:Nat) (l:List At) (n ord:Int) (hl:l.length≤9223372036854775807) (hs:∀t∈l,t.1.length≤9223372036854775807) :
  Con Tryz.prog AN 9 [LTa T U l,J n,J ord] (flt (fM l n ord).1 (fM l n ord).2):=by
 by_cases n1:n<1
 ·have e:fM l n ord=(7,0):=if_pos (.inl n1);rw[e];refine fn9.con rfl (by simp) ?_;(repeat first|with_reducible refine kp [0,1,2,6,13] ?_|simp only[kV,simprocAttr,aa,ci,n1]|refine aN ?_);refine ulk ?_;(repeat first|simp only[kV,simprocAttr,aa,n1]|refine aN ?_);refine⟨_,cx (fD 7 0),ulc ?_⟩;(repeat first|with_reducible refine kp [6] ?_|simp only[kV,simprocAttr,aa,af,ai,aq,ah]|refine aN ?_)
 by_cases n2:4<n
 ·have e:fM l n ord=(7,0):=if_pos (.inr n2);rw[e];refine fn9.con rfl (by simp) ?_;(repeat first|with_reducible refine kp [0,1,2,6,13] ?_|simp only[kV,simprocAttr,aa,ci,n1,n2]|refine aN ?_);refine ulk ?_;(repeat first|simp only[kV,simprocAttr,aa,n1]|refine aN ?_);refine⟨_,cx (fD 7 0),ulc ?_⟩;(repeat first|with_reducible refine kp [6] ?_|simp only[kV,simprocAttr,aa,af,ai,aq,ah]|refine aN ?_)
 by_cases o1:ord<0
 ·have e:fM l n ord=(11,0):=by unfold fM;rw[if_neg (by omega),if_pos (.inl o1)]
  rw[e];refine fn9.con rfl (by simp) ?_;(repeat first|with_reducible refine kp [0,1,2,6,13] ?_|simp only[kV,simprocAttr,aa,ci,n1,n2]|refine aN ?_);(try simp only[kV,simprocAttr,aa,o1]);refine ulk ?_;(repeat first|with_reducible refine kp [0,1,6,21] ?_|simp only[kV,simprocAttr,aa,o1]|refine aN ?_);refine ulk ?_;(repeat first|simp only[kV,simprocAttr,aa,o1]|refine aN ?_);refine⟨_,cx (fD 11 0),ulc ?_⟩;(repeat first|with_reducible refine kp [6] ?_|simp only[kV,simprocAttr,aa,af,ai,aq,ah]|refine aN ?_)
 by_cases o2:2<ord
 ·have e:fM l n ord=(11,0):=by unfold fM;rw[if_neg (by omega),if_pos (.inr o2)]
  rw[e];refine fn9.con rfl (by simp) ?_;(repeat first|with_reducible refine kp [0,1,2,6,13] ?_|simp only[kV,simprocAttr,aa,ci,n1,n2]|refine aN ?_);(try simp only[kV,simprocAttr,aa,o1,o2]);refine ulk ?_;(repeat first|with_reducible refine kp [0,1,6,21] ?_|simp only[kV,simprocAttr,aa,o1,o2]|refine aN ?_);refine ulk ?_;(repeat first|simp only[kV,simprocAttr,aa,o1]|refine aN ?_);refine⟨_,cx (fD 11 0),ulc ?_⟩;(repeat first|with_reducible refine kp [6] ?_|simp only[kV,simprocAttr,aa,af,ai,aq,ah]|refine aN ?_)
 by_cases h4:400<l.length
 ·have e:fM l n ord=(9,0):=by unfold fM;rw[if_neg (by omega),if_neg (by omega),if_pos h4]
  have h4I:(400:Int)<(l.length:Int):=by omega
  rw[e];refine fn9.con rfl (by simp) ?_;(repeat first|with_reducible refine kp [0,1,2,6,13] ?_|simp only[kV,simprocAttr,aa,ci,n1,n2]|refine aN ?_);(try simp only[kV,simprocAttr,aa,o1,o2]);refine ulk ?_;(repeat first|with_reducible refine kp [0,1,6,21] ?_|simp only[kV,simprocAttr,aa,o1,o2]|refine aN ?_);(try simp only[kV,simprocAttr,aa,h4I]);refine ulk ?_;(repeat first|with_reducible refine kp [0,1,6,29] ?_|simp only[kV,simprocAttr,aa,h4I]|refine aN ?_);refine ulk ?_;(repeat first|simp only[kV,simprocAttr,aa,h4I]|refine aN ?_);refine⟨_,cx (fD 9 0),ulc ?_⟩;(repeat first|with_reducible refine kp [6] ?_|simp only[kV,simprocAttr,aa,af,ai,aq,ah]|refine aN ?_)
 have e:fM l n ord=fLs n 0 l:=by unfold fM;rw[if_neg (by omega),if_neg (by omega),if_neg h4]
 have h4I:¬ (400:Int)<(l.length:Int):=by omega
 rw[e];refine fn9.con rfl (by simp) ?_;(repeat first|with_reducible refine kp [0,1,2,6,13] ?_|simp only[kV,simprocAttr,aa,ci,n1,n2]|refine aN ?_);(try simp only[kV,simprocAttr,aa,o1,o2]);refine ulk ?_;(repeat first|with_reducible refine kp [0,1,6,21] ?_|simp only[kV,simprocAttr,aa,o1,o2]|refine aN ?_);(try simp only[kV,simprocAttr,aa,h4I]);refine ulk ?_;(repeat first|with_reducible refine kp [0,1,6,29] ?_|simp only[kV,simprocAttr,aa,h4I]|refine aN ?_);refine ulk ?_;(repeat first|simp only[kV,simprocAttr,aa,h4I]|refine aN ?_);refine kp [0,1,6] ?_;(repeat first|simp only[kV,simprocAttr,aa,h4I]|refine aN ?_);refine kp [1,6,34,35,36] ?_;(repeat first|simp only[kV,simprocAttr,aa,h4I]|refine aN ?_);refine aB (ι:=Nat) (fun i=>i≤l.length∧fLs n i (l.drop i)=fLs n 0 l) (fun i=>⟨ar [(1,.p (J n)),(6,.ptr 6 0 0),(34,.p (LTa T U l)),(35,.p (J l.length)),(36,.p (J i))],
  au [(6,⟨25,2,.box (.p (flt 0 0)),false⟩)]⟩) (fun i=>l.length-i) 0 ⟨z9O _,rfl⟩ (Sub.toG [1,6,34,35,36] [8,11,12]) ?_
 rintro i ⟨hi,he⟩;by_cases h:i<l.length
 ·have hI:(i:Int)<(l.length:Int):=by omega
  have g1:=gS (U:=U) h;have hst:=hs _ (gg h);rw[vF h,fLs] at he;generalize at0 l i=t at *;obtain⟨c,e⟩:=t;by_cases hlen:(e.length:Int)=n
  ·(repeat first|with_reducible refine kp [1,6,34,35,36,37] ?_|simp only[kV,simprocAttr,aa,hI]|refine aN ?_);(try simp only[kV,simprocAttr,aa,hI,g1,h]);refine ulk ?_;(repeat first|with_reducible refine kp [1,6,7,8,34,35,36,45] ?_|simp only[kV,simprocAttr,aa,hI,g1,h]|refine aN ?_);(try simp only[kV,simprocAttr,aa,hlen]);refine ulk ?_;(repeat first|simp only[kV,simprocAttr,aa,hlen]|refine aN ?_);refine kp [1,6,7,8,34,35,36] ?_;(repeat first|simp only[kV,simprocAttr,aa,hlen]|refine aN ?_);refine kp [1,6,7,8,34,35,36,49,50,51] ?_;(repeat first|simp only[kV,simprocAttr,aa,hlen]|refine aN ?_);refine aB (ι:=Nat) (fun j=>j≤e.length∧∀k,k<j→0≤e.getD k 0∧e.getD k 0≤40) (fun j=>⟨ar [(1,.p (J n)),(6,.ptr 6 0 0),(7,.p (J i)),(8,.ptr 8 0 0),(34,.p (LTa T U l)),(35,.p (J l.length)),(36,.p (J i)),(49,.p (.list U 1 (e.map (D.int .i64)))),(50,.p (J n)),(51,.p (J j))],
    au [(6,⟨25,2,.box (.p (flt 0 0)),false⟩),(8,⟨83,2,.box (.p (.agg [.str c,.list U 1 (e.map (D.int .i64))])),false⟩)]⟩) (fun j=>e.length-j) 0 ⟨z9O _,fun k hk=>by omega⟩ (Sub.toG [1,6,7,8,34,35,36,49,50,51] [11,12]) ?_
   rintro j ⟨hj,hb⟩;by_cases h':j<e.length
   ·have hJ:(j:Int)<n:=by omega
    have hJ2:(j:Int)<(e.length:Int):=by omega
    have g2:=vH h';by_cases b1:e.getD j 0<0
    ·have hf:=l7 (t:=(c,e)) hlen h' (fun hh=>by simp only at hh;omega);rw[hf,if_neg (by decide)] at he;(repeat first|with_reducible refine kp [1,6,7,8,34,35,36,49,50,51,52] ?_|simp only[kV,simprocAttr,aa,hJ]|refine aN ?_);(try simp only[kV,simprocAttr,aa,hJ,hJ2,g2,h',b1]);refine ulk ?_;(repeat first|with_reducible refine kp [1,6,7,8,10,34,35,36,49,50,51,60] ?_|simp only[kV,simprocAttr,aa,hJ,hJ2,g2,h',b1]|refine aN ?_);refine ulk ?_;(repeat first|simp only[kV,simprocAttr,aa]|refine aN ?_);refine⟨_,cx (fD 7 i),ulc ?_⟩;(repeat first|with_reducible refine kp [6] ?_|simp only[kV,simprocAttr,aa,af,ai,aq,ah]|refine aN ?_);rw[←he]
    by_cases b2:40<e.getD j 0
    ·have hf:=l7 (t:=(c,e)) hlen h' (fun hh=>by simp only at hh;omega);rw[hf,if_neg (by decide)] at he;(repeat first|with_reducible refine kp [1,6,7,8,34,35,36,49,50,51,52] ?_|simp only[kV,simprocAttr,aa,hJ]|refine aN ?_);(try simp only[kV,simprocAttr,aa,hJ,hJ2,g2,h',b1,b2]);refine ulk ?_;(repeat first|with_reducible refine kp [1,6,7,8,10,34,35,36,49,50,51,60] ?_|simp only[kV,simprocAttr,aa,hJ,hJ2,g2,h',b1,b2]|refine aN ?_);refine ulk ?_;(repeat first|simp only[kV,simprocAttr,aa]|refine aN ?_);refine⟨_,cx (fD 7 i),ulc ?_⟩;(repeat first|with_reducible refine kp [6] ?_|simp only[kV,simprocAttr,aa,af,ai,aq,ah]|refine aN ?_);rw[←he]
    (repeat first|with_reducible refine kp [1,6,7,8,34,35,36,49,50,51,52] ?_|simp only[kV,simprocAttr,aa,hJ]|refine aN ?_);(try simp only[kV,simprocAttr,aa,hJ,hJ2,g2,h',b1,b2]);refine ulk ?_;(repeat first|with_reducible refine kp [1,6,7,8,10,34,35,36,49,50,51,60] ?_|simp only[kV,simprocAttr,aa,hJ,hJ2,g2,h',b1,b2]|refine aN ?_);refine ulk ?_;(repeat first|with_reducible refine kp [1,6,7,8,34,35,36,49,50,51] ?_|simp only[kV,simprocAttr,aa]|refine aN ?_);exact⟨j+1,⟨h',fun k hk=>by
     by_cases hkj:k<j
     ·exact hb k hkj
     ·obtain rfl:k=j:=by omega
      omega⟩,(Sub.toG [1,6,7,8,34,35,36,49,50,51] [11,12]),by omega⟩
   ·have hJ:¬ (j:Int)<n:=by omega
    have hf:=vL (t:=(c,e)) hlen (fun k hk=>hb k (by simp only at hk;omega));rw[hf] at he;(repeat first|with_reducible refine kp [1,6,7,8,34,35,36,49,50,51,52] ?_|simp only[kV,simprocAttr,aa,hJ]|refine aN ?_);refine ulk ?_;(repeat first|with_reducible refine kp [1,6,7,8,34,35,36] ?_|simp only[kV,simprocAttr,aa,hJ]|refine aN ?_);refine⟨_,cx (lY c hst),ulc ?_⟩;(repeat first|with_reducible refine kp [1,6,7,12,34,35,36,72] ?_|simp only[kV,simprocAttr,aa]|refine aN ?_);by_cases hc:cR c=0
    ·rw[if_pos hc] at he;refine⟨fun h1=>absurd h1 (by rw[hc];simp),fun _ => ?_⟩;(try simp only[kV,simprocAttr,aa]);refine ulk ?_;(repeat first|with_reducible refine kp [1,6,34,35,36] ?_|simp only[kV,simprocAttr,aa]|refine aN ?_);exact⟨i+1,⟨h,he⟩,(Sub.toG [1,6,34,35,36] [8,11,12]),by omega⟩
    ·rw[if_neg hc] at he;refine⟨fun _ => ?_,fun h1=>absurd h1 (by rw[z8R hc];simp)⟩;(try simp only[kV,simprocAttr,aa]);refine ulk ?_;(repeat first|simp only[kV,simprocAttr,aa]|refine aN ?_);refine⟨_,cx (fD (cR c) i),ulc ?_⟩;(repeat first|with_reducible refine kp [6] ?_|simp only[kV,simprocAttr,aa,af,ai,aq,ah]|refine aN ?_);rw[←he]
  ·have hf:=vK (t:=(c,e)) hlen;rw[hf,if_neg (by decide)] at he;(repeat first|with_reducible refine kp [1,6,34,35,36,37] ?_|simp only[kV,simprocAttr,aa,hI]|refine aN ?_);(try simp only[kV,simprocAttr,aa,hI,g1,h]);refine ulk ?_;(repeat first|with_reducible refine kp [1,6,7,8,34,35,36,45] ?_|simp only[kV,simprocAttr,aa,hI,g1,h]|refine aN ?_);(try simp only[kV,simprocAttr,aa,hlen]);refine ulk ?_;(repeat first|simp only[kV,simprocAttr,aa,hlen]|refine aN ?_);refine⟨_,cx (fD 8 i),ulc ?_⟩;(repeat first|with_reducible refine kp [6] ?_|simp only[kV,simprocAttr,aa,af,ai,aq,ah]|refine aN ?_);rw[←he]
 ·have hI:¬ (i:Int)<(l.length:Int):=by omega
  rw[z9l (by omega)] at he;(repeat first|with_reducible refine kp [1,6,34,35,36,37] ?_|simp only[kV,simprocAttr,aa,hI]|refine aN ?_);refine ulk ?_;(repeat first|with_reducible refine kp [6] ?_|simp only[kV,simprocAttr,aa,af,ai,aq,ah,hI]|refine aN ?_);rw[←he];rfl
end Go.Proofs.YtbnhgnhgbhjkcaaGreat.M
