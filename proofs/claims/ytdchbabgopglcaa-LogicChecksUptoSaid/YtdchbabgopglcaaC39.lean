/- Lemmas. -/
import Derived.Test.YtdchbabgopglcaaC38
import Derived.Test.YtdchbabgopglcaaC28
import Derived.Test.YtdchbabgopglcaaC22
set_option linter.defProp false
set_option linter.unusedSimpArgs false
set_option linter.unusedVariables false
namespace Go.Proofs.Ytdchbabgopglcaa.M
open Go.RowKit
set_option maxRecDepth 20000
set_option maxHeartbeats 2000000
theorem li:(((0:Int)+1=1∧(1:Int)+1=2)∧(2:Int)+1=3∧(3:Int)+1=4)∧(((3:Int)-1=2∧(2:Int)-1=1)∧(1:Int)-1=0∧(0:Int)-1 = -1)∧((((0:Int)<4∧(1:Int)<4)∧(2:Int)<4∧(3:Int)<4)∧¬ (4:Int)<4)∧((((0:Int)≤0∧(0:Int)≤1)∧(0:Int)≤2∧(0:Int)≤3)∧¬ (0:Int)≤-1)∧(Int.toNat 2=2∧Int.toNat 3=3):=by decide
theorem BD (x:Rat):(qI x).cells.length=4:=rfl
theorem BE (x:Rat):((qI x).cells.map AV.p).all AV.one=true:=rfl
def ai:=an @BD (an @BE (an li (an @Nat.mul_one (an @and_false (an @false_and (an @Nat.zero_add csM))))))
noncomputable def fT (n:Int) (t:At):Int:=if (t.2.length:Int)=n then (if ∀e∈t.2,0≤e∧e≤40 then cR t.1 else 7) else 8
noncomputable def fLs (n:Int):Nat→List At→Int×Int
 |_,[]=>(0,0)
 |i,t::l=>if fT n t=0 then fLs n (i+1) l else (fT n t,(i:Int))
noncomputable def fM (l:List At) (n ord:Int):Int×Int:=
 if n<1∨4<n then (7,0) else if ord<0∨2<ord then (11,0) else if 400<l.length then (9,0) else fLs n 0 l
def at0 (l:List At) (i:Nat):At:=l.getD i ([],[])
theorem eQ {l:List At}{i:Nat} (h:i<l.length):at0 l i∈l:=by unfold at0;rw[List.getD_eq_getElem?_getD,List.getElem?_eq_getElem h];exact List.getElem_mem h
theorem nO {l:List At}{i:Nat} (h:i<l.length):l.drop i=at0 l i::l.drop (i+1):=by rw[List.drop_eq_getElem_cons h];simp[at0,h]
theorem BF {l:List At}{i:Nat} (h:i<l.length):l.take (i+1)=l.take i++[at0 l i]:=by rw[List.take_succ_eq_append_getElem h];simp[at0,h]
theorem fK {U:Nat}{l:List At}{i:Nat} (h:i<l.length):(l.map (atD U)).getD i default = .agg [.str (at0 l i).1,.list U 1 ((at0 l i).2.map (D.int .i64))]:=by simp[at0,atD,h]
theorem eR {l:List Int}{i:Nat} (h:i<l.length):(l.map (D.int .i64)).getD i default = .int .i64 (l.getD i 0):=by simp[h]
theorem nQ {n:Int}:∀{l:List At}{i:Nat},(fLs n i l).1=0→fLs n i l=(0,0)∧∀t∈l,fT n t=0
 |[],_,_=>⟨rfl,fun _ h=>by cases h⟩
 |t::l,i,h=>by
  rw[fLs] at h ⊢;split at h
  ·rename_i h0;rw[if_pos h0];obtain⟨h1,h2⟩:=nQ h;exact⟨h1,fun x hx=>by
    rcases List.mem_cons.1 hx with rfl | hx
    ·exact h0
    ·exact h2 x hx⟩
  ·rename_i h0;exact absurd h h0
structure Gd (l:List At) (n ord:Int):Prop where
 n1:1≤n
 n4:n≤4
 o0:0≤ord
 o2:ord≤2
 len:l.length≤400
 ft:∀t∈l,fT n t=0
theorem BG {l:List At}{n ord:Int} (h:(fM l n ord).1=0):Gd l n ord:=by
 unfold fM at h;split at h
 ·cases h
 split at h
 ·cases h
 split at h
 ·cases h
 exact⟨by omega,by omega,by omega,by omega,by omega,(nQ h).2⟩
theorem BH {n:Int}{t:At} (h:fT n t=0):(t.2.length:Int)=n∧(∀e∈t.2,0≤e∧e≤40)∧cR t.1=0:=by
 unfold fT at h;split at h
 ·rename_i h1;split at h
  ·rename_i h2;exact⟨h1,h2,h⟩
  ·cases h
 ·cases h
theorem nS {n:Int}{t:At} (h:¬ (t.2.length:Int)=n):fT n t=8:=if_neg h
theorem jp {n:Int}{t:At} (h:(t.2.length:Int)=n){j:Nat} (hj:j<t.2.length) (hb:¬ (0≤t.2.getD j 0∧t.2.getD j 0≤40)):fT n t=7:=by
 unfold fT;rw[if_pos h,if_neg (fun hh=>hb (hh _ (by rw[List.getD_eq_getElem?_getD,List.getElem?_eq_getElem hj];exact List.getElem_mem hj)))]
theorem nT {n:Int}{t:At} (h:(t.2.length:Int)=n) (hb:∀j,j<t.2.length→0≤t.2.getD j 0∧t.2.getD j 0≤40):fT n t=cR t.1:=by
 unfold fT;rw[if_pos h,if_pos fun e he=>by
  obtain⟨j,hj,rfl⟩:=List.mem_iff_getElem.1 he;have:=hb j hj;rw[List.getD_eq_getElem?_getD,List.getElem?_eq_getElem hj] at this;exact this]
theorem ep {A:List TypeId} (c a:Int):Con Try.prog A 28 [J c,J a] (flt c a):=by
 refine Con.mono (A:=[]) ?_ (by simp);refine Dj.con rfl (by simp) ?_;(repeat first|with_reducible refine kp [0,1,4] ?_|simp only[kV,simprocAttr,ai,aw,ac,af,ae,ah]|refine aN ?_)
theorem cz {A:List TypeId} (c a:Int):Con Try.prog A 17 [J c,J a] (flt c a):=by
 refine Con.mono (A:=[]) ?_ (by simp);refine BV.con rfl (by simp) ?_;(repeat first|with_reducible refine kp [0,1,4] ?_|simp only[kV,simprocAttr,ai,aw,ac,af,ae,ah]|refine aN ?_)
theorem nU (T U:Nat) (l:List At) (n ord:Int) (hl:l.length≤9223372036854775807) (hs:∀t∈l,t.1.length≤9223372036854775807) :
  Con Try.prog AN 26 [LTa T U l,J n,J ord] (flt (fM l n ord).1 (fM l n ord).2):=by
 by_cases n1:n<1
 ·have e:fM l n ord=(7,0):=if_pos (.inl n1);rw[e];refine gA.con rfl (by simp) ?_;(repeat first|with_reducible refine kp [0,1,2,6,13] ?_|simp only[kV,simprocAttr,ai,dj,n1]|refine aN ?_);refine ulk ?_;(repeat first|simp only[kV,simprocAttr,ai,n1]|refine aN ?_);refine⟨_,cx (ep 7 0),ulc ?_⟩;(repeat first|with_reducible refine kp [6] ?_|simp only[kV,simprocAttr,ai,ac,af,ae,ah]|refine aN ?_)
 by_cases n2:4<n
 ·have e:fM l n ord=(7,0):=if_pos (.inr n2);rw[e];refine gA.con rfl (by simp) ?_;(repeat first|with_reducible refine kp [0,1,2,6,13] ?_|simp only[kV,simprocAttr,ai,dj,n1,n2]|refine aN ?_);refine ulk ?_;(repeat first|simp only[kV,simprocAttr,ai,n1]|refine aN ?_);refine⟨_,cx (ep 7 0),ulc ?_⟩;(repeat first|with_reducible refine kp [6] ?_|simp only[kV,simprocAttr,ai,ac,af,ae,ah]|refine aN ?_)
 by_cases o1:ord<0
 ·have e:fM l n ord=(11,0):=by unfold fM;rw[if_neg (by omega),if_pos (.inl o1)]
  rw[e];refine gA.con rfl (by simp) ?_;(repeat first|with_reducible refine kp [0,1,2,6,13] ?_|simp only[kV,simprocAttr,ai,dj,n1,n2]|refine aN ?_);(try simp only[kV,simprocAttr,ai,o1]);refine ulk ?_;(repeat first|with_reducible refine kp [0,1,6,21] ?_|simp only[kV,simprocAttr,ai,o1]|refine aN ?_);refine ulk ?_;(repeat first|simp only[kV,simprocAttr,ai,o1]|refine aN ?_);refine⟨_,cx (ep 11 0),ulc ?_⟩;(repeat first|with_reducible refine kp [6] ?_|simp only[kV,simprocAttr,ai,ac,af,ae,ah]|refine aN ?_)
 by_cases o2:2<ord
 ·have e:fM l n ord=(11,0):=by unfold fM;rw[if_neg (by omega),if_pos (.inr o2)]
  rw[e];refine gA.con rfl (by simp) ?_;(repeat first|with_reducible refine kp [0,1,2,6,13] ?_|simp only[kV,simprocAttr,ai,dj,n1,n2]|refine aN ?_);(try simp only[kV,simprocAttr,ai,o1,o2]);refine ulk ?_;(repeat first|with_reducible refine kp [0,1,6,21] ?_|simp only[kV,simprocAttr,ai,o1,o2]|refine aN ?_);refine ulk ?_;(repeat first|simp only[kV,simprocAttr,ai,o1]|refine aN ?_);refine⟨_,cx (ep 11 0),ulc ?_⟩;(repeat first|with_reducible refine kp [6] ?_|simp only[kV,simprocAttr,ai,ac,af,ae,ah]|refine aN ?_)
 by_cases h4:400<l.length
 ·have e:fM l n ord=(9,0):=by unfold fM;rw[if_neg (by omega),if_neg (by omega),if_pos h4]
  have h4I:(400:Int)<(l.length:Int):=by omega
  rw[e];refine gA.con rfl (by simp) ?_;(repeat first|with_reducible refine kp [0,1,2,6,13] ?_|simp only[kV,simprocAttr,ai,dj,n1,n2]|refine aN ?_);(try simp only[kV,simprocAttr,ai,o1,o2]);refine ulk ?_;(repeat first|with_reducible refine kp [0,1,6,21] ?_|simp only[kV,simprocAttr,ai,o1,o2]|refine aN ?_);(try simp only[kV,simprocAttr,ai,h4I]);refine ulk ?_;(repeat first|with_reducible refine kp [0,1,6,29] ?_|simp only[kV,simprocAttr,ai,h4I]|refine aN ?_);refine ulk ?_;(repeat first|simp only[kV,simprocAttr,ai,h4I]|refine aN ?_);refine⟨_,cx (ep 9 0),ulc ?_⟩;(repeat first|with_reducible refine kp [6] ?_|simp only[kV,simprocAttr,ai,ac,af,ae,ah]|refine aN ?_)
 have e:fM l n ord=fLs n 0 l:=by unfold fM;rw[if_neg (by omega),if_neg (by omega),if_neg h4]
 have h4I:¬ (400:Int)<(l.length:Int):=by omega
 rw[e];refine gA.con rfl (by simp) ?_;(repeat first|with_reducible refine kp [0,1,2,6,13] ?_|simp only[kV,simprocAttr,ai,dj,n1,n2]|refine aN ?_);(try simp only[kV,simprocAttr,ai,o1,o2]);refine ulk ?_;(repeat first|with_reducible refine kp [0,1,6,21] ?_|simp only[kV,simprocAttr,ai,o1,o2]|refine aN ?_);(try simp only[kV,simprocAttr,ai,h4I]);refine ulk ?_;(repeat first|with_reducible refine kp [0,1,6,29] ?_|simp only[kV,simprocAttr,ai,h4I]|refine aN ?_);refine ulk ?_;(repeat first|simp only[kV,simprocAttr,ai,h4I]|refine aN ?_);refine kp [0,1,6] ?_;(repeat first|simp only[kV,simprocAttr,ai,h4I]|refine aN ?_);refine kp [1,6,34,35,36] ?_;(repeat first|simp only[kV,simprocAttr,ai,h4I]|refine aN ?_);refine aY (ι:=Nat) (fun i=>i≤l.length∧fLs n i (l.drop i)=fLs n 0 l) (fun i=>⟨av [(1,.p (J n)),(6,.ptr 6 0 0),(34,.p (LTa T U l)),(35,.p (J l.length)),(36,.p (J i))],
  az [(6,⟨28,2,.box (.p (flt 0 0)),false⟩)]⟩) (fun i=>l.length-i) 0 ⟨Nat.zero_le _,rfl⟩ (Sub.toG [1,6,34,35,36] [8,11,12]) ?_
 rintro i ⟨hi,he⟩;by_cases h:i<l.length
 ·have hI:(i:Int)<(l.length:Int):=by omega
  have g1:=fK (U:=U) h;have hst:=hs _ (eQ h);rw[nO h,fLs] at he;generalize at0 l i=t at *;obtain⟨c,e⟩:=t;by_cases hlen:(e.length:Int)=n
  ·(repeat first|with_reducible refine kp [1,6,34,35,36,37] ?_|simp only[kV,simprocAttr,ai,hI]|refine aN ?_);(try simp only[kV,simprocAttr,ai,hI,g1,h]);refine ulk ?_;(repeat first|with_reducible refine kp [1,6,7,8,34,35,36,45] ?_|simp only[kV,simprocAttr,ai,hI,g1,h]|refine aN ?_);(try simp only[kV,simprocAttr,ai,hlen]);refine ulk ?_;(repeat first|simp only[kV,simprocAttr,ai,hlen]|refine aN ?_);refine kp [1,6,7,8,34,35,36] ?_;(repeat first|simp only[kV,simprocAttr,ai,hlen]|refine aN ?_);refine kp [1,6,7,8,34,35,36,49,50,51] ?_;(repeat first|simp only[kV,simprocAttr,ai,hlen]|refine aN ?_);refine aY (ι:=Nat) (fun j=>j≤e.length∧∀k,k<j→0≤e.getD k 0∧e.getD k 0≤40) (fun j=>⟨av [(1,.p (J n)),(6,.ptr 6 0 0),(7,.p (J i)),(8,.ptr 8 0 0),(34,.p (LTa T U l)),(35,.p (J l.length)),(36,.p (J i)),(49,.p (.list U 1 (e.map (D.int .i64)))),(50,.p (J n)),(51,.p (J j))],
    az [(6,⟨28,2,.box (.p (flt 0 0)),false⟩),(8,⟨39,2,.box (.p (.agg [.str c,.list U 1 (e.map (D.int .i64))])),false⟩)]⟩) (fun j=>e.length-j) 0 ⟨Nat.zero_le _,fun k hk=>by omega⟩ (Sub.toG [1,6,7,8,34,35,36,49,50,51] [11,12]) ?_
   rintro j ⟨hj,hb⟩;by_cases h':j<e.length
   ·have hJ:(j:Int)<n:=by omega
    have hJ2:(j:Int)<(e.length:Int):=by omega
    have g2:=eR h';by_cases b1:e.getD j 0<0
    ·have hf:=jp (t:=(c,e)) hlen h' (fun hh=>by simp only at hh;omega);rw[hf,if_neg (by decide)] at he;(repeat first|with_reducible refine kp [1,6,7,8,34,35,36,49,50,51,52] ?_|simp only[kV,simprocAttr,ai,hJ]|refine aN ?_);(try simp only[kV,simprocAttr,ai,hJ,hJ2,g2,h',b1]);refine ulk ?_;(repeat first|with_reducible refine kp [1,6,7,8,10,34,35,36,49,50,51,60] ?_|simp only[kV,simprocAttr,ai,hJ,hJ2,g2,h',b1]|refine aN ?_);refine ulk ?_;(repeat first|simp only[kV,simprocAttr,ai]|refine aN ?_);refine⟨_,cx (ep 7 i),ulc ?_⟩;(repeat first|with_reducible refine kp [6] ?_|simp only[kV,simprocAttr,ai,ac,af,ae,ah]|refine aN ?_);rw[←he]
    by_cases b2:40<e.getD j 0
    ·have hf:=jp (t:=(c,e)) hlen h' (fun hh=>by simp only at hh;omega);rw[hf,if_neg (by decide)] at he;(repeat first|with_reducible refine kp [1,6,7,8,34,35,36,49,50,51,52] ?_|simp only[kV,simprocAttr,ai,hJ]|refine aN ?_);(try simp only[kV,simprocAttr,ai,hJ,hJ2,g2,h',b1,b2]);refine ulk ?_;(repeat first|with_reducible refine kp [1,6,7,8,10,34,35,36,49,50,51,60] ?_|simp only[kV,simprocAttr,ai,hJ,hJ2,g2,h',b1,b2]|refine aN ?_);refine ulk ?_;(repeat first|simp only[kV,simprocAttr,ai]|refine aN ?_);refine⟨_,cx (ep 7 i),ulc ?_⟩;(repeat first|with_reducible refine kp [6] ?_|simp only[kV,simprocAttr,ai,ac,af,ae,ah]|refine aN ?_);rw[←he]
    (repeat first|with_reducible refine kp [1,6,7,8,34,35,36,49,50,51,52] ?_|simp only[kV,simprocAttr,ai,hJ]|refine aN ?_);(try simp only[kV,simprocAttr,ai,hJ,hJ2,g2,h',b1,b2]);refine ulk ?_;(repeat first|with_reducible refine kp [1,6,7,8,10,34,35,36,49,50,51,60] ?_|simp only[kV,simprocAttr,ai,hJ,hJ2,g2,h',b1,b2]|refine aN ?_);refine ulk ?_;(repeat first|with_reducible refine kp [1,6,7,8,34,35,36,49,50,51] ?_|simp only[kV,simprocAttr,ai]|refine aN ?_);exact⟨j+1,⟨h',fun k hk=>by
     by_cases hkj:k<j
     ·exact hb k hkj
     ·obtain rfl:k=j:=by omega
      omega⟩,(Sub.toG [1,6,7,8,34,35,36,49,50,51] [11,12]),by omega⟩
   ·have hJ:¬ (j:Int)<n:=by omega
    have hf:=nT (t:=(c,e)) hlen (fun k hk=>hb k (by simp only at hk;omega));rw[hf] at he;(repeat first|with_reducible refine kp [1,6,7,8,34,35,36,49,50,51,52] ?_|simp only[kV,simprocAttr,ai,hJ]|refine aN ?_);refine ulk ?_;(repeat first|with_reducible refine kp [1,6,7,8,34,35,36] ?_|simp only[kV,simprocAttr,ai,hJ]|refine aN ?_);refine⟨_,cx (yh c hst),ulc ?_⟩;(repeat first|with_reducible refine kp [1,6,7,12,34,35,36,72] ?_|simp only[kV,simprocAttr,ai]|refine aN ?_);by_cases hc:cR c=0
    ·rw[if_pos hc] at he;refine⟨fun h1=>absurd h1 (by rw[hc];simp),fun _ => ?_⟩;(try simp only[kV,simprocAttr,ai]);refine ulk ?_;(repeat first|with_reducible refine kp [1,6,34,35,36] ?_|simp only[kV,simprocAttr,ai]|refine aN ?_);exact⟨i+1,⟨h,he⟩,(Sub.toG [1,6,34,35,36] [8,11,12]),by omega⟩
    ·rw[if_neg hc] at he;refine⟨fun _ => ?_,fun h1=>absurd h1 (by rw[decide_eq_false hc];simp)⟩;(try simp only[kV,simprocAttr,ai]);refine ulk ?_;(repeat first|simp only[kV,simprocAttr,ai]|refine aN ?_);refine⟨_,cx (ep (cR c) i),ulc ?_⟩;(repeat first|with_reducible refine kp [6] ?_|simp only[kV,simprocAttr,ai,ac,af,ae,ah]|refine aN ?_);rw[←he]
  ·have hf:=nS (t:=(c,e)) hlen;rw[hf,if_neg (by decide)] at he;(repeat first|with_reducible refine kp [1,6,34,35,36,37] ?_|simp only[kV,simprocAttr,ai,hI]|refine aN ?_);(try simp only[kV,simprocAttr,ai,hI,g1,h]);refine ulk ?_;(repeat first|with_reducible refine kp [1,6,7,8,34,35,36,45] ?_|simp only[kV,simprocAttr,ai,hI,g1,h]|refine aN ?_);(try simp only[kV,simprocAttr,ai,hlen]);refine ulk ?_;(repeat first|simp only[kV,simprocAttr,ai,hlen]|refine aN ?_);refine⟨_,cx (ep 8 i),ulc ?_⟩;(repeat first|with_reducible refine kp [6] ?_|simp only[kV,simprocAttr,ai,ac,af,ae,ah]|refine aN ?_);rw[←he]
 ·have hI:¬ (i:Int)<(l.length:Int):=by omega
  rw[List.drop_of_length_le (by omega)] at he;(repeat first|with_reducible refine kp [1,6,34,35,36,37] ?_|simp only[kV,simprocAttr,ai,hI]|refine aN ?_);refine ulk ?_;(repeat first|with_reducible refine kp [6] ?_|simp only[kV,simprocAttr,ai,ac,af,ae,ah,hI]|refine aN ?_);rw[←he];rfl
theorem aB (x:Rat):(qZ x).cells.length=4:=rfl
theorem aC (x:Rat):((qZ x).cells.map AV.p).all AV.one=true:=rfl
theorem nV (T U:Nat) (l:List At) (n ord:Int) (hl:l.length≤9223372036854775807) (hs:∀t∈l,t.1.length≤9223372036854775807) :
  Con Try.prog AN 27 [LTa T U l,J n,J ord] (flt (fM l n ord).1 (fM l n ord).2):=by
 by_cases n1:n<1
 ·have e:fM l n ord=(7,0):=if_pos (.inl n1);rw[e];refine gz.con rfl (by simp) ?_;(repeat first|with_reducible refine kp [0,1,2,6,16] ?_|simp only[kV,simprocAttr,ai,ai,aB,aC,dj,n1]|refine aN ?_);refine ulk ?_;(repeat first|simp only[kV,simprocAttr,ai,ai,aB,aC,n1]|refine aN ?_);refine⟨_,cx (cz 7 0),ulc ?_⟩;(repeat first|with_reducible refine kp [6] ?_|simp only[kV,simprocAttr,ai,ai,aB,aC,ac,af,ae,ah]|refine aN ?_)
 by_cases n2:4<n
 ·have e:fM l n ord=(7,0):=if_pos (.inr n2);rw[e];refine gz.con rfl (by simp) ?_;(repeat first|with_reducible refine kp [0,1,2,6,16] ?_|simp only[kV,simprocAttr,ai,ai,aB,aC,dj,n1,n2]|refine aN ?_);refine ulk ?_;(repeat first|simp only[kV,simprocAttr,ai,ai,aB,aC,n1]|refine aN ?_);refine⟨_,cx (cz 7 0),ulc ?_⟩;(repeat first|with_reducible refine kp [6] ?_|simp only[kV,simprocAttr,ai,ai,aB,aC,ac,af,ae,ah]|refine aN ?_)
 by_cases o1:ord<0
 ·have e:fM l n ord=(11,0):=by unfold fM;rw[if_neg (by omega),if_pos (.inl o1)]
  rw[e];refine gz.con rfl (by simp) ?_;(repeat first|with_reducible refine kp [0,1,2,6,16] ?_|simp only[kV,simprocAttr,ai,ai,aB,aC,dj,n1,n2]|refine aN ?_);(try simp only[kV,simprocAttr,ai,ai,aB,aC,o1]);refine ulk ?_;(repeat first|with_reducible refine kp [0,1,2,6,23] ?_|simp only[kV,simprocAttr,ai,ai,aB,aC,o1]|refine aN ?_);refine ulk ?_;(repeat first|simp only[kV,simprocAttr,ai,ai,aB,aC,o1]|refine aN ?_);refine⟨_,cx (cz 11 0),ulc ?_⟩;(repeat first|with_reducible refine kp [6] ?_|simp only[kV,simprocAttr,ai,ai,aB,aC,ac,af,ae,ah]|refine aN ?_)
 by_cases o2:2<ord
 ·have e:fM l n ord=(11,0):=by unfold fM;rw[if_neg (by omega),if_pos (.inr o2)]
  rw[e];refine gz.con rfl (by simp) ?_;(repeat first|with_reducible refine kp [0,1,2,6,16] ?_|simp only[kV,simprocAttr,ai,ai,aB,aC,dj,n1,n2]|refine aN ?_);(try simp only[kV,simprocAttr,ai,ai,aB,aC,o1,o2]);refine ulk ?_;(repeat first|with_reducible refine kp [0,1,2,6,23] ?_|simp only[kV,simprocAttr,ai,ai,aB,aC,o1,o2]|refine aN ?_);refine ulk ?_;(repeat first|simp only[kV,simprocAttr,ai,ai,aB,aC,o1]|refine aN ?_);refine⟨_,cx (cz 11 0),ulc ?_⟩;(repeat first|with_reducible refine kp [6] ?_|simp only[kV,simprocAttr,ai,ai,aB,aC,ac,af,ae,ah]|refine aN ?_)
 by_cases h4:400<l.length
 ·have e:fM l n ord=(9,0):=by unfold fM;rw[if_neg (by omega),if_neg (by omega),if_pos h4]
  have h4I:(400:Int)<(l.length:Int):=by omega
  rw[e];refine gz.con rfl (by simp) ?_;(repeat first|with_reducible refine kp [0,1,2,6,16] ?_|simp only[kV,simprocAttr,ai,ai,aB,aC,dj,n1,n2]|refine aN ?_);(try simp only[kV,simprocAttr,ai,ai,aB,aC,o1,o2]);refine ulk ?_;(repeat first|with_reducible refine kp [0,1,2,6,23] ?_|simp only[kV,simprocAttr,ai,ai,aB,aC,o1,o2]|refine aN ?_);(try simp only[kV,simprocAttr,ai,ai,aB,aC,h4I]);refine ulk ?_;(repeat first|with_reducible refine kp [0,1,6,27] ?_|simp only[kV,simprocAttr,ai,ai,aB,aC,h4I]|refine aN ?_);refine ulk ?_;(repeat first|simp only[kV,simprocAttr,ai,ai,aB,aC,h4I]|refine aN ?_);refine⟨_,cx (cz 9 0),ulc ?_⟩;(repeat first|with_reducible refine kp [6] ?_|simp only[kV,simprocAttr,ai,ai,aB,aC,ac,af,ae,ah]|refine aN ?_)
 have e:fM l n ord=fLs n 0 l:=by unfold fM;rw[if_neg (by omega),if_neg (by omega),if_neg h4]
 have h4I:¬ (400:Int)<(l.length:Int):=by omega
 rw[e];refine gz.con rfl (by simp) ?_;(repeat first|with_reducible refine kp [0,1,2,6,16] ?_|simp only[kV,simprocAttr,ai,ai,aB,aC,dj,n1,n2]|refine aN ?_);(try simp only[kV,simprocAttr,ai,ai,aB,aC,o1,o2]);refine ulk ?_;(repeat first|with_reducible refine kp [0,1,2,6,23] ?_|simp only[kV,simprocAttr,ai,ai,aB,aC,o1,o2]|refine aN ?_);(try simp only[kV,simprocAttr,ai,ai,aB,aC,h4I]);refine ulk ?_;(repeat first|with_reducible refine kp [0,1,6,27] ?_|simp only[kV,simprocAttr,ai,ai,aB,aC,h4I]|refine aN ?_);refine ulk ?_;(repeat first|simp only[kV,simprocAttr,ai,ai,aB,aC,h4I]|refine aN ?_);refine kp [0,1,6] ?_;(repeat first|simp only[kV,simprocAttr,ai,ai,aB,aC,h4I]|refine aN ?_);refine kp [0,1,6,7] ?_;(repeat first|simp only[kV,simprocAttr,ai,ai,aB,aC,h4I]|refine aN ?_);refine aY (ι:=Nat) (fun i=>i≤l.length∧fLs n i (l.drop i)=fLs n 0 l) (fun i=>⟨av [(0,.p (LTa T U l)),(1,.p (J n)),(6,.ptr 6 0 0),(7,.p (J i))],
  az [(6,⟨28,2,.box (.p (flt 0 0)),false⟩)]⟩) (fun i=>l.length-i) 0 ⟨Nat.zero_le _,rfl⟩ (Sub.toG [0,1,6,7] [9,10]) ?_
 rintro i ⟨hi,he⟩;by_cases h:i<l.length
 ·have hI:(i:Int)<(l.length:Int):=by omega
  have g1:=fK (U:=U) h;have hst:=hs _ (eQ h);rw[nO h,fLs] at he;generalize at0 l i=t at *;obtain⟨c,e⟩:=t;by_cases hlen:(e.length:Int)=n
  ·(repeat first|with_reducible refine kp [0,1,6,7,32] ?_|simp only[kV,simprocAttr,ai,ai,aB,aC,hI]|refine aN ?_);(try simp only[kV,simprocAttr,ai,ai,aB,aC,hI,g1,h]);refine ulk ?_;(repeat first|with_reducible refine kp [0,1,6,7,42] ?_|simp only[kV,simprocAttr,ai,ai,aB,aC,hI,g1,h]|refine aN ?_);(try simp only[kV,simprocAttr,ai,ai,aB,aC,hlen]);refine ulk ?_;(repeat first|simp only[kV,simprocAttr,ai,ai,aB,aC,hlen]|refine aN ?_);refine kp [0,1,6,7] ?_;(repeat first|simp only[kV,simprocAttr,ai,ai,aB,aC,hlen]|refine aN ?_);refine kp [0,1,6,7,8] ?_;(repeat first|simp only[kV,simprocAttr,ai,ai,aB,aC,hlen]|refine aN ?_);refine aY (ι:=Nat) (fun j=>j≤e.length∧∀k,k<j→0≤e.getD k 0∧e.getD k 0≤40) (fun j=>⟨av [(0,.p (LTa T U l)),(1,.p (J n)),(6,.ptr 6 0 0),(7,.p (J i)),(8,.p (J j))],
    az [(6,⟨28,2,.box (.p (flt 0 0)),false⟩)]⟩) (fun j=>e.length-j) 0 ⟨Nat.zero_le _,fun k hk=>by omega⟩ (Sub.toG [0,1,6,7,8] [9,10]) ?_
   rintro j ⟨hj,hb⟩;by_cases h':j<e.length
   ·have hJ:(j:Int)<n:=by omega
    have hJ2:(j:Int)<(e.length:Int):=by omega
    have g2:=eR h';by_cases b1:e.getD j 0<0
    ·have hf:=jp (t:=(c,e)) hlen h' (fun hh=>by simp only at hh;omega);rw[hf,if_neg (by decide)] at he;(repeat first|with_reducible refine kp [0,1,6,7,8,47] ?_|simp only[kV,simprocAttr,ai,ai,aB,aC,hJ]|refine aN ?_);(try simp only[kV,simprocAttr,ai,ai,aB,aC,hI,g1,h,hJ,hJ2,g2,h',b1]);refine ulk ?_;(repeat first|with_reducible refine kp [0,1,6,7,8,69] ?_|simp only[kV,simprocAttr,ai,ai,aB,aC,hI,g1,h,hJ,hJ2,g2,h',b1]|refine aN ?_);refine ulk ?_;(repeat first|simp only[kV,simprocAttr,ai,ai,aB,aC,b1]|refine aN ?_);refine⟨_,cx (cz 7 i),ulc ?_⟩;(repeat first|with_reducible refine kp [6] ?_|simp only[kV,simprocAttr,ai,ai,aB,aC,ac,af,ae,ah]|refine aN ?_);rw[←he]
    by_cases b2:40<e.getD j 0
    ·have hf:=jp (t:=(c,e)) hlen h' (fun hh=>by simp only at hh;omega);rw[hf,if_neg (by decide)] at he;(repeat first|with_reducible refine kp [0,1,6,7,8,47] ?_|simp only[kV,simprocAttr,ai,ai,aB,aC,hJ]|refine aN ?_);(try simp only[kV,simprocAttr,ai,ai,aB,aC,hI,g1,h,hJ,hJ2,g2,h',b1,b2]);refine ulk ?_;(repeat first|with_reducible refine kp [0,1,6,7,8,69] ?_|simp only[kV,simprocAttr,ai,ai,aB,aC,hI,g1,h,hJ,hJ2,g2,h',b1,b2]|refine aN ?_);refine ulk ?_;(repeat first|simp only[kV,simprocAttr,ai,ai,aB,aC,b1]|refine aN ?_);refine⟨_,cx (cz 7 i),ulc ?_⟩;(repeat first|with_reducible refine kp [6] ?_|simp only[kV,simprocAttr,ai,ai,aB,aC,ac,af,ae,ah]|refine aN ?_);rw[←he]
    (repeat first|with_reducible refine kp [0,1,6,7,8,47] ?_|simp only[kV,simprocAttr,ai,ai,aB,aC,hJ]|refine aN ?_);(try simp only[kV,simprocAttr,ai,ai,aB,aC,hI,g1,h,hJ,hJ2,g2,h',b1,b2]);refine ulk ?_;(repeat first|with_reducible refine kp [0,1,6,7,8,69] ?_|simp only[kV,simprocAttr,ai,ai,aB,aC,hI,g1,h,hJ,hJ2,g2,h',b1,b2]|refine aN ?_);refine ulk ?_;(repeat first|with_reducible refine kp [0,1,6,7,8] ?_|simp only[kV,simprocAttr,ai,ai,aB,aC]|refine aN ?_);exact⟨j+1,⟨h',fun k hk=>by
     by_cases hkj:k<j
     ·exact hb k hkj
     ·obtain rfl:k=j:=by omega
      omega⟩,(Sub.toG [0,1,6,7,8] [9,10]),by omega⟩
   ·have hJ:¬ (j:Int)<n:=by omega
    have hf:=nT (t:=(c,e)) hlen (fun k hk=>hb k (by simp only at hk;omega));rw[hf] at he;(repeat first|with_reducible refine kp [0,1,6,7,8,47] ?_|simp only[kV,simprocAttr,ai,ai,aB,aC,hJ]|refine aN ?_);(try simp only[kV,simprocAttr,ai,ai,aB,aC,hJ,hI,g1,h]);refine ulk ?_;(repeat first|with_reducible refine kp [0,1,6,7] ?_|simp only[kV,simprocAttr,ai,ai,aB,aC,hJ,hI,g1,h]|refine aN ?_);refine⟨_,cx (yi c hst),ulc ?_⟩;(repeat first|with_reducible refine kp [0,1,6,7,10,83] ?_|simp only[kV,simprocAttr,ai,ai,aB,aC]|refine aN ?_);by_cases hc:cR c=0
    ·rw[if_pos hc] at he;refine⟨fun h1=>absurd h1 (by rw[hc];simp),fun _ => ?_⟩;(try simp only[kV,simprocAttr,ai,ai,aB,aC]);refine ulk ?_;(repeat first|with_reducible refine kp [0,1,6,7] ?_|simp only[kV,simprocAttr,ai,ai,aB,aC]|refine aN ?_);exact⟨i+1,⟨h,he⟩,(Sub.toG [0,1,6,7] [9,10]),by omega⟩
    ·rw[if_neg hc] at he;refine⟨fun _ => ?_,fun h1=>absurd h1 (by rw[decide_eq_false hc];simp)⟩;(try simp only[kV,simprocAttr,ai,ai,aB,aC]);refine ulk ?_;(repeat first|simp only[kV,simprocAttr,ai,ai,aB,aC]|refine aN ?_);refine⟨_,cx (cz (cR c) i),ulc ?_⟩;(repeat first|with_reducible refine kp [6] ?_|simp only[kV,simprocAttr,ai,ai,aB,aC,ac,af,ae,ah]|refine aN ?_);rw[←he]
  ·have hf:=nS (t:=(c,e)) hlen;rw[hf,if_neg (by decide)] at he;(repeat first|with_reducible refine kp [0,1,6,7,32] ?_|simp only[kV,simprocAttr,ai,ai,aB,aC,hI]|refine aN ?_);(try simp only[kV,simprocAttr,ai,ai,aB,aC,hI,g1,h]);refine ulk ?_;(repeat first|with_reducible refine kp [0,1,6,7,42] ?_|simp only[kV,simprocAttr,ai,ai,aB,aC,hI,g1,h]|refine aN ?_);(try simp only[kV,simprocAttr,ai,ai,aB,aC,hlen]);refine ulk ?_;(repeat first|simp only[kV,simprocAttr,ai,ai,aB,aC,hlen]|refine aN ?_);refine⟨_,cx (cz 8 i),ulc ?_⟩;(repeat first|with_reducible refine kp [6] ?_|simp only[kV,simprocAttr,ai,ai,aB,aC,ac,af,ae,ah]|refine aN ?_);rw[←he]
 ·have hI:¬ (i:Int)<(l.length:Int):=by omega
  rw[List.drop_of_length_le (by omega)] at he;(repeat first|with_reducible refine kp [0,1,6,7,32] ?_|simp only[kV,simprocAttr,ai,ai,aB,aC,hI]|refine aN ?_);refine ulk ?_;(repeat first|with_reducible refine kp [6] ?_|simp only[kV,simprocAttr,ai,ai,aB,aC,ac,af,ae,ah,hI]|refine aN ?_);rw[←he];rfl
end Go.Proofs.Ytdchbabgopglcaa.M
