/- Lemmas. -/
import Derived.Test.YtbnhgnhgbhjkcaaGreatQ1
import Derived.BigQuiet
import Derived.Deep.QuietTactic
import Derived.Deep.RegionHeld3
import Derived.Test.YtbnhgnhgbhjkcaaGreatQ2
namespace Go.Proofs.YtbnhgnhgbhjkcaaGreat.Mp
set_option linter.unusedSimpArgs false
def Wd (n:Nat) (l:TL):Prop:=∀x∈l,x.2.length=n
theorem Wd.tail {n:Nat}{x:Rat×Mo}{l:TL} (h:Wd n (x::l)):Wd n l:=fun y hy=>h y (z9T _ hy)
theorem Wd.perm {n:Nat}{l m:TL} (h:Wd n l) (p:m.Perm l):Wd n m:=fun x hx=>h x (p.mem_iff.1 hx)
def ins (ord:Int) (t:Rat×Mo):TL→TL
 |[]=>if t.1=0 then [] else [t]
 |x::l=>if t.2=x.2 then (if x.1+t.1=0 then l else (x.1+t.1,x.2)::l)
  else if ahead ord t.2 x.2=true then (if t.1=0 then x::l else t::x::l) else x::ins ord t l
def canon (ord:Int):TL→TL
 |[]=>[]
 |t::l=>ins ord t (canon ord l)
theorem cf_cons (x:Rat×Mo) (l:TL) (e:Mo):cf (x::l) e=(if x.2=e then x.1 else 0)+cf l e:=by
 unfold cf;rw[Sf];split<;>grind
theorem cf_nil (e:Mo):cf [] e=0:=rfl
theorem p7 (ord:Int) (t:Rat×Mo):∀(l:TL) (e:Mo),cf (ins ord t l) e=cf (t::l) e
 |[],e=>by
  unfold ins;split
  ·rw[cf_cons,cf_nil];split<;>grind
  ·rfl
 |x::l,e=>by
  unfold ins;split
  ·rename_i h;split
   ·rw[cf_cons,cf_cons,h];split<;>grind
   ·rw[cf_cons,cf_cons,cf_cons,h];split<;>grind
  ·split
   ·split
    ·rw[cf_cons t];split<;>grind
    ·rfl
   ·rw[cf_cons,p7 ord t l e,cf_cons,cf_cons t,cf_cons x];grind
theorem j7 {ord:Int}{t:Rat×Mo}:∀{l:TL}{y:Rat×Mo},y∈ins ord t l→(y.2=t.2∨y∈l)
 |[],y,h=>by
  unfold ins at h;split at h
  ·cases h
  ·rcases z9L.1 h with rfl | h
   ·exact .inl rfl
   ·cases h
 |x::l,y,h=>by
  unfold ins at h;split at h
  ·rename_i e;split at h
   ·exact .inr (z9T _ h)
   ·rcases z9L.1 h with rfl | h
    ·exact .inl e.symm
    ·exact .inr (z9T _ h)
  ·split at h
   ·split at h
    ·exact .inr h
    ·rcases z9L.1 h with rfl | h
     ·exact .inl rfl
     ·exact .inr h
   ·rcases z9L.1 h with rfl | h
    ·exact .inr z9X
    ·rcases j7 h with h | h
     ·exact .inl h
     ·exact .inr (z9T _ h)
theorem p8 {ord:Int}{n:Nat}{t:Rat×Mo} (ht:t.2.length=n):∀{l:TL},Can ord l→Wd n l→Can ord (ins ord t l)
 |[],_,_=>by
  unfold ins;split
  ·exact⟨.nil,by simp⟩
  ·rename_i h;exact⟨by simp,by simpa using h⟩
 |x::l,h,hw=>by
  have hs:=z9g.1 h.so;unfold ins;split
  ·split
   ·exact h.tail
   ·rename_i h0;exact⟨z9g.2 ⟨hs.1,hs.2⟩,fun y hy=>by
     rcases z9L.1 hy with rfl | hy
     ·exact h0
     ·exact h.nz y (z9T _ hy)⟩
  ·rename_i hne;split
   ·rename_i ha;split
    ·exact h
    ·rename_i h0;exact⟨z9g.2 ⟨fun y hy=>by
      rcases z9L.1 hy with rfl | hy
      ·exact ha
      ·exact ahead_trans ha (hs.1 y hy),h.so⟩,fun y hy=>by
      rcases z9L.1 hy with rfl | hy
      ·exact h0
      ·exact h.nz y hy⟩
   ·rename_i ha;have ha2:ahead ord x.2 t.2=true:=by
     cases hb:ahead ord x.2 t.2 with
     |true=>rfl
     |false=>exact absurd (ahead_tot (by rw[ht,hw x z9X]) (Bool.eq_false_iff.2 ha) hb) hne
    have ih:=p8 ht h.tail hw.tail;exact⟨z9g.2 ⟨fun y hy=>by
     rcases j7 hy with e | hy
     ·rw[e];exact ha2
     ·exact hs.1 y hy,ih.so⟩,fun y hy=>by
     rcases z9L.1 hy with rfl | hy
     ·exact h.nz y z9X
     ·exact ih.nz y hy⟩
theorem w7 {ord:Int}{n:Nat}{t:Rat×Mo} (ht:t.2.length=n){l:TL} (hw:Wd n l):Wd n (ins ord t l):=fun y hy=>by
 rcases j7 hy with e | hy
 ·rw[e,ht]
 ·exact hw y hy
theorem canon_wd {ord:Int}{n:Nat}:∀{l:TL},Wd n l→Wd n (canon ord l)
 |[],_=>fun y hy=>by cases hy
 |t::l,h=>w7 (h t z9X) (canon_wd h.tail)
theorem i7 {ord:Int}{n:Nat}:∀{l:TL},Wd n l→Can ord (canon ord l)
 |[],_=>⟨.nil,by simp[canon]⟩
 |t::l,h=>p8 (h t z9X) (i7 h.tail) (canon_wd h.tail)
theorem canon_cf (ord:Int):∀(l:TL) (e:Mo),cf (canon ord l) e=cf l e
 |[],_=>rfl
 |t::l,e=>by rw[canon,p7,cf_cons,cf_cons,canon_cf ord l e]
theorem my {ord:Int}{n:Nat}{l m:TL} (h:Can ord m) (hm:Wd n m) (hl:Wd n l) (he:∀e,cf m e=cf l e):m=canon ord l:=
 h.uniq (i7 hl) hm (canon_wd hl) fun e=>by rw[he,canon_cf]
theorem canon_eq {ord:Int}{n:Nat}{l m:TL} (hl:Wd n l) (hm:Wd n m) (he:∀e,cf l e=cf m e):canon ord l=canon ord m:=
 my (i7 hl) (canon_wd hl) hm fun e=>by rw[canon_cf,he]
theorem p9 (ord:Int) (t:Rat×Mo):∀l:TL,(ins ord t l).length≤l.length+1
 |[]=>by unfold ins;split<;>simp
 |x::l=>by
  have:=p9 ord t l;unfold ins;split
  ·split
   ·simp;omega
   ·simp
  ·split
   ·split<;>simp
   ·simpa using this
theorem canon_len (ord:Int):∀l:TL,(canon ord l).length≤l.length
 |[]=>z95 _
 |t::l=>by
  have:=p9 ord t (canon ord l);have:=canon_len ord l;rw[canon];simp;omega
def joinR (out:TL) (t:Rat×Mo):TL:=match out.getLast? with
 |some x=>if x.2=t.2 then out.dropLast++[(x.1+t.1,x.2)] else out++[t]
 |none=>[t]
theorem cf_app (l m:TL) (e:Mo):cf (l++m) e=cf l e+cf m e:=Sf_app _ l m
theorem gz (x:Rat×Mo) (e:Mo):cf [x] e=if x.2=e then x.1 else 0:=by rw[cf_cons,cf_nil,Rat.add_zero]
theorem qa {out:TL}{x:Rat×Mo} (h:out.getLast? = some x):out=out.dropLast++[x]:=by
 obtain⟨ys,rfl⟩:=List.getLast?_eq_some_iff.1 h;rw[List.dropLast_concat]
theorem w8 (out:TL) (t:Rat×Mo) (e:Mo):cf (joinR out t) e=cf (out++[t]) e:=by
 unfold joinR;split
 ·rename_i x hx;have ho:=qa hx;split
  ·rename_i h;rw[cf_app,cf_app,gz,gz];have:cf out e=cf out.dropLast e+cf [x] e:=by rw[←cf_app,←ho]
   rw[this,gz,h];split<;>grind
  ·rfl
 ·rename_i h;rw[List.getLast?_eq_none_iff.1 h];rfl
def Sso (ord:Int) (l:TL):Prop:=l.Pairwise fun x y=>ahead ord x.2 y.2=true
def Wso (ord:Int) (l:TL):Prop:=l.Pairwise fun x y=>x.2=y.2∨ahead ord x.2 y.2=true
theorem w9 {ord:Int}{out:TL}{t:Rat×Mo} (h:Sso ord out) (hb:∀x∈out,x.2=t.2∨ahead ord x.2 t.2=true):Sso ord (joinR out t)∧∀(y:Rat×Mo),(t.2=y.2∨ahead ord t.2 y.2=true)→(∀x∈out,x.2=y.2∨ahead ord x.2 y.2=true)→∀x∈joinR out t,x.2=y.2∨ahead ord x.2 y.2=true:=by
 unfold joinR;split
 ·rename_i z hz;have ho:=qa hz;split
  ·rename_i e;refine⟨?_,fun y hy hx x hm => ?_⟩
   ·unfold Sso at h ⊢;rw[ho] at h;rw[List.pairwise_append] at h ⊢;refine⟨h.1,by simp,fun a ha b hbm => ?_⟩;rw[z9e] at hbm;subst hbm;exact h.2.2 a ha z (by simp)
   ·rcases z9y.1 hm with hm | hm
    ·exact hx x (by rw[ho];exact List.mem_append_left _ hm)
    ·rw[z9e] at hm;subst hm;rw[e];exact hy
  ·rename_i e;refine⟨?_,fun y hy hx x hm => ?_⟩
   ·unfold Sso at h ⊢;rw[List.pairwise_append];refine⟨h,by simp,fun a ha b hbm => ?_⟩;rw[z9e] at hbm;subst hbm;have hzt:ahead ord z.2 b.2=true:=(hb z (by rw[ho];simp)).resolve_left e;rw[ho] at h ha;rcases z9y.1 ha with ha | ha
    ·exact ahead_trans ((List.pairwise_append.1 h).2.2 a ha z (by simp)) hzt
    ·rw[z9e] at ha;rw[ha];exact hzt
   ·rcases z9y.1 hm with hm | hm
    ·exact hx x hm
    ·rw[z9e] at hm;rw[hm];exact hy
 ·rename_i h0;refine⟨by simp[Sso],fun y hy _ x hm => ?_⟩;rw[z9e] at hm;rw[hm];exact hy
structure Jn (ord:Int) (l:TL) (k:Nat) (out:TL):Prop where
 cf:∀e,cf out e=Mp.cf (l.take k) e
 so:Sso ord out
 be:∀y∈l.drop k,∀x∈out,x.2=y.2∨ahead ord x.2 y.2=true
theorem Jn.rf (ord:Int) (l:TL):Jn ord l 0 []:=⟨fun _=>rfl,.nil,by simp⟩
theorem Jn.step {ord:Int}{l:TL}{k:Nat}{out:TL}{t:Rat×Mo} (h:Jn ord l k out) (hl:Wso ord l) (ht:l[k]? = some t):Jn ord l (k+1) (joinR out t):=by
 have hk:k<l.length:=(z98.1 ht).1;have hd:l.drop k=t::l.drop (k+1):=by
  rw[z9k hk];rw[z9P hk] at ht;rw[Option.some.inj ht]
 have hb:=h.be t (by rw[hd];exact z9X);obtain⟨j1,j2⟩:=w9 h.so hb;refine⟨fun e => ?_,j1,fun y hy=>j2 y ?_ (h.be y (by rw[hd];exact z9T _ hy))⟩
 ·rw[w8,cf_app,h.cf,List.take_add_one,ht,cf_app];rfl
 ·have:=hl.sublist (List.drop_sublist k l);rw[hd] at this;exact (z9g.1 this).1 y hy
theorem Jn.done {ord:Int}{n:Nat}{l l0 out:TL} (h:Jn ord l l.length out) (hp:l.Perm l0) (hw:Wd n l0) (ho:Wd n out):(out.filter fun x=>x.1≠0)=canon ord l0:=by
 refine my (n:=n) ⟨h.so.filter _,fun x hx=>by simpa using (List.mem_filter.1 hx).2⟩ (fun x hx=>ho x (List.mem_filter.1 hx).1) hw fun e => ?_
 have e1:∀q:TL,Mp.cf (q.filter fun x=>x.1≠0) e=Mp.cf q e:=fun q=>by
  induction q with
  |nil=>rfl
  |cons x q ih =>
   by_cases hx:x.1=0
   ·rw[List.filter_cons_of_neg (by simpa using hx),ih,cf_cons,hx];split<;>grind
   ·rw[List.filter_cons_of_pos (by simpa using hx),cf_cons,cf_cons,ih]
 rw[e1,h.cf,z9x];exact us _ hp
end Go.Proofs.YtbnhgnhgbhjkcaaGreat.Mp
namespace Go.Proofs.YtbnhgnhgbhjkcaaGreat
set_option linter.unusedSimpArgs false
def valL:List Int→Int
 |[]=>0
 |x::t=>x+4294967296*valL t
def Dig (l:List Int):Prop:=∀x∈l,0≤x∧x≤4294967295
def Norm (l:List Int):Prop:=l=[]∨at_ l (l.length-1)≠0
def sg (n:Bool) (z:Int):Int:=if n then -z else z
def cmpZ (x y:Int):Int:=if x<y then -1 else if x=y then 0 else 1
def bM (x:Int):Int:=if x<0 then -1 else if x=0 then 0 else 1
theorem eN (x:Int) (t:List Int):at_ (x::t) 0=x:=rfl
theorem ch (x:Int) (t:List Int) (i:Nat):at_ (x::t) (i+1)=at_ t i:=by simp[at_]
theorem iS {a b:List Int} (hl:a.length=b.length) (h:∀j,at_ a j=at_ b j):a=b:=by
 apply List.ext_getElem hl;intro i h1 h2;have:=h i
 rwa[fc h1,fc h2] at this
theorem Dig.at_ {l:List Int} (h:Dig l) (i:Nat):0≤at_ l i∧at_ l i≤4294967295:=by
 by_cases hi:i<l.length
 ·exact h _ (at_mem hi)
 ·rw[bx (by omega)];omega
theorem Dig.tail {x:Int}{t:List Int} (h:Dig (x::t)):Dig t:=fun y hy=>h y (z9T _ hy)
theorem valL_nonneg {l:List Int} (h:Dig l):0≤valL l:=by
 induction l with
 |nil=>simp[valL]
 |cons x t ih=>have:=ih h.tail;have:=h x (z9X ..);simp only[valL];omega
theorem valL_zero {l:List Int} (h:∀j,at_ l j=0):valL l=0:=by
 induction l with
 |nil=>rfl
 |cons x t ih =>
  have h0:=h 0;have ht:∀j,at_ t j=0:=fun j=>by have:=h (j+1);rwa[ch] at this
  rw[eN] at h0;simp[valL,h0,ih ht]
theorem valL_take {l:List Int}{k:Nat} (h:∀j,k≤j→at_ l j=0):valL (l.take k)=valL l:=by
 induction l generalizing k with
 |nil=>simp
 |cons x t ih =>
  match k with
  |0=>rw[valL_zero (l:=x::t) (fun j=>h j (by omega))];rfl
  |k+1 =>
   simp only[List.take_succ_cons,valL];rw[ih (fun j hj=>by have:=h (j+1) (by omega);rwa[ch] at this)]
theorem valL_pos {l:List Int} (hd:Dig l){i:Nat} (hi:at_ l i≠0):0<valL l:=by
 induction l generalizing i with
 |nil=>simp[at_] at hi
 |cons x t ih =>
  have hx:=hd x (z9X ..);have ht:=valL_nonneg hd.tail;simp only[valL]
  match i with
  |0=>rw[eN] at hi;omega
  |i+1=>rw[ch] at hi;have:=ih hd.tail hi;omega
theorem valL_pos' {l:List Int} (hd:Dig l) (hn:Norm l) (hne:l≠[]):0<valL l:=by
 rcases hn with h | h
 ·exact absurd h hne
 ·exact valL_pos hd h
theorem valL_eq_zero {l:List Int} (hd:Dig l) (hn:Norm l):valL l=0↔l=[]:=by
 constructor
 ·intro h;by_cases hne:l=[]
  ·exact hne
  ·have:=valL_pos' hd hn hne;omega
 ·rintro rfl;rfl
theorem valL_take_succ (l:List Int) (i:Nat):valL (l.take (i+1))=valL (l.take i)+at_ l i*4294967296^i:=by
 induction l generalizing i with
 |nil=>simp[valL,at_]
 |cons x t ih =>
  match i with
  |0=>simp[valL,at_]
  |i+1 =>
   simp only[List.take_succ_cons,valL,ch];rw[ih i,z9H];grind
theorem valL_lt {l:List Int} (hd:Dig l):valL l<4294967296^l.length:=by
 induction l with
 |nil=>simp[valL]
 |cons x t ih =>
  have h1:=ih hd.tail;have hx:=hd x (z9X ..);simp only[valL,List.length_cons,z9H];generalize (4294967296:Int)^t.length=p at *;omega
theorem pow_pos' (i:Nat):(0:Int)<4294967296^i:=Int.pow_pos (by omega)
theorem pow_mono' {i j:Nat} (h:i≤j):(4294967296:Int)^i≤4294967296^j:=by
 induction j with
 |zero =>
      obtain rfl:i=0:=by omega
      exact Int.le_refl _
 |succ j ih =>
  by_cases e:i=j+1
  ·subst e;exact Int.le_refl _
  ·have:=ih (by omega);have hp:=pow_pos' j;rw[z9H];omega
theorem valL_ge {l:List Int} (hd:Dig l){i:Nat} (hi:at_ l i≠0):4294967296^i≤valL l:=by
 induction l generalizing i with
 |nil=>simp[at_] at hi
 |cons x t ih =>
  have hx:=hd x (z9X ..);have ht:=valL_nonneg hd.tail;simp only[valL]
  match i with
  |0=>rw[eN] at hi;simp;omega
  |i+1 =>
   rw[ch] at hi;have:=ih hd.tail hi;rw[z9H];generalize (4294967296:Int)^i=p at *;omega
theorem valL_lt_of_len {a b:List Int} (ha:Dig a) (hb:Dig b) (hn:Norm b) (h:a.length<b.length):valL a<valL b:=by
 rcases hn with rfl | hn
 ·simp at h
 ·have h1:=valL_lt ha;have h2:=valL_ge hb hn;have h3:=pow_mono' (i:=a.length) (j:=b.length-1) (by omega);omega
theorem valL_lt_of_at {a b:List Int} (ha:Dig a) (hb:Dig b) (hl:a.length=b.length){i:Nat} (hi:i<a.length) (heq:∀j,i<j→at_ a j=at_ b j) (hlt:at_ a i<at_ b i):valL a<valL b:=by
 induction a generalizing b i with
 |nil=>simp at hi
 |cons x s ih =>
  match b,hl with
  |y::t,hl =>
   have hx:=ha x (z9X ..);have hy:=hb y (z9X ..);simp only[List.length_cons,Nat.add_right_cancel_iff] at hl;simp only[valL]
   match i,hi,heq,hlt with
   |0,_,heq,hlt =>
    have:s=t:=iS hl (fun j=>by have:=heq (j+1) (by omega);rwa[ch,ch] at this);subst this;rw[eN,eN] at hlt;omega
   |i+1,hi,heq,hlt =>
    rw[ch,ch] at hlt;have:=ih ha.tail hb.tail hl (i:=i) (by simpa using hi) (fun j hj=>by have:=heq (j+1) (by omega);rwa[ch,ch] at this) hlt;omega
theorem eO {x y:Int} (h:x<y):cmpZ x y = -1:=by simp[cmpZ,h]
theorem gh {x y:Int} (h:y<x):cmpZ x y=1:=by unfold cmpZ;rw[if_neg (by omega),if_neg (by omega)]
theorem iT {x y:Int} (h:x=y):cmpZ x y=0:=by simp[cmpZ,h]
theorem gi {l:List Int}{i:Nat} (h:i<l.length) (v:Int):at_ (l.set i v) i=v:=by simp[at_,h]
theorem cC {l:List Int}{i j:Nat} (h:i≠j) (v:Int):at_ (l.set i v) j=at_ l j:=by simp[at_,h]
theorem vO (l:List Int) (i:Nat) (v:Int):(l.set i v).take i=l.take i:=by
 rw[List.take_set_of_le (z95 _)]
theorem valL_set {l:List Int}{i:Nat} (h:i<l.length) (v:Int):valL ((l.set i v).take (i+1))=valL (l.take i)+v*4294967296^i:=by
 rw[valL_take_succ,vO,gi h]
theorem Dig.set {l:List Int} (hd:Dig l) (i:Nat){v:Int} (hv:0≤v∧v≤4294967295):Dig (l.set i v):=by
 intro x hx;rcases List.mem_or_eq_of_mem_set hx with h | h
 ·exact hd x h
 ·subst h;exact hv
def Bt (z:Int) (n:Nat):Prop:=z.natAbs<2^n
def ei:Nat:=8796093022208
theorem iU:ei=8796093022208:=rfl
attribute [irreducible] ei
def Sm (z:Int):Prop:=Bt z ei
theorem Bt.mono {z:Int}{m n:Nat} (h:Bt z m) (hmn:m≤n):Bt z n:=z9n h (z9j (by omega) hmn)
theorem Bt.sm {z:Int}{n:Nat} (h:Bt z n) (hn:n≤8796093022208):Sm z:=h.mono (by rw[iU];exact hn)
theorem Bt.le {y z:Int}{n:Nat} (h:Bt z n) (hyz:y.natAbs≤z.natAbs):Bt y n:=z9K hyz h
theorem Sm.bt {z:Int} (h:Sm z):Bt z ei:=h
theorem gn (n:Nat):Bt 0 n:=by unfold Bt;simpa using Nat.pow_pos (n:=n) (show 0<2 by omega)
theorem vP:Sm 0:=gn _
theorem Bt.neg {z:Int}{n:Nat} (h:Bt z n):Bt (-z) n:=h.le (by omega)
theorem Sm.neg {z:Int} (h:Sm z):Sm (-z):=Bt.neg h
theorem Bt.add {a b:Int}{n:Nat} (ha:Bt a n) (hb:Bt b n):Bt (a+b) (n+1):=by
 unfold Bt at *;rw[Nat.pow_succ];omega
theorem Bt.sub {a b:Int}{n:Nat} (ha:Bt a n) (hb:Bt b n):Bt (a-b) (n+1):=by
 unfold Bt at *;rw[Nat.pow_succ];omega
theorem Bt.mul {a b:Int}{m n:Nat} (ha:Bt a m) (hb:Bt b n):Bt (a*b) (m+n):=by
 unfold Bt at *;rw[Int.natAbs_mul,z9p];exact Nat.mul_lt_mul'' ha hb
theorem zb4 (i:Nat):(4294967296:Int)^i=((2^(32*i):Nat):Int):=by
 rw[Nat.pow_mul,Int.natCast_pow];rfl
theorem len_of_bt {l:List Int}{n:Nat} (hd:Dig l) (hn:Norm l) (h:Bt (valL l) n):32*l.length≤n+32:=by
 rcases hn with rfl | hn
 ·simp
 ·have h1:=valL_ge hd hn;have h2:=valL_nonneg hd;unfold Bt at h;rw[zb4] at h1;have h3:2^(32*(l.length-1))<2^n:=by omega
  rcases z8V (32*(l.length-1)) n with h4 | h4
  ·omega
  ·have:=z9j (n:=2) (by omega) h4;omega
theorem gu (n:Bool) (z:Int):(sg n z).natAbs=z.natAbs:=by unfold sg;split<;>omega
theorem jM (z:Int):sg (decide (z<0)) z.natAbs=z:=by unfold sg;split<;>(rename_i h;simp at h;omega)
theorem neg_iff {n:Bool}{l:List Int} (hd:Dig l) (hn:Norm l) (h0:l=[]→n=false):sg n (valL l)<0↔n=true:=by
 by_cases hl:l=[]
 ·subst hl;rw[h0 rfl];simp[sg,valL]
 ·have:=valL_pos' hd hn hl;cases n
  ·simp[sg];omega
  ·simp[sg];omega
theorem valL_set_full {l:List Int}{i:Nat} (h:i<l.length) (v:Int):valL (l.set i v)=valL l+(v-at_ l i)*4294967296^i:=by
 induction l generalizing i with
 |nil=>simp at h
 |cons x t ih =>
  match i with
  |0=>simp[valL,at_];omega
  |i+1 =>
   simp only[List.set_cons_succ,valL,ch];rw[ih (by simpa using h),z9H];grind
theorem mul_bound {x y:Int} (hx:0≤x∧x≤4294967295) (hy:0≤y∧y≤4294967295):0≤x*y∧x*y≤18446744065119617025:=by
 refine⟨Int.mul_nonneg hx.1 hy.1,?_⟩;have:=Int.mul_le_mul hx.2 hy.2 hy.1 (by omega);omega
theorem mul_step {V c V0 x vb y ok p q bi Y:Int} (h:V+c*p=V0+x*vb*bi) (hq:p*4294967296=q) (hp:y*p=Y*bi) :
  V+((c+(x*y+ok)) % 4294967296-ok)*p+(c+(x*y+ok)) / 4294967296*q=V0+x*(vb+Y)*bi:=by
 have h1:(c+(x*y+ok)) % 4294967296=(c+(x*y+ok))-4294967296*((c+(x*y+ok)) / 4294967296):=by omega
 rw[h1,←hq];generalize (c+(x*y+ok)) / 4294967296=d;grind
set_option linter.unusedSimpArgs false
open Go.RowKit
def Own (w:World) (b:Nat) (T:TypeId) (k:IntKind) (l:List Int):Prop:=w.heap[b]? = some (.cells (l.map (Value.int k)).toArray T (0,0))
section
variable {w w':World}{b:Nat}{T:TypeId}{k:IntKind}{l:List Int}
theorem Own.lt (h:Own w b T k l):b<w.heap.size:=by
 rcases z8V b w.heap.size with hlt | hge
 ·exact hlt
 ·unfold Own at h;rw[Array.getElem?_eq_none hge] at h;cases h
theorem Own.ty (h:Own w b T k l):Ty w b T:=⟨_,_,h⟩
theorem Own.cell (h:Own w b T k l){i:Nat} (hi:i<l.length):w.cell? ⟨b,i,none⟩=some (.int k (at_ l i)):=by
 rw[cell_of_row w b i _ T (0,0) h];simp[at_,hi]
theorem Own.frozen (h:Own w b T k l) (i:Nat):w.frozen? ⟨b,i,none⟩=false:=by
 unfold Own at h;simp[World.frozen?,h]
theorem Own.keep (h:Own w b T k l) (e:Ext w w'):Own w' b T k l:=(e.block b h.lt).trans h
theorem Own.dr (h:Own w b T k l):Own w.drew b T k l:=h
theorem Own.far (h:Own w b T k l){p:Addr} (hp:b≠p.block) (u:Value):Own (w.setCell p u) b T k l:=(Below.heap_setCell w p u b hp).trans h
theorem Own.new {w:World}{n:Nat}{c:Array Value}{T:TypeId}{k:IntKind}{l:List Int} (hn:n=w.heap.size) (hc:c=(l.map (Value.int k)).toArray):Own (w.alloc (.cells c T)) n T k l:=by
 subst hn;subst hc;exact heap_alloc_new w _
theorem Own.set (h:Own w b T k l) (i:Nat) (v:Int):Own (w.setCell ⟨b,i,none⟩ (.int k v)) b T k (l.set i v):=by
 unfold Own at h ⊢;simp[World.setCell,Array.getElem?_modify,h,List.map_set]
theorem Own.isL (h:Own w b (ET k) k l) (hm:l.length≤9223372036854775807) (hf:∀x∈l,Fit k x):IsL w ⟨some ⟨b,0,none⟩,l.length,l.length⟩ k l:=
 IsL.mk_ (z95 _) hm (fun _=>⟨b,0,rfl,h.ty,fun j hj=>by rw[z9o];exact h.cell hj⟩) hf
theorem Own.of_row {base n:Nat} (h:w.ownsRow base T 1 (.slice (some ⟨b,0,none⟩) n n) n (l.map (Value.int k))):Own w b T k l:=by
 obtain⟨h1,h2⟩:=h;rcases h2 with⟨h2,_⟩ | ⟨g,cap,cur,hv,_,hg,_,_,hs,ht⟩
 ·cases h2
 ·injection hv with e1 e2 e3
  injection e1 with e1
  injection e1 with e1
  subst e1;subst e3;unfold Own;rw[hg,←ht,z93 (by simp;omega)]
end
theorem Z6 {a b:World} (h:a.grownBy b none):Ext a b:=(Ext.rf a).gr h (fun _ h=>by cases h)
theorem fq {P:Program} (w:World){ops:Array Oper}{rest:List Oper}{o:Oper}{a:Act}{Q:Exit→Act→World→Prop}
  (hg:o.guard=none) (l c:Operand) (t:TypeId) (hop:o.op=Op.makeSlice t l c)
  (e:TypeId) (k:IntKind) (bytes:Nat) (h1:P.underlying t=some (.slice e)) (hinfo:(P.info? e).map (fun i=>(i.zero,i.size,i.bytes))=some (some (.int k 0),1,bytes))
  (kl kc:IntKind) (L C:Int) (n:Nat) (hl:a.eval l = .int kl L) (hc:a.eval c = .int kc C) (hL:L=(n:Int)) (hC:C=(n:Int)) (b2:bytes*n≤281474976710656) (b3:n≤9223372036854775807)
  (hK:∀w',Own w' w.heap.size e k (List.replicate n 0)→Ext w w'→w.heap.size<w'.heap.size→wpList P ops Q rest (a.put o.dst (.slice (some ⟨w.heap.size,0,none⟩) n n)) w') :
  wpList P ops Q (o::rest) a w:=by
 obtain⟨i,hi,hz0,hz1,hz2⟩:=info_parts hinfo;refine wpList_make_full w hg l c t hop w.heap.size e i _ 1 h1 hi hz0 hz1 kl kc L C n hl hc hL hC (by rw[hz2];exact b2) b3 (z95 _) fun w' hown hgr => ?_
 have ho:Own w' w.heap.size e k (List.replicate n 0):=by
  have hx:(madeCells (Value.int k 0).cells (n*1)).toList=(List.replicate n (0:Int)).map (Value.int k):=by
   rw[Nat.mul_one];show (madeCells #[Value.int k 0] n).toList=_
   rw[toList_madeCells_one];simp
  rw[hx] at hown;exact Own.of_row hown
 exact hK w' ho (Z6 hgr) ho.lt
theorem cS {W w1:World} (hb:Ext W w1):(∀b o,b<W.heap.size→w1.cell? ⟨b,o,none⟩=W.cell? ⟨b,o,none⟩)∧(∀b o,b<W.heap.size→w1.frozen? ⟨b,o,none⟩=W.frozen? ⟨b,o,none⟩):=
 ⟨fun b o h=>hb.cell (p:=⟨b,o,none⟩) h,fun b o h=>hb.frozen (p:=⟨b,o,none⟩) h⟩
theorem uj {w:World}{n m:Nat}{c:Array Value}{k:IntKind}{l:List Int} (hn:n=w.heap.size) (hc:c=(l.map (Value.int k)).toArray) (hm:m=l.length) (hb:l.length≤9223372036854775807) (hf:∀x∈l,Fit k x) :
  IsL (w.alloc (.cells c (ET k))) ⟨some ⟨n,0,none⟩,m,m⟩ k l:=by
 subst hm;exact Own.isL (Own.new hn hc) hb hf
theorem cK {W w':World} (e:Ext W w'):Ext W w'∧(∀b o,b<W.heap.size→w'.cell? ⟨b,o,none⟩=W.cell? ⟨b,o,none⟩):=⟨e,(cS e).1⟩
def Bx (w:World) (T:TypeId) (n:Nat):Prop:=(∃u,w.cell? ⟨n,0,none⟩=some u)∧(∃u,w.cell? ⟨n,1,none⟩=some u)∧w.frozen? ⟨n,0,none⟩=false∧w.frozen? ⟨n,1,none⟩=false∧Ty w n T
theorem Bx.keep {w w':World}{T:TypeId}{n:Nat} (h:Bx w T n) (e:Ext w w'):Bx w' T n:=by
 obtain⟨⟨u,h0⟩,⟨v,h1⟩,f0,f1,t⟩:=h;exact⟨⟨u,cell_later e h0⟩,⟨v,cell_later e h1⟩,(e.frozen (p:=⟨n,0,none⟩) t.lt).trans f0,(e.frozen (p:=⟨n,1,none⟩) t.lt).trans f1,t.keep e⟩
theorem Bx.dr {w:World}{T:TypeId}{n:Nat} (h:Bx w T n):Bx w.drew T n:=h
theorem Bx.new {w:World}{T:TypeId}{n:Nat}{x y:Value} (hn:n=w.heap.size):Bx (w.alloc (.cells #[x,y] T)) T n:=by
 subst hn;exact⟨⟨x,by simp⟩,⟨y,by simp⟩,by simp,by simp,Ty.new _ _ _⟩
theorem Bx.st2 {w:World}{T:TypeId}{n:Nat} (h:Bx w T n) (x y:Value):Bx ((w.setCell ⟨n,0,none⟩ x).setCell ⟨n,1,none⟩ y) T n:=by
 obtain⟨⟨u,h0⟩,⟨v,h1⟩,f0,f1,t⟩:=h;have h1':(w.setCell ⟨n,0,none⟩ x).cell? ⟨n,1,none⟩=some v:=by rw[World.cell?_setCell_other _ _ _ _ (by simp)];exact h1
 refine⟨⟨x,?_⟩,⟨y,World.cell?_setCell_same _ _ _ h1'⟩,by simpa using f0,by simpa using f1,(t.st _ _).st _ _⟩;rw[World.cell?_setCell_other _ _ _ _ (by simp)];exact World.cell?_setCell_same _ _ _ h0
theorem bX {W w':World}{R R':Prop} (e:(Ext W w'∧R)∧R'):Ext W w':=e.1.1
theorem cW {w':World}{A:Prop}{T:TypeId}{n:Nat} (e:A∧Bx w' T n):Bx w' T n:=e.2
end Go.Proofs.YtbnhgnhgbhjkcaaGreat
namespace Go.Proofs.YtbnhgnhgbhjkcaaGreat.Sy
set_option linter.unusedSimpArgs false
variable {α:Type} [Inhabited α]
def bs (P:Nat→Bool) (i j:Nat):Nat:=
 if h:i<j then (if P ((i+j) / 2) then bs P ((i+j) / 2+1) j else bs P i ((i+j) / 2)) else i
termination_by j-i
theorem lk {P:Nat→Bool}{i j:Nat} (h:i<j) (hp:P ((i+j) / 2)=true):bs P i j=bs P ((i+j) / 2+1) j:=by
 rw[bs,dif_pos h,if_pos hp]
theorem ln {P:Nat→Bool}{i j:Nat} (h:i<j) (hp:P ((i+j) / 2)=false):bs P i j=bs P i ((i+j) / 2):=by
 rw[bs,dif_pos h,if_neg (by simp[hp])]
theorem jr {P:Nat→Bool}{i j:Nat} (h:¬ i<j):bs P i j=i:=by rw[bs,dif_neg h]
theorem js {P:Nat→Bool}:∀(k i j:Nat),j-i≤k→i≤j→(∀c d,i≤d→d≤c→c<j→P c=true→P d=true) →
  i≤bs P i j∧bs P i j≤j∧(∀c,i≤c→c<bs P i j→P c=true)∧∀c,bs P i j≤c→c<j→P c=false
 |0,i,j,hk,hij,_=>by
  rw[jr (by omega)];exact⟨by omega,by omega,fun c h1 h2=>by omega,fun c h1 h2=>by omega⟩
 |k+1,i,j,hk,hij,hm=>by
  by_cases h:i<j
  ·cases hp:P ((i+j) / 2) with
   |true =>
    rw[lk h hp];obtain⟨g1,g2,g3,g4⟩:=js k ((i+j) / 2+1) j (by omega) (by omega) fun c d h1 h2 h3 h4=>hm c d (by omega) h2 h3 h4
    refine⟨by omega,g2,fun c h1 h2 => ?_,g4⟩;by_cases e:c≤(i+j) / 2
    ·exact hm _ c h1 e (by omega) hp
    ·exact g3 c (by omega) h2
   |false =>
    rw[ln h hp];obtain⟨g1,g2,g3,g4⟩:=js k i ((i+j) / 2) (by omega) (by omega) fun c d h1 h2 h3 h4=>hm c d h1 h2 (by omega) h4
    refine⟨g1,by omega,g3,fun c h1 h2 => ?_⟩;by_cases e:c<(i+j) / 2
    ·exact g4 c h1 e
    ·cases hc:P c with
     |false=>rfl
     |true=>rw[hm c _ (by omega) (by omega) h2 hc] at hp;cases hp
  ·rw[jr h];exact⟨by omega,by omega,fun c h1 h2=>by omega,fun c h1 h2=>by omega⟩
def de (l:List α) (a m b:Nat):List α:=l.take a++((l.drop m).take (b-m)++((l.drop a).take (m-a)++l.drop b))
omit [Inhabited α] in
theorem jt (l:List α){a m b:Nat} (h1:a≤m) (h2:m≤b) (h3:b≤l.length):(de l a m b).length=l.length:=by
 unfold de;simp;omega
theorem oi (l m:List α) (k:Nat):at_ (l++m) k=if k<l.length then at_ l k else at_ m (k-l.length):=by
 simp only[at_,z91,List.getElem?_append];split<;>rfl
theorem lq (l:List α){a m b:Nat} (h1:a≤m) (h2:m≤b) (h3:b≤l.length):Rot l (de l a m b) a m b:=by
 refine⟨jt l h1 h2 h3,fun k hk => ?_,fun k hk => ?_,fun k hk => ?_⟩<;>unfold de<;>rw[oi,oi,oi]
 ·simp only[z9N,z86];rcases hk with hk | hk
  ·rw[if_pos (by omega),at_tk _ hk]
  ·rw[if_neg (by omega),if_neg (by omega),if_neg (by omega),at_dr];congr 1;omega
 ·simp only[z9N,z86];rw[if_neg (by omega),if_pos (by omega),at_tk _ (by omega),at_dr];congr 1;omega
 ·simp only[z9N,z86];rw[if_neg (by omega),if_neg (by omega),if_pos (by omega),at_tk _ (by omega),at_dr];congr 1;omega
theorem Rot.uniq {l x y:List α}{a m b:Nat} (h:Rot l x a m b) (k:Rot l y a m b) (h1:a≤m) (h2:m≤b):x=y:=by
 obtain⟨p1,p2,p3,p4⟩:=h;obtain⟨q1,q2,q3,q4⟩:=k;refine ext_at (p1.trans q1.symm) fun i _ => ?_
 by_cases c1:i<a∨b≤i
 ·rw[p2 i c1,q2 i c1]
 ·by_cases c2:i<a+(b-m)
  ·have e1:=p3 (i-a) (by omega);have e2:=q3 (i-a) (by omega);rw[show a+(i-a)=i by omega] at e1 e2;rw[e1,e2]
  ·have e1:=p4 (i-a-(b-m)) (by omega);have e2:=q4 (i-a-(b-m)) (by omega);rw[show a+(b-m)+(i-a-(b-m))=i by omega] at e1 e2;rw[e1,e2]
theorem Rot.eq {l x:List α}{a m b:Nat} (h:Rot l x a m b) (h1:a≤m) (h2:m≤b) (h3:b≤l.length):x=de l a m b:=h.uniq (lq l h1 h2 h3) h1 h2
def swR (l:List α) (a b:Nat):Nat→List α
 |0=>l
 |k+1=>swp (swR l a b k) (a+k) (b+k)
theorem ls (l:List α){a b n:Nat} (h1:a+n≤b) (h2:b+n≤l.length):∀k,k≤n→Swp l (swR l a b k) a b k
 |0,_=>Swp.rf l a b
 |k+1,hk=>(ls l h1 h2 k (by omega)).step (by omega) (by omega) (by omega) (by omega)
theorem fV (l:List α) (a b:Nat):∀k,(swR l a b k).length=l.length
 |0=>rfl
 |k+1=>by rw[swR,gM,fV l a b k]
def dnF (lt:α→α→Bool) (a:Nat):List α→Nat→List α
 |l,0=>l
 |l,j+1=>if a<j+1∧lt (at_ l (j+1)) (at_ l j)=true then dnF lt a (swp l (j+1) j) j else l
theorem tD {lt:α→α→Bool}{a j:Nat}{l:List α} (h1:a<j+1) (h2:lt (at_ l (j+1)) (at_ l j)=true):dnF lt a l (j+1)=dnF lt a (swp l (j+1) j) j:=by
 rw[dnF,if_pos ⟨h1,h2⟩]
theorem tE {lt:α→α→Bool}{a j:Nat}{l:List α} (h:j=a∨∃q,j=q+1∧lt (at_ l j) (at_ l q)=false):dnF lt a l j=l:=by
 rcases j with _ | j
 ·rfl
 ·rw[dnF,if_neg];rintro⟨h1,h2⟩;rcases h with h | ⟨q,e,h⟩
  ·omega
  ·obtain rfl:q=j:=by omega
   rw[h] at h2;cases h2
theorem tF {lt:α→α→Bool}{le:α→α→Prop} (hle:∀x y,lt x y=true↔¬ le y x){l:List α}{a i:Nat} (hi:i<l.length):∀(j:Nat) (l':List α),j≤i→a≤j→Ins le l l' i j →
  ∃k,a≤k∧k≤i∧Ins le l (dnF lt a l' j) i k∧(k=a∨∃q,k=q+1∧le (at_ (dnF lt a l' j) q) (at_ (dnF lt a l' j) k))
 |0,l',h1,h2,h=>⟨0,by omega,by omega,h,.inl (by omega)⟩
 |j+1,l',h1,h2,h=>by
  by_cases c:a<j+1∧lt (at_ l' (j+1)) (at_ l' j)=true
  ·rw[tD c.1 c.2];exact tF hle hi j _ (by omega) (by omega) (h.down (by omega) hi ((hle _ _).1 c.2))
  ·rw[dnF,if_neg c];refine⟨j+1,h2,h1,h,?_⟩;by_cases e:j+1=a
   ·exact .inl e
   ·refine .inr ⟨j,rfl,Classical.byContradiction fun hn=>c ⟨by omega,(hle _ _).2 hn⟩⟩
theorem ol (lt:α→α→Bool) (a:Nat):∀(j:Nat) (l:List α),(dnF lt a l j).length=l.length
 |0,_=>rfl
 |j+1,l=>by
  rw[dnF];split
  ·rw[ol lt a j,gM]
  ·rfl
def isF (lt:α→α→Bool) (a:Nat):Nat→List α→Nat→List α
 |0,l,_=>l
 |n+1,l,i=>isF lt a n (dnF lt a l i) (i+1)
theorem tG (lt:α→α→Bool) (a:Nat):∀(n:Nat) (l:List α) (i:Nat),(isF lt a n l i).length=l.length
 |0,_,_=>rfl
 |n+1,l,i=>by rw[isF,tG lt a n,ol]
theorem tH {lt:α→α→Bool}{le:α→α→Prop} (ho:Ord le) (hle:∀x y,lt x y=true↔¬ le y x){a b:Nat}:∀(n:Nat) (l:List α) (i:Nat),a≤i→i+n=b→b≤l.length→Srt le l a i→Srt le (isF lt a n l i) a b∧Pm l (isF lt a n l i) a b
 |0,l,i,_,h2,_,hs=>by
  obtain rfl:i=b:=by omega
  exact⟨hs,Pm.rf _ _ _⟩
 |n+1,l,i,h1,h2,h3,hs=>by
  obtain⟨k,k1,k2,k3,k4⟩:=tF hle (l:=l) (a:=a) (i:=i) (by omega) i l (z95 _) h1 (Ins.rf l i);have hp:=k3.pm k1 k2 (b:=b) (by omega) h3;obtain⟨g1,g2⟩:=tH ho hle (b:=b) n (dnF lt a l i) (i+1) (by omega) (by omega) (by rw[ol];exact h3) (k3.done ho k1 k2 hs k4);rw[isF];exact⟨g1,hp.tr g2⟩
end Go.Proofs.YtbnhgnhgbhjkcaaGreat.Sy
namespace Go.Proofs.YtbnhgnhgbhjkcaaGreat
set_option linter.unusedSimpArgs false
open Go.RowKit
theorem mI {a b q r:Int} (h:a=b*q+r) (h0:0≤r) (h1:r<b.natAbs):a / b=q∧a % b=r:=by
 have hb:b≠0:=by rintro rfl;simp at h1;omega
 have e:=z9i a b;have g0:=z8W a hb;have g1:=Int.emod_lt a hb;have hd:b*(q-a / b)=a % b-r:=by rw[Int.mul_sub];omega
 have hq:q-a / b=0:=by
  by_cases hz:q-a / b=0
  ·exact hz
  ·exfalso
   have h2:=congrArg Int.natAbs hd;rw[Int.natAbs_mul] at h2;have h3:1≤(q-a / b).natAbs:=by omega
   have h4:=z9d b.natAbs h3;omega
 have e2:q=a / b:=by omega
 subst e2;exact⟨rfl,by omega⟩
theorem qv {m n:Bool}{A B:Int} (_hA:0≤A) (hB:0<B) :
  ((m=false∨A % B=0)→sg m A / sg n B=sg (!(m == n)) (A / B)∧sg m A % sg n B=A % B) ∧
  (m=true→0<A % B→sg m A / sg n B=sg (!(m == n)) (A / B+1)∧sg m A % sg n B=B-A % B):=by
 have e:=z9i A B;have g0:=z8W A (show B≠0 by omega);have g1:=Int.emod_lt_of_pos A hB;generalize A / B=q at *;generalize A % B=r at *;have hn:(sg n B).natAbs=B.natAbs:=gu n B;constructor
 ·intro h;apply mI
  ·cases m<;>cases n<;>simp[sg] at *<;>grind
  ·exact g0
  ·rw[hn];omega
 ·rintro rfl hr;apply mI
  ·cases n<;>simp[sg]<;>grind
  ·omega
  ·rw[hn];omega
set_option linter.unusedSimpArgs false
theorem tJ (l:List Int) (j:Nat):valL l=valL (l.take j)+4294967296^j*valL (l.drop j):=by
 induction j generalizing l with
 |zero=>simp[valL]
 |succ j ih =>
  match l with
  |[]=>simp[valL]
  |x::t =>
   simp only[List.take_succ_cons,List.drop_succ_cons,valL];rw[ih t,z9H];grind
theorem Dig.take {l:List Int} (h:Dig l) (j:Nat):Dig (l.take j):=fun x hx=>h x (z9M hx)
theorem Dig.drop {l:List Int} (h:Dig l) (j:Nat):Dig (l.drop j):=fun x hx=>h x (z9r hx)
theorem fW {l:List Int} (h:Dig l) (j:Nat):0≤valL (l.take j)∧valL (l.take j)<4294967296^j:=by
 refine⟨valL_nonneg (h.take j),?_⟩;have h1:=valL_lt (h.take j);have h2:=pow_mono' (i:=(l.take j).length) (j:=j) (by simp;omega);omega
theorem ju (l:List Int) (j:Nat):valL (l.drop j)=at_ l j+4294967296*valL (l.drop (j+1)):=by
 rcases z8V j l.length with h | h
 ·rw[z9k h,fc h];rfl
 ·rw[z9l h,z9l (by omega),bx h];simp[valL]
theorem tK {l:List Int} (hd:Dig l){k:Nat} (h:valL l<4294967296^k):∀i,k≤i→at_ l i=0:=by
 intro i hi;by_cases h0:at_ l i=0
 ·exact h0
 ·have h1:=valL_ge hd h0;have h2:=pow_mono' hi;omega
theorem tL {l:List Int} (hd:Dig l){k:Nat} (h:∀i,k≤i→at_ l i=0):valL l<4294967296^k:=by
 have h1:=valL_take h;have h2:=fW hd k;omega
theorem Xa (l:List Int) (j i:Nat):at_ (l.drop j) i=at_ l (j+i):=by simp[at_,z9s]
theorem drop_zero {l:List Int}{k:Nat} (h:∀i,k≤i→at_ l i=0):valL (l.drop k)=0:=
 valL_zero fun i=>by rw[Xa];exact h _ (by omega)
theorem tM {l:List Int}{j n:Nat} (hn:2≤n) (h:∀i,j+n+1≤i→at_ l i=0) :
  valL (l.drop j)=valL ((l.drop j).take (n-2))+4294967296^(n-2)*((at_ l (j+n)*4294967296+at_ l (j+n-1))*4294967296+at_ l (j+n-2)):=by
 rw[tJ (l.drop j) (n-2)];congr 2
 rw[List.drop_drop,ju,ju,ju,drop_zero (k:=j+(n-2)+1+1+1) (fun i hi=>h i (by omega))];rw[show j+(n-2)+1+1=j+n by omega,show j+(n-2)+1=j+n-1 by omega,show j+(n-2)=j+n-2 by omega];omega
theorem Xb {l:List Int}{n:Nat} (hn:2≤n) (h:l.length=n) :
  valL l=valL (l.take (n-2))+4294967296^(n-2)*(at_ l (n-1)*4294967296+at_ l (n-2)):=by
 have:=tM (l:=l) (j:=0) (n:=n) hn (fun i hi=>bx (by omega));simp only[z9u,z9o] at this;rw[this,bx (l:=l) (i:=n) (by omega)];rw[Int.zero_mul,Int.zero_add]
section
variable {u0 u1 u2 lu lv top v2 P U V g rest X Y:Int}
structure Places (u0 u1 u2 lu lv top v2 P U V:Int):Prop where
 hU:U=lu+P*((u0*4294967296+u1)*4294967296+u2)
 hV:V=lv+P*(top*4294967296+v2)
 lu0:0≤lu
 lu1:lu<P
 lv0:0≤lv
 lv1:lv<P
 d0:0≤u0∧u0≤4294967295
 d1:0≤u1∧u1≤4294967295
 d2:0≤u2∧u2≤4294967295
 e1:2147483648≤top∧top≤4294967295
 e2:0≤v2∧v2≤4294967295
 lt:U<V*4294967296
theorem Places.top_ (h:Places u0 u1 u2 lu lv top v2 P U V):u0≤top:=by
 obtain⟨hU,hV,a0,a1,b0,b1,d0,d1,d2,e1,e2,lt⟩:=h;refine Int.not_lt.1 fun hc => ?_
 have hX:(top*4294967296+v2+1)*4294967296≤(u0*4294967296+u1)*4294967296+u2:=by omega
 have h1:=z9w hX (show 0≤P by omega);have h2:P*((top*4294967296+v2+1)*4294967296)=(P*(top*4294967296+v2)+P)*4294967296:=by grind
 rw[h2] at h1;generalize P*(top*4294967296+v2)=p at *;generalize P*((u0*4294967296+u1)*4294967296+u2)=q at *;omega
theorem Places.head (h:Places u0 u1 u2 lu lv top v2 P U V):0≤u0*4294967296+u1∧u0*4294967296+u1≤top*4294967296+4294967295:=by
 have:=h.top_;have:=h.d0;have:=h.d1;omega
theorem Places.start (h:Places u0 u1 u2 lu lv top v2 P U V) :
  (u0*4294967296+u1) / top*top+(u0*4294967296+u1) % top=u0*4294967296+u1∧0≤(u0*4294967296+u1) % top∧(u0*4294967296+u1) % top<top ∧
  0≤(u0*4294967296+u1) / top∧(u0*4294967296+u1) / top≤4294967297∧U<((u0*4294967296+u1) / top+1)*V:=by
 have hh:=h.head;obtain⟨hU,hV,a0,a1,b0,b1,d0,d1,d2,e1,e2,lt⟩:=h;generalize hq:u0*4294967296+u1=q at *;have h1:q / top*top+q % top=q:=by rw[Int.mul_comm];exact z9i q top
 have h2:=z8W q (show top≠0 by omega);have h3:=Int.emod_lt_of_pos q (show 0<top by omega);have h4:0≤q / top:=Int.ediv_nonneg hh.1 (by omega);refine⟨h1,h2,h3,h4,?_,?_⟩
 ·have:q / top<4294967298:=by
   apply Int.ediv_lt_of_lt_mul (by omega);omega
  omega
 ·generalize q / top=g at *;generalize q % top=r at *;have hX:(q*4294967296+u2)+1≤(g+1)*(top*4294967296+v2):=by
   have e:(g+1)*(top*4294967296+v2)=(g*top+top)*4294967296+(g+1)*v2:=by grind
   have e2:0≤(g+1)*v2:=Int.mul_nonneg (by omega) e2.1;rw[e];generalize (g+1)*v2=z at *;generalize g*top=gt at *;omega
  have h5:=z9w hX (show 0≤P by omega);have h6:P*((g+1)*(top*4294967296+v2))=(g+1)*(P*(top*4294967296+v2)):=by grind
  rw[h6,Int.mul_add,Int.mul_one] at h5;have h7:(g+1)*(P*(top*4294967296+v2))≤(g+1)*V:=z9w (by omega) (by omega);generalize (g+1)*(P*(top*4294967296+v2))=x at *;generalize (g+1)*V=y at *;generalize P*(q*4294967296+u2)=z at *;omega
theorem Places.dec (h:Places u0 u1 u2 lu lv top v2 P U V) (hg:0≤g) (hr:0≤rest) (hq:g*top+rest=u0*4294967296+u1) (hc:4294967296≤g∨rest*4294967296+u2<g*v2) :
  1≤g∧U<g*V:=by
 obtain⟨hU,hV,a0,a1,b0,b1,d0,d1,d2,e1,e2,lt⟩:=h;have hg1:1≤g:=by
  rcases hc with hc | hc
  ·omega
  ·rcases Int.lt_or_le 0 g with h0 | h0
   ·omega
   ·obtain rfl:g=0:=by omega
    rw[Int.zero_mul] at hc;omega
 refine⟨hg1,?_⟩;have hV0:0≤V:=by
  have:=Int.mul_nonneg (show 0≤P by omega) (show 0≤top*4294967296+v2 by omega);omega
 rcases hc with hc | hc
 ·have h1:4294967296*V≤g*V:=z9h hc hV0;omega
 ·generalize hq':u0*4294967296+u1=q at *;have hX:(q*4294967296+u2)+1≤g*(top*4294967296+v2):=by
   have e:g*(top*4294967296+v2)=(g*top)*4294967296+g*v2:=by grind
   rw[e];generalize g*v2=z at *;generalize g*top=gt at *;omega
  have h5:=z9w hX (show 0≤P by omega);have h6:P*(g*(top*4294967296+v2))=g*(P*(top*4294967296+v2)):=by grind
  rw[h6,Int.mul_add,Int.mul_one] at h5;have h7:g*(P*(top*4294967296+v2))≤g*V:=z9w (by omega) hg;generalize g*(P*(top*4294967296+v2))=x at *;generalize g*V=y at *;generalize P*(q*4294967296+u2)=z at *;omega
theorem Places.stop (h:Places u0 u1 u2 lu lv top v2 P U V) (hg:0≤g) (hq:g*top+rest=u0*4294967296+u1)
  (hc:4294967296≤rest∨(g<4294967296∧g*v2≤rest*4294967296+u2)):g<4294967296∧(g-1)*V≤U:=by
 have hh:=h.head;obtain⟨hU,hV,a0,a1,b0,b1,d0,d1,d2,e1,e2,lt⟩:=h;generalize hq':u0*4294967296+u1=q at *;have hgB:g<4294967296:=by
  rcases hc with hc | hc
  ·refine Int.not_le.1 fun hge => ?_
   have:=z9h hge (show 0≤top by omega);omega
  ·exact hc.1
 refine⟨hgB,?_⟩;have hX:g*(top*4294967296+v2)≤q*4294967296+u2:=by
  have e:g*(top*4294967296+v2)=(g*top)*4294967296+g*v2:=by grind
  rw[e];rcases hc with hc | hc
  ·have h1:g*v2≤4294967295*4294967295:=Int.mul_le_mul (by omega) e2.2 e2.1 (by omega);generalize g*v2=z at *;generalize g*top=gt at *;omega
  ·have h1:=hc.2;generalize g*v2=z at *;generalize g*top=gt at *;omega
 have hY:0≤top*4294967296+v2:=by omega
 have hPX:0≤P*(q*4294967296+u2):=Int.mul_nonneg (by omega) (by omega);have hPY:0≤P*(top*4294967296+v2):=Int.mul_nonneg (by omega) hY;rcases Int.lt_or_le 0 g with h0 | h0
 ·have h1:(g-1)*V≤(g-1)*(P*(top*4294967296+v2)+P):=z9w (by omega) (by omega);have h2:(g-1)*(P*(top*4294967296+v2)+P)=P*(g*(top*4294967296+v2)-(top*4294967296+v2)+g-1):=by grind
  have h3:P*(g*(top*4294967296+v2)-(top*4294967296+v2)+g-1)≤P*(q*4294967296+u2):=by
   refine z9w ?_ (by omega);generalize g*(top*4294967296+v2)=z at *;omega
  rw[h2] at h1;omega
 ·obtain rfl:g=0:=by omega
  omega
end
theorem Xc {low Bj U V g bor W Bn:Int} (hlow:0≤low∧low<Bj) (hb:bor=0∨bor=1) (hW:W=low+Bj*U-Bj*(g*V)+Bj*Bn*bor) (hW0:0≤W∧W<Bj*Bn) :
  (bor=0→g*V≤U)∧(bor=1→U<g*V):=by
 constructor
 ·rintro rfl;rw[Int.mul_zero,z8Y] at hW;refine Int.not_lt.1 fun hc => ?_
  have h1:Bj*U+Bj≤Bj*(g*V):=by
   have:=z9w (show U+1≤g*V by omega) (show 0≤Bj by omega);rw[Int.mul_add,Int.mul_one] at this;exact this
  omega
 ·rintro rfl;rw[Int.mul_one] at hW;refine Int.not_le.1 fun hc => ?_
  have h1:=z9w hc (show 0≤Bj by omega);omega
theorem Xd {low Bj U V g:Int} (hlow:0≤low∧low<Bj) (h:U<(g+1)*V):low+Bj*U-Bj*(g*V)<V*Bj:=by
 have h2:U-g*V+1≤V:=by rw[Int.add_mul,Int.one_mul] at h;omega
 have h1:=z9w h2 (show 0≤Bj by omega);have e:Bj*(U-g*V+1)=Bj*U-Bj*(g*V)+Bj:=by grind
 have e2:V*Bj=Bj*V:=Int.mul_comm ..;omega
theorem Xe {low Bj U V g c W W2 Bn:Int} (hlow:0≤low∧low<Bj) (hc:c=0∨c=1) (hW:W=low+Bj*U-Bj*(g*V)+Bj*Bn) (hW2:W2=W+Bj*V-Bj*Bn*c) (hb:0≤W2∧W2<Bj*Bn) (hle:(g-1)*V≤U) :
  W2=low+Bj*U-Bj*((g-1)*V):=by
 have e:Bj*((g-1)*V)=Bj*(g*V)-Bj*V:=by grind
 have h1:=z9w hle (show 0≤Bj by omega);rcases hc with rfl | rfl
 ·rw[Int.mul_zero] at hW2;omega
 ·rw[Int.mul_one] at hW2;omega
end Go.Proofs.YtbnhgnhgbhjkcaaGreat
