/- Lemmas. -/
import Derived.Test.YtbnhgnhgbhjkcaaGreatL3
import Derived.Shelf.Small.Bits
import Derived.Test.YtbnhgnhgbhjkcaaGreatL4
namespace Go.Proofs.YtbnhgnhgbhjkcaaGreat.Mp
def eg:TL→Rat×Mo→TL
 |[],t=>if t.1=0 then [] else [t]
 |x::l,t=>if x.2=t.2 then (if x.1+t.1=0 then l else (x.1+t.1,t.2)::l) else x::eg l t
structure Dst (l:TL):Prop where
 ne:l.Pairwise fun x y=>x.2≠y.2
 nz:∀x∈l,x.1≠0
theorem qn:∀(l:TL) (t:Rat×Mo) (e:Mo),cf (eg l t) e=cf l e+cf [t] e
 |[],t,e=>by
  unfold eg;split
  ·rename_i h;rw[cf_nil,gB,h];split<;>grind
  ·rw[cf_nil,Rat.zero_add]
 |x::l,t,e=>by
  unfold eg;split
  ·rename_i h;split
   ·rw[cf_cons,gB,h];split<;>grind
   ·rw[cf_cons,cf_cons,gB,h];split<;>grind
  ·rw[cf_cons,qn l t e,cf_cons x l];grind
theorem qo {t:Rat×Mo}:∀{l:TL}{y:Rat×Mo},y∈eg l t→y.2=t.2∨y∈l
 |[],y,h=>by
  unfold eg at h;split at h
  ·cases h
  ·rcases List.mem_cons.1 h with rfl | h
   ·exact .inl rfl
   ·cases h
 |x::l,y,h=>by
  unfold eg at h;split at h
  ·split at h
   ·exact .inr (List.mem_cons_of_mem _ h)
   ·rcases List.mem_cons.1 h with rfl | h
    ·exact .inl rfl
    ·exact .inr (List.mem_cons_of_mem _ h)
  ·rcases List.mem_cons.1 h with rfl | h
   ·exact .inr List.mem_cons_self
   ·rcases qo h with h | h
    ·exact .inl h
    ·exact .inr (List.mem_cons_of_mem _ h)
theorem yT {n:Nat}{t:Rat×Mo} (ht:t.2.length=n){l:TL} (hw:Wd n l):Wd n (eg l t):=fun y hy=>by
 rcases qo hy with e | hy
 ·rw[e,ht]
 ·exact hw y hy
def growL (a l:TL):TL:=l.foldl eg a
theorem growL_cf (e:Mo):∀(l a:TL),cf (growL a l) e=cf a e+cf l e
 |[],a=>by rw[cf_nil,Rat.add_zero];rfl
 |t::l,a=>by
  show cf (growL (eg a t) l) e=_
  rw[growL_cf e l,qn,gB,cf_cons];grind
theorem growL_wd {n:Nat}:∀{l a:TL},Wd n a→Wd n l→Wd n (growL a l)
 |[],_,h,_=>h
 |t::l,a,h,k=>growL_wd (l:=l) (a:=eg a t) (yT (k t List.mem_cons_self) h) k.tail
theorem canon_mem {ord:Int}:∀{l:TL}{y:Rat×Mo},y∈canon ord l→∃x∈l,x.2=y.2
 |[],y,h=>by cases h
 |t::l,y,h=>by
  rcases ka h with e | h
  ·exact⟨t,List.mem_cons_self,e.symm⟩
  ·obtain⟨x,h1,h2⟩:=canon_mem h;exact⟨x,List.mem_cons_of_mem _ h1,h2⟩
def cO (a b:Mo):Mo:=List.zipWith (· + ·) a b
def mulL (a b:TL):TL:=a.flatMap fun x=>b.map fun y=>(x.1*y.1,cO x.2 y.2)
theorem qp (f:Mo→Rat) (c:Mo→Rat) (g:Mo→Mo):∀l:TL,Sf f (l.map fun x=>(x.1*c x.2,g x.2))=Sf (fun e=>c e*f (g e)) l
 |[]=>rfl
 |x::l=>by rw[List.map_cons,Sf,Sf,qp f c g l];grind
theorem qr (f:Mo→Rat) (c:Rat) (g:Mo→Mo):∀l:TL,Sf f (l.map fun x=>(c*x.1,g x.2))=c*Sf (fun e=>f (g e)) l
 |[]=>by rw[List.map_nil,tV,tV,Rat.mul_zero]
 |x::l=>by rw[List.map_cons,Sf,Sf,qr f c g l];grind
theorem Sf_mulL (f:Mo→Rat) (b:TL):∀a:TL,Sf f (mulL a b)=Sf (fun e=>Sf (fun q=>f (cO e q)) b) a
 |[]=>rfl
 |x::a=>by
  have ih:=Sf_mulL f b a;unfold mulL at ih ⊢;rw[List.flatMap_cons,Sf_app,ih,Sf,qr f x.1 (fun q=>cO x.2 q)]
theorem cf_mulL {a a' b b':TL} (ha:∀e,cf a e=cf a' e) (hb:∀e,cf b e=cf b' e) (e:Mo):cf (mulL a b) e=cf (mulL a' b') e:=by
 unfold cf;rw[Sf_mulL,Sf_mulL,jH _ ha];congr 1;funext q;exact jH _ hb
def fixL (v:Nat) (x:Rat) (l:TL):TL:=l.map fun t=>(t.1*x^(t.2.getD v 0).toNat,t.2.set v 0)
theorem yU (f:Mo→Rat) (v:Nat) (x:Rat) (l:TL):Sf f (fixL v x l)=Sf (fun e=>x^(e.getD v 0).toNat*f (e.set v 0)) l:=qp f (fun e=>x^(e.getD v 0).toNat) (fun e=>e.set v 0) l
def derL (v:Nat):TL→TL
 |[]=>[]
 |t::l=>if 0<t.2.getD v 0 then (t.1*(t.2.getD v 0:Int),t.2.set v (t.2.getD v 0-1))::derL v l else derL v l
theorem gD (f:Mo→Rat) (v:Nat):∀l:TL,Sf f (derL v l)=Sf (fun e=>if 0<e.getD v 0 then ((e.getD v 0:Int):Rat)*f (e.set v (e.getD v 0-1)) else 0) l
 |[]=>rfl
 |t::l=>by
  unfold derL;split
  ·rename_i h;rw[Sf,Sf,gD f v l,if_pos h];grind
  ·rename_i h;rw[Sf,gD f v l,if_neg h];grind
theorem cf_derL {l m:TL} (h:∀e,cf l e=cf m e) (v:Nat) (e:Mo):cf (derL v l) e=cf (derL v m) e:=by
 unfold cf;rw[gD,gD,jH _ h]
def pv:List Rat→Mo→Rat
 |x::xs,e::es=>x^e.toNat*pv xs es
 |_,_=>1
theorem qs:∀(xs:List Rat) (e:Mo) (v:Nat),v<xs.length→v<e.length→(xs.getD v 0)^(e.getD v 0).toNat*pv xs (e.set v 0)=pv xs e
 |x::xs,a::e,0,_,_=>by
  simp only[List.getD_cons_zero,List.set_cons_zero,pv];rw[show (0:Int).toNat=0 from rfl,Rat.pow_zero,Rat.one_mul]
 |x::xs,a::e,v+1,h1,h2=>by
  simp only[List.getD_cons_succ,List.set_cons_succ,pv];rw[←qs xs e v (by simpa using h1) (by simpa using h2)];grind
 |[],_,_,h,_=>by simp at h
 |_::_,[],_,_,h=>by simp at h
theorem pv_zero:∀(xs:List Rat) (e:Mo),(∀x∈e,x=0)→pv xs e=1
 |[],_,_=>by simp[pv]
 |_::_,[],_=>by simp[pv]
 |x::xs,a::e,h=>by
  rw[pv,h a List.mem_cons_self,pv_zero xs e fun y hy=>h y (List.mem_cons_of_mem _ hy)];rw[show (0:Int).toNat=0 from rfl,Rat.pow_zero,Rat.one_mul]
theorem pow_add' (x:Rat) (m:Nat):∀n:Nat,x^(m+n)=x^m*x^n
 |0=>by rw[Nat.add_zero,Rat.pow_zero,Rat.mul_one]
 |n+1=>by rw[←Nat.add_assoc,Rat.pow_succ,Rat.pow_succ,pow_add' x m n];grind
theorem qt:∀(xs:List Rat) (a b:Mo),a.length=b.length→(∀x∈a,0≤x)→(∀x∈b,0≤x)→pv xs (cO a b)=pv xs a*pv xs b
 |[],a,b,_,_,_=>by simp[pv,Rat.mul_one]
 |x::xs,[],[],_,_,_=>by simp[pv,cO,Rat.mul_one]
 |x::xs,p::a,q::b,hl,ha,hb=>by
  have hp:=ha p List.mem_cons_self;have hq:=hb q List.mem_cons_self;have ih:=qt xs a b (by simpa using hl) (fun y hy=>ha y (List.mem_cons_of_mem _ hy)) (fun y hy=>hb y (List.mem_cons_of_mem _ hy));have e:cO (p::a) (q::b)=(p+q)::cO a b:=rfl;rw[e,pv,pv,pv,ih,show (p+q).toNat=p.toNat+q.toNat by omega,pow_add'];grind
 |_::_,[],_::_,h,_,_=>by simp at h
 |_::_,_::_,[],h,_,_=>by simp at h
def ev (xs:List Rat) (l:TL):Rat:=Sf (pv xs) l
theorem ev_canon (ord:Int) (xs:List Rat) (l:TL):ev xs (canon ord l)=ev xs l:=wJ ord _ l
theorem ev_fix {n:Nat}{xs:List Rat}{l:TL}{v:Nat} (h:Wd n l) (hv:v<n) (hx:xs.length=n):ev xs (fixL v (xs.getD v 0) l)=ev xs l:=by
 unfold ev;rw[yU];exact Sf_congr fun t ht=>qs xs t.2 v (by omega) (by rw[h t ht];exact hv)
def Pos (l:TL):Prop:=∀x∈l,∀e∈x.2,0≤e
theorem ev_mul {n:Nat}{xs:List Rat}{a b:TL} (ha:Wd n a) (hb:Wd n b) (pa:Pos a) (pb:Pos b):ev xs (mulL a b)=ev xs a*ev xs b:=by
 unfold ev;rw[Sf_mulL];rw[Sf_congr (g:=fun e=>Sf (pv xs) b*pv xs e) fun x hx => ?_,jG,Rat.mul_comm];rw[Sf_congr (g:=fun q=>pv xs x.2*pv xs q) fun y hy=>qt xs x.2 y.2 (by rw[ha x hx,hb y hy]) (pa x hx) (pb y hy),jG,Rat.mul_comm]
theorem qu (v:Nat):∀(a b:Mo),a.length=b.length→v<a.length→(cO a b).getD v 0=a.getD v 0+b.getD v 0∧∀x y:Int,cO (a.set v x) (b.set v y)=(cO a b).set v (x+y)
 |[],_,_,h=>by simp at h
 |_::_,[],h,_=>by simp at h
 |p::a,q::b,hl,hv=>by
  cases v with
  |zero=>exact⟨rfl,fun _ _=>rfl⟩
  |succ v =>
   obtain⟨h1,h2⟩:=qu v a b (by simpa using hl) (by simpa using hv);exact⟨h1,fun x y=>by
    have:=h2 x y;show (p+q)::cO (a.set v x) (b.set v y)=(p+q)::(cO a b).set v (x+y)
    rw[this]⟩
theorem yV (v:Nat) (a:Mo):a.set v (a.getD v 0)=a:=by
 apply List.ext_getElem (by simp);intro i h1 h2;rw[List.getElem_set];split
 ·rename_i e;subst e;simp at h2 ⊢;simp[h2]
 ·rfl
theorem mF {a:Mo} (h:∀e∈a,(0:Int)≤e) (v:Nat):0≤a.getD v 0:=by
 by_cases hv:v<a.length
 ·have:a.getD v 0=a[v]:=by simp[hv]
  rw[this];exact h _ (List.getElem_mem hv)
 ·simp[List.getElem?_eq_none (Nat.le_of_not_lt hv)]
theorem leibniz {n v:Nat}{a b:TL} (hv:v<n) (ha:Wd n a) (hb:Wd n b) (pa:Pos a) (pb:Pos b) (e:Mo):cf (derL v (mulL a b)) e=cf (mulL (derL v a) b) e+cf (mulL a (derL v b)) e:=by
 unfold cf;generalize (fun q:Mo=>if q=e then (1:Rat) else 0)=f;rw[gD,Sf_mulL,Sf_mulL,Sf_mulL,gD,←Sf_add];refine Sf_congr fun x hx => ?_
 have e1:(if 0<x.2.getD v 0 then ((x.2.getD v 0:Int):Rat)*Sf (fun q=>f (cO (x.2.set v (x.2.getD v 0-1)) q)) b else 0)=Sf (fun q=>((x.2.getD v 0:Int):Rat)*f (cO (x.2.set v (x.2.getD v 0-1)) q)) b:=by
  split
  ·rw[jG]
  ·rename_i h;have:=mF (pa x hx) v;rw[jG,show x.2.getD v 0=0 by omega];rw[show ((0:Int):Rat)=0 from rfl,Rat.zero_mul]
 rw[e1,gD,←Sf_add];refine Sf_congr fun y hy => ?_
 have hl:x.2.length=y.2.length:=by rw[ha x hx,hb y hy]
 obtain⟨h1,h2⟩:=qu v x.2 y.2 hl (by rw[ha x hx];exact hv);have p1:=mF (pa x hx) v;have p2:=mF (pb y hy) v;have g1:=h2 (x.2.getD v 0-1) (y.2.getD v 0);have g2:=h2 (x.2.getD v 0) (y.2.getD v 0-1);rw[yV] at g1 g2;rw[g1,h1];have g3:cO x.2 (y.2.set v (y.2.getD v 0-1))=(cO x.2 y.2).set v (x.2.getD v 0+(y.2.getD v 0-1)):=g2;rw[g3,show x.2.getD v 0-1+y.2.getD v 0=x.2.getD v 0+y.2.getD v 0-1 by omega,show x.2.getD v 0+(y.2.getD v 0-1)=x.2.getD v 0+y.2.getD v 0-1 by omega];generalize f ((cO x.2 y.2).set v (x.2.getD v 0+y.2.getD v 0-1))=z;generalize x.2.getD v 0=i at *;generalize y.2.getD v 0=j at *;by_cases hj:0<j
 ·rw[if_pos (by omega),if_pos hj,Rat.intCast_add];grind
 ·obtain rfl:j=0:=by omega
  rw[if_neg (by omega:¬ (0:Int)<0)];by_cases hi:0<i
  ·rw[if_pos (by omega),Int.add_zero,Rat.add_zero]
  ·obtain rfl:i=0:=by omega
   rw[if_neg (by omega)];rw[show ((0:Int):Rat)=0 from rfl];grind
end Go.Proofs.YtbnhgnhgbhjkcaaGreat.Mp
namespace Go.Proofs.YtbnhgnhgbhjkcaaGreat
open Go.RowKit
structure IV where
 n:Bool
 s:SV
def IsI (w:World) (x:IV) (z:Int):Prop:=
 ∃l,IsL w x.s .u32 l∧Norm l∧z=sg x.n (valL l)∧(l=[]→x.n=false)∧Sm z
theorem IsI.keep {w w':World}{x:IV}{z:Int} (h:IsI w x z) (e:Ext w w'):IsI w' x z:=by
 obtain⟨l,h1,h2⟩:=h;exact⟨l,h1.keep e,h2⟩
theorem IsI.kept {w w':World}{x:IV}{z:Int} (h:IsI w x z) (e:bC 173 w w'):IsI w' x z:=by
 obtain⟨l,h1,h2⟩:=h;exact⟨l,h1.kept e,h2⟩
theorem kh (w:World):IsI w ⟨false,⟨none,0,0⟩⟩ 0:=⟨[],sU w _,.inl rfl,by simp[sg,valL],fun _=>rfl,vg⟩
def im (w:World) (z:Int) (e:Ending) (w':World):Prop:=
 ∃x:IV,e = .returned (.agg #[.bool x.n,.slice x.s.a x.s.len x.s.cap])∧IsI w' x z∧Ext w w'
theorem xi {w:World}{neg:Bool}{ao:Option Addr}{cap k:Nat}{l:List Int} (h:IsL w ⟨ao,l.length,cap⟩ .u32 l) (hk:k+1≤l.length)
  (hz:∀j,k+1≤j→at_ l j=0) (hne:at_ l k≠0) (hcm:cap≤9223372036854775807) (hs:Sm (sg neg (valL l))):IsI w ⟨neg,⟨ao,k+1,k+1⟩⟩ (sg neg (valL l)):=by
 have hcap:l.length≤cap:=h.1.2.1;refine⟨l.take (k+1),h.take hk (Nat.le_refl _) (by omega),.inr ?_,by rw[valL_take hz],fun e => ?_,hs⟩
 ·have:(l.take (k+1)).length-1=k:=by simp;omega
  rw[this];simpa[at_] using hne
 ·have:=congrArg List.length e;rw[List.length_take,List.length_nil] at this;omega
set_option maxHeartbeats 400000 in
theorem made_any (neg:Bool) (s:SV) (l:List Int) (w:World) (h:IsL w s .u32 l) (hs:Sm (sg neg (valL l))) :
  Calls Tryz.prog 103 #[.bool neg,.slice s.a s.len s.cap] w (im w (sg neg (valL l))):=by
 obtain⟨ao,cap,rfl,hcap,hcm,hop⟩:=h.open_;replace hs:=hd_ hs;go_enter Tryz.func103,Tryz.ntmps103;go_wp2;go_loop [5] (fun n => ∃k:Nat,k≤l.length∧n = .int .i64 k∧(∀j,k≤j→at_ l j=0)) (fun n=>(intOf n).toNat)
 case atStart=>exact⟨l.length,Nat.le_refl _,rfl,fun j hj=>bJ hj⟩
 case round =>
  obtain⟨k,hk,rfl,hz⟩:=hrel
  match k,hk,hz with
  |0,hk,hz =>
   have H0:=hd_ (valL_zero (fun j=>hz j (by omega)));clear hz;go_wp2;refine bodyPost_ret (v:=.agg #[.bool false,.slice none 0 0]) (by simp[results,Tryz.results103,go_sem]) rfl ⟨⟨false,⟨none,0,0⟩⟩,rfl,?_,(Ext.rf _).al _⟩;rw[H0.out];cases neg<;>exact kh _
  |k+1,hk,hz =>
   have Hz:=hd_ hz;clear hz;obtain⟨b,off,rfl,hb,hc⟩:=hop (by omega);have hbl:=hb.lt;have hc:=hc k (by omega);have hf:=h.fit (i:=k) (by omega);by_cases h0:at_ l k=0
   ·have h0':(at_ l k == 0)=true:=by simp[h0]
    have H0:=hd_ h0;clear h0;go_wp2;go_round
    case rel=>exact⟨k,by omega,by go_num,fun j hj=>if e:j=k then by rw[e];exact H0.out else Hz.out j (by omega)⟩
    case measure=>first | (simp[intOf];done) | (simp[intOf];omega)
   ·have h0':(at_ l k == 0)=false:=by simp[h0]
    go_wp2;refine bodyPost_ret (v:=.agg #[.bool neg,.slice (some ⟨b,off,none⟩) (k+1) (k+1)]) (by simp[results,Tryz.results103,go_sem]) rfl ⟨⟨neg,⟨some ⟨b,off,none⟩,k+1,k+1⟩⟩,rfl,?_,?_⟩
    ·exact (xi h hk Hz.out h0 hcm hs.out).keep (((Ext.rf _).al _))
    ·exact (Ext.rf _).al _
theorem IsI.open_ {w:World}{x:IV}{z:Int} (h:IsI w x z):∃l,IsL w x.s .u32 l∧Norm l∧Dig l∧l.length≤274877906945∧z=sg x.n (valL l)∧(l=[]→x.n=false)∧Sm z:=by
 obtain⟨l,h1,h2,h3,h4,h5⟩:=h;refine⟨l,h1,h2,h1.2,?_,h3,h4,h5⟩;have hb:Bt (valL l) ez:=by
  rw[h3] at h5;exact h5.bt.le (by rw[gA];exact Nat.le_refl _)
 have:=len_of_bt h1.2 h2 hb;rw[iX] at this;omega
def Rw (w:World) (base:Nat) (k:IntKind) (s:SV) (l:List Int):Prop:=w.ownsRow base (ET k) 1 (.slice s.a s.len s.cap) l.length (l.map (Value.int k))
section
variable {w w':World}{base:Nat}{k:IntKind}{s:SV}{l:List Int}
theorem Rw.nil_ (w:World) (base:Nat) (k:IntKind):Rw w base k ⟨none,0,0⟩ []:=World.ownsRow_nil _ _ _ _
theorem Rw.len (h:Rw w base k s l):s.len=l.length:=by
 rcases h.2 with⟨hv,hl⟩ | ⟨g,cap,cur,hv,_⟩
 ·injection hv with _ e _;omega
 ·injection hv
theorem Rw.cap_ (h:Rw w base k s l):l.length≤s.cap∧s.cap≤9223372036854775807:=by
 rcases h.2 with⟨hv,hl⟩ | ⟨g,cap,cur,hv,_,_,h1,h2,_⟩
 ·injection hv with _ _ e;omega
 ·injection hv with _ _ e;subst e;exact⟨h1,h2⟩
theorem Rw.keep (h:Rw w base k s l) (e:Ext w w'):Rw w' base k s l:=by
 obtain⟨h1,h2⟩:=h;refine⟨h1,?_⟩;rcases h2 with h2 | ⟨g,cap,cur,hv,hb,hg,rest⟩
 ·exact .inl h2
 ·exact .inr ⟨g,cap,cur,hv,hb,(e.block g (Array.getElem?_eq_some_iff.1 hg).1).trans hg,rest⟩
theorem Rw.al (h:Rw w base k s l) (o:Obj):Rw (w.alloc o) base k s l:=h.keep ((Ext.rf w).al o)
theorem Rw.kept (h:Rw w base k s l) (e:bC (ET k) w w'):Rw w' base k s l:=by
 obtain⟨h1,h2⟩:=h;refine⟨h1,?_⟩;rcases h2 with h2 | ⟨g,cap,cur,hv,hb,hg,rest⟩
 ·exact .inl h2
 ·exact .inr ⟨g,cap,cur,hv,hb,(e g ⟨_,_,hg⟩).trans hg,rest⟩
theorem Rw.open_ (h:Rw w base k s l) (hl:0<l.length):∃g cap,s=⟨some ⟨g,0,none⟩,l.length,cap⟩∧base≤g∧Ty w g (ET k)∧l.length≤cap∧cap≤9223372036854775807 ∧
  (∀j,j<l.length→w.cell? ⟨g,j,none⟩=some (.int k (at_ l j)))∧(∀j,w.frozen? ⟨g,j,none⟩=false):=by
 have h0:=h;rcases h.2 with⟨hv,hn⟩ | ⟨g,cap,cur,hv,hb,hg,h1,h2,_⟩
 ·omega
 ·obtain⟨a,n,c⟩:=s;simp only[Value.slice.injEq] at hv;obtain⟨rfl,rfl,rfl⟩:=hv;refine⟨g,c,rfl,hb,⟨_,_,hg⟩,h1,h2,fun j hj => ?_,fun j=>World.ownsRow.frozenAt h0 j⟩;have:=World.ownsRow.cellAt h0 j (by simpa using hj);rw[this];simp[at_,hj]
theorem Rw.set {g cap:Nat} (h:Rw w base k ⟨some ⟨g,0,none⟩,l.length,cap⟩ l) (j:Nat) (v:Int):Rw (w.setCell ⟨g,j,none⟩ (.int k v)) base k ⟨some ⟨g,0,none⟩,l.length,cap⟩ (l.set j v):=by
 have:=(World.ownsRow.stored h j (.int k v)).1;unfold Rw;rw[List.length_set,List.map_set];exact this
theorem Rw.set' {g n cap:Nat} (h:Rw w base k ⟨some ⟨g,0,none⟩,n,cap⟩ l) (j:Nat) (v:Int):Rw (w.setCell ⟨g,j,none⟩ (.int k v)) base k ⟨some ⟨g,0,none⟩,n,cap⟩ (l.set j v):=by
 obtain rfl:n=l.length:=h.len;exact h.set j v
theorem Rw.isL (h:Rw w base k s l) (hf:∀x∈l,Fit k x):IsL w s k l:=by
 have h1:=h.len;have h2:=h.cap_;obtain⟨a,n,c⟩:=s;simp only at h1 h2;subst h1;refine IsL.mk_ h2.1 h2.2 (fun hl => ?_) hf;obtain⟨g,cap,he,hb,ht,_,_,hc,_⟩:=h.open_ hl;simp only[SV.mk.injEq] at he;exact⟨g,0,he.1,ht,fun j hj=>by rw[Nat.zero_add];exact hc j hj⟩
theorem Rw.take {g n cap m:Nat} (h:Rw w base k ⟨some ⟨g,0,none⟩,n,cap⟩ l) (hm:m≤n):Rw w base k ⟨some ⟨g,0,none⟩,m,cap⟩ (l.take m):=by
 obtain rfl:n=l.length:=h.len;have hl:(l.take m).length=m:=by simp;omega
 rcases h.2 with⟨hv,_⟩ | ⟨g',cap',cur,hv,hb,hg,h1,h2,h3,h4⟩
 ·cases hv
 ·simp only[Value.slice.injEq] at hv;obtain⟨e1,-,rfl⟩:=hv;unfold Rw;rw[hl];refine⟨by simp;omega,.inr ⟨g',cap,cur,by rw[e1],hb,hg,by omega,h2,h3,?_⟩⟩;rw[List.map_take,←h4,List.take_take];congr 1;omega
end
theorem eB {P:Program} (w:World){ops:Array Oper}{rest:List Oper}{o:Oper}{a:Act}{Q:Exit→Act→World→Prop} (hgd:o.guard=none) (sl x:Operand) (t:TypeId)
  (ho:o.op = .call { callee:=.builtin .append,args:=#[sl,x],argTypes:=#[t,t] })
  (k:IntKind) (bytes:Nat) (ht:P.underlying t=some (.slice (ET k))) (hinfo:(P.info? (ET k)).map (fun i=>(i.zero,i.size,i.bytes))=some (some (.int k 0),1,bytes))
  (W0:World) (s:SV) (l:List Int) (v:Int) (hs:a.eval sl = .slice s.a s.len s.cap) (hx:a.eval x = .slice (some ⟨w.heap.size,0,none⟩) 1 1) (hown:Rw w W0.heap.size k s l) (hE:Ext W0 w)
  (hb:(l.length+1)*bytes≤140737488355328) (h63:l.length+1≤9223372036854775807)
  (h:∀(s':SV) (w':World),Rw w' W0.heap.size k s' (l++[v])→Ext W0 w'→(∀T,T≠ET k→bC T w w')→wpList P ops Q rest (a.put o.dst (.slice s'.a s'.len s'.cap)) w') :
  wpList P ops Q (o::rest) a (w.alloc (.cells #[.int k v] (ET k))):=by
 obtain⟨i,hi,hz0,hz1,hz2⟩:=info_parts hinfo;refine wpList_append_own _ hgd sl x t ho W0.heap.size (ET k) i _ 1 bytes ht hi hz0 hz1 hz2 rfl (by omega) (.slice s.a s.len s.cap) l.length (l.map (Value.int k)) hs (hown.al _) ⟨w.heap.size,0,none⟩ 1 1 [.int k v] hx rfl
  (by intro j u hu;match j,hu with | 0,hu=>simp at hu;subst hu;simp[Addr.add]) (by intro u hu;simp at hu;subst hu;rfl) h63 hb (Nat.le_trans hE.size (by simp)) ?_
 intro v' w' hown' hgr hnil;have hform:∃s':SV,v' = .slice s'.a s'.len s'.cap:=by
  rcases hown'.2 with⟨e,_⟩ | ⟨g,cap,cur,e,_⟩
  ·exact⟨⟨none,0,0⟩,e⟩
  ·exact⟨⟨some ⟨g,0,none⟩,_,cap⟩,e⟩
 obtain⟨s',rfl⟩:=hform;refine h s' w' ?_ ((hE.al _).gr hgr ?_) ?_
 ·unfold Rw;rw[List.length_append,List.map_append];exact hown'
 ·intro g hg;rcases hown.2 with⟨e,_⟩ | ⟨g',cap,cur,e,hb',_⟩
  ·rw[e] at hg;cases hg
  ·rw[e] at hg;simp only[Value.ownBlock,Option.some.injEq] at hg;omega
 ·intro T hT b hb;refine (hgr.block b (by have:=hb.lt;simp;omega) ?_).trans (Below.heap_alloc _ _ _ hb.lt);intro e;rcases hown.2 with⟨e',_⟩ | ⟨g',cap,cur,e',_,hg',_⟩
  ·rw[e'] at e;cases e
  ·rw[e'] at e;simp only[Value.ownBlock,Option.some.injEq] at e;subst e;exact Ty.ne_ hb ⟨_,_,hg'⟩ hT rfl
def bs (l:List UInt8):ByteArray:=⟨l.toArray⟩
def byt (l:List UInt8) (i:Nat):Nat:=(l.getD i 0).toNat
@[simp,go_sem] theorem Z8 (l:List UInt8):(bs l).size=l.length:=by simp[bs,ByteArray.size]
@[simp,go_sem] theorem zgX (l:List UInt8):(bs l).data=l.toArray:=rfl
@[simp,go_sem] theorem zgY (l:List UInt8):(bs l).toList=l:=by
 rw[ByteArray.toList_eq];simp[bs]
@[simp,go_sem] theorem zgZ (l:List UInt8) (i:Nat) (h:i<(bs l).size):((bs l)[i]'h).toNat=byt l i:=by
 have h':i<l.length:=by simpa using h
 simp[byt,h',bs,ByteArray.getElem_eq_getElem_data]
@[simp,go_sem] theorem zg0 (l:List UInt8) (a b:Nat):(bs l).extract a b=bs ((l.drop a).take (b-a)):=ByteArray.extract_mk l a b
@[simp,go_sem] theorem zg1 (l m:List UInt8):bs l++bs m=bs (l++m):=ByteArray.mk_append_mk l m
@[simp,go_sem] theorem zg2 (l:List UInt8):List.take (l.length-1) l.tail=l.tail:=List.take_of_length_le (by simp)
@[simp,go_sem] theorem zg3 (l:List UInt8) (a:Nat):List.take (l.length-a) (List.drop a l)=List.drop a l:=List.take_of_length_le (by simp)
def aX (m:List UInt8):List Int:=m.map fun c=>(c.toNat:Int)
@[simp] theorem Z9 (m:List UInt8):(aX m).length=m.length:=by simp[aX]
theorem jN (m:List UInt8) (i:Nat):at_ (aX m) i=byt m i:=by
 by_cases h:i<m.length
 ·simp[at_,aX,byt,h]
 ·simp[at_,aX,byt,h]
theorem oV (m:List UInt8):∀x∈aX m,Fit .u8 x:=by
 intro x hx;simp only[aX,List.mem_map] at hx;obtain⟨c,_,rfl⟩:=hx;have:=UInt8.toNat_lt c;show 0≤_∧_≤_
 omega
theorem zaa {P:Program} (w:World){ops:Array Oper}{rest:List Oper}{o:Oper}{a:Act}{Q:Exit→Act→World→Prop} (hgd:o.guard=none) (src dst:TypeId) (x:Operand) (hop:o.op=Op.convert src dst x)
  (hs:P.underlying src=some .string) (hd:P.underlying dst=some (.slice (ET .u8))) (he:P.underlying (ET .u8)=some (.int .u8)) (m:List UInt8) (hx:a.eval x = .string (bs m)) (hm:m.length≤9223372036854775807)
  (h:∀(cap:Nat) (w':World),IsL w' ⟨some ⟨w.heap.size,0,none⟩,m.length,cap⟩ .u8 (aX m)→Ext w w'→(∀j,j<m.length→w'.cell? ⟨w.heap.size,j,none⟩=some (.int .u8 (byt m j)))→wpList P ops Q rest (a.put o.dst (.slice (some ⟨w.heap.size,0,none⟩) m.length cap)) w') :
  wpList P ops Q (o::rest) a w:=by
 refine wpList_plain hgd fun K hK' => ?_
 have hrun:=run_bytes_of_string (P:=P) w src dst (ET .u8) (bs m) hs hd he;rw[Z8] at hrun;unfold Oper.wp;simp[execOp,hop,hx,hrun,Result.andThen];have hge:=grownCap_ge w m.length 0 (ET .u8);have hle:=grownCap_le_maxLen w m.length 0 (ET .u8) hm;have hcell:∀j,j<m.length→(w.drew.alloc (.cells (bytesRow (bs m) (grownCap w m.length 0 (ET .u8))) (ET .u8) ((bytesRow (bs m) (grownCap w m.length 0 (ET .u8))).size,(bytesRow (bs m) (grownCap w m.length 0 (ET .u8))).size+1))).cell? ⟨w.heap.size,j,none⟩=some (.int .u8 (byt m j)):=by
  intro j hj;have:=World.cell?_alloc_mark w.drew (bytesRow (bs m) (grownCap w m.length 0 (ET .u8))) (ET .u8) ((bytesRow (bs m) (grownCap w m.length 0 (ET .u8))).size,(bytesRow (bs m) (grownCap w m.length 0 (ET .u8))).size+1) j;refine this.trans ?_;rw[bytesRow_at (bs m) _ j (by simpa[bs] using hj)];simp[bs,byt,hj]
 refine hK' _ _ (h _ _ ?_ ((Ext.rf w).dr.al _) hcell);have hl:(aX m).length=m.length:=Z9 m;have:=IsL.mk_ (w:=w.drew.alloc (.cells (bytesRow (bs m) (grownCap w m.length 0 (ET .u8))) (ET .u8) ((bytesRow (bs m) (grownCap w m.length 0 (ET .u8))).size,(bytesRow (bs m) (grownCap w m.length 0 (ET .u8))).size+1))) (ao:=some ⟨w.heap.size,0,none⟩) (cap:=grownCap w m.length 0 (ET .u8)) (k:=.u8) (l:=aX m) (by rw[hl];exact hge) hle
  (fun _=>⟨w.heap.size,0,rfl,⟨_,_,heap_alloc_new w.drew _⟩,fun j hj=>by rw[Nat.zero_add,jN];exact hcell j (by rw[←hl];exact hj)⟩) (oV m)
 rw[hl] at this;exact this
end Go.Proofs.YtbnhgnhgbhjkcaaGreat
namespace Go.Proofs.YtbnhgnhgbhjkcaaGreat.Z4
def valL:List Int→Int
 |[]=>0
 |x::t=>x+10000*valL t
def Dig (l:List Int):Prop:=∀x∈l,0≤x∧x≤9999
def Norm (l:List Int):Prop:=l=[]∨at_ l (l.length-1)≠0
theorem Dig.at_ {l:List Int} (h:Dig l) (i:Nat):0≤at_ l i∧at_ l i≤9999:=by
 by_cases hi:i<l.length
 ·exact h _ (at_mem hi)
 ·rw[bJ (by omega)];omega
theorem Dig.tail {x:Int}{t:List Int} (h:Dig (x::t)):Dig t:=fun y hy=>h y (List.mem_cons_of_mem _ hy)
theorem valL_nonneg {l:List Int} (h:Dig l):0≤valL l:=by
 induction l with
 |nil=>simp[valL]
 |cons x t ih=>have:=ih h.tail;have:=h x (List.mem_cons_self ..);simp only[valL];omega
theorem valL_zero {l:List Int} (h:∀j,at_ l j=0):valL l=0:=by
 induction l with
 |nil=>rfl
 |cons x t ih =>
  have h0:=h 0;have ht:∀j,at_ t j=0:=fun j=>by have:=h (j+1);rwa[ce] at this
  rw[eO] at h0;simp[valL,h0,ih ht]
theorem valL_take {l:List Int}{k:Nat} (h:∀j,k≤j→at_ l j=0):valL (l.take k)=valL l:=by
 induction l generalizing k with
 |nil=>simp
 |cons x t ih =>
  match k with
  |0=>rw[valL_zero (l:=x::t) (fun j=>h j (by omega))];rfl
  |k+1 =>
   simp only[List.take_succ_cons,valL];rw[ih (fun j hj=>by have:=h (j+1) (by omega);rwa[ce] at this)]
theorem valL_pos {l:List Int} (hd:Dig l){i:Nat} (hi:at_ l i≠0):0<valL l:=by
 induction l generalizing i with
 |nil=>simp[at_] at hi
 |cons x t ih =>
  have hx:=hd x (List.mem_cons_self ..);have ht:=valL_nonneg hd.tail;simp only[valL]
  match i with
  |0=>rw[eO] at hi;omega
  |i+1=>rw[ce] at hi;have:=ih hd.tail hi;omega
theorem valL_pos' {l:List Int} (hd:Dig l) (hn:Norm l) (hne:l≠[]):0<valL l:=by
 rcases hn with h | h
 ·exact absurd h hne
 ·exact valL_pos hd h
theorem valL_eq_zero {l:List Int} (hd:Dig l) (hn:Norm l):valL l=0↔l=[]:=by
 constructor
 ·intro h;by_cases hne:l=[]
  ·exact hne
  ·have:=valL_pos' hd hn hne;omega
 ·rintro rfl;rfl
theorem valL_take_succ (l:List Int) (i:Nat):valL (l.take (i+1))=valL (l.take i)+at_ l i*10000^i:=by
 induction l generalizing i with
 |nil=>simp[valL,at_]
 |cons x t ih =>
  match i with
  |0=>simp[valL,at_]
  |i+1 =>
   simp only[List.take_succ_cons,valL,ce];rw[ih i,Int.pow_succ];grind
theorem valL_take_all {l:List Int}{i:Nat} (h:l.length≤i):valL (l.take i)=valL l:=by rw[List.take_of_length_le h]
theorem valL_lt {l:List Int} (hd:Dig l):valL l<10000^l.length:=by
 induction l with
 |nil=>simp[valL]
 |cons x t ih =>
  have h1:=ih hd.tail;have hx:=hd x (List.mem_cons_self ..);simp only[valL,List.length_cons,Int.pow_succ];generalize (10000:Int)^t.length=p at *;omega
theorem pow_pos' (i:Nat):(0:Int)<10000^i:=Int.pow_pos (by omega)
theorem pow_mono' {i j:Nat} (h:i≤j):(10000:Int)^i≤10000^j:=by
 induction j with
 |zero =>
      obtain rfl:i=0:=by omega
      exact Int.le_refl _
 |succ j ih =>
  by_cases e:i=j+1
  ·subst e;exact Int.le_refl _
  ·have:=ih (by omega);have hp:=pow_pos' j;rw[Int.pow_succ];omega
theorem valL_ge {l:List Int} (hd:Dig l){i:Nat} (hi:at_ l i≠0):10000^i≤valL l:=by
 induction l generalizing i with
 |nil=>simp[at_] at hi
 |cons x t ih =>
  have hx:=hd x (List.mem_cons_self ..);have ht:=valL_nonneg hd.tail;simp only[valL]
  match i with
  |0=>rw[eO] at hi;simp;omega
  |i+1 =>
   rw[ce] at hi;have:=ih hd.tail hi;rw[Int.pow_succ];generalize (10000:Int)^i=p at *;omega
theorem valL_lt_of_len {a b:List Int} (ha:Dig a) (hb:Dig b) (hn:Norm b) (h:a.length<b.length):valL a<valL b:=by
 rcases hn with rfl | hn
 ·simp at h
 ·have h1:=valL_lt ha;have h2:=valL_ge hb hn;have h3:=pow_mono' (i:=a.length) (j:=b.length-1) (by omega);omega
theorem valL_lt_of_at {a b:List Int} (ha:Dig a) (hb:Dig b) (hl:a.length=b.length){i:Nat} (hi:i<a.length) (heq:∀j,i<j→at_ a j=at_ b j) (hlt:at_ a i<at_ b i):valL a<valL b:=by
 induction a generalizing b i with
 |nil=>simp at hi
 |cons x s ih =>
  match b,hl with
  |y::t,hl =>
   have hx:=ha x (List.mem_cons_self ..);have hy:=hb y (List.mem_cons_self ..);simp only[List.length_cons,Nat.add_right_cancel_iff] at hl;simp only[valL]
   match i,hi,heq,hlt with
   |0,_,heq,hlt =>
    have:s=t:=iV hl (fun j=>by have:=heq (j+1) (by omega);rwa[ce,ce] at this);subst this;rw[eO,eO] at hlt;omega
   |i+1,hi,heq,hlt =>
    rw[ce,ce] at hlt;have:=ih ha.tail hb.tail hl (i:=i) (by simpa using hi) (fun j hj=>by have:=heq (j+1) (by omega);rwa[ce,ce] at this) hlt;omega
theorem valL_set {l:List Int}{i:Nat} (h:i<l.length) (v:Int):valL ((l.set i v).take (i+1))=valL (l.take i)+v*10000^i:=by
 rw[valL_take_succ,vf,gw h]
theorem Dig.set {l:List Int} (hd:Dig l) (i:Nat){v:Int} (hv:0≤v∧v≤9999):Dig (l.set i v):=by
 intro x hx;rcases List.mem_or_eq_of_mem_set hx with h | h
 ·exact hd x h
 ·subst h;exact hv
theorem neg_iff {n:Bool}{l:List Int} (hd:Dig l) (hn:Norm l) (h0:l=[]→n=false):sg n (valL l)<0↔n=true:=by
 by_cases hl:l=[]
 ·subst hl;rw[h0 rfl];simp[sg,valL]
 ·have:=valL_pos' hd hn hl;cases n
  ·simp[sg];omega
  ·simp[sg];omega
theorem valL_set_full {l:List Int}{i:Nat} (h:i<l.length) (v:Int):valL (l.set i v)=valL l+(v-at_ l i)*10000^i:=by
 induction l generalizing i with
 |nil=>simp at h
 |cons x t ih =>
  match i with
  |0=>simp[valL,at_];omega
  |i+1 =>
   simp only[List.set_cons_succ,valL,ce];rw[ih (by simpa using h),Int.pow_succ];grind
theorem za5 (i:Nat):((2^(13*i):Nat):Int)≤(10000:Int)^i:=by
 have h:(2^13)^i≤10000^i:=Nat.pow_le_pow_left (by decide) i;rw[←Nat.pow_mul] at h;have e:(10000:Int)^i=((10000^i:Nat):Int):=by rw[Int.natCast_pow];rfl
 rw[e];omega
theorem len_of_bt {l:List Int}{n:Nat} (hd:Dig l) (hn:Norm l) (h:Bt (valL l) n):13*l.length≤n+13:=by
 rcases hn with rfl | hn
 ·simp
 ·have h1:=valL_ge hd hn;have h2:=valL_nonneg hd;have h0:=za5 (l.length-1);unfold Bt at h;have h3:2^(13*(l.length-1))<2^n:=by omega
  rcases Nat.lt_or_ge (13*(l.length-1)) n with h4 | h4
  ·omega
  ·have:=Nat.pow_le_pow_right (n:=2) (by omega) h4;omega
theorem mul_bound {x y:Int} (hx:0≤x∧x≤9999) (hy:0≤y∧y≤9999):0≤x*y∧x*y≤99980001:=by
 refine⟨Int.mul_nonneg hx.1 hy.1,?_⟩;have:=Int.mul_le_mul hx.2 hy.2 hy.1 (by omega);omega
theorem valL_snoc (l:List Int) (x:Int):valL (l++[x])=valL l+x*10000^l.length:=by
 induction l with
 |nil=>simp[valL]
 |cons y t ih=>simp only[List.cons_append,valL,ih,List.length_cons,Int.pow_succ];grind
theorem Dig.snoc {l:List Int} (h:Dig l){x:Int} (hx:0≤x∧x≤9999):Dig (l++[x]):=by
 intro y hy;rcases List.mem_append.1 hy with hy | hy
 ·exact h y hy
 ·rw[List.mem_singleton.1 hy];exact hx
theorem Dig.fit {l:List Int} (h:Dig l):∀x∈l,Fit .i64 x:=by
 intro x hx;have:=h x hx;show _≤_∧_≤_
 omega
end Go.Proofs.YtbnhgnhgbhjkcaaGreat.Z4
namespace Go.Proofs.YtbnhgnhgbhjkcaaGreat
open Go.Shelf
def Rx:Go.Shelf.Ren:=⟨fun | 133=>141 | 128=>152 | n=>n,fun | 51=>173 | 3=>3 | 4=>4 | 46=>127 | 5=>5 | 9=>9 | n=>n,fun | n=>n⟩
theorem Ry:Go.Proofs.Lays.n133 Tryz.prog Rx:={
 mixed:=by kernel_rfl
 f128:=Tryz.func152.trans (congrArg some (by kernel_rfl))
 f133:=Tryz.func141.trans (congrArg some (by kernel_rfl))
 t3:=Tryz.underlying3
 a3:=Tryz.isAgg3
 z3:=Tryz.sizeOf3
 v3:=Tryz.zeroValue3
 t4:=Tryz.underlying4
 a4:=Tryz.isAgg4
 z4:=Tryz.sizeOf4
 v4:=Tryz.zeroValue4
 t5:=Tryz.underlying5
 a5:=Tryz.isAgg5
 z5:=Tryz.sizeOf5
 v5:=Tryz.zeroValue5
 t9:=Tryz.underlying9
 a9:=Tryz.isAgg9
 z9:=Tryz.sizeOf9
 v9:=Tryz.zeroValue9
 t46:=Tryz.underlying127
 a46:=Tryz.isAgg127
 z46:=Tryz.sizeOf127
 v46:=Tryz.zeroValue127
 t51:=Tryz.underlying173
 a51:=Tryz.isAgg173
 z51:=Tryz.sizeOf173
 v51:=Tryz.zeroValue173 }
theorem Rz (x:Int) (w:World) (h0:0≤x) (h1:x≤4294967295) :
  Calls Tryz.prog 141 #[.int .u32 x] w fun e w'=>e = .returned (.int .i64 (32-(Lib.bitLen x.toNat:Int)))∧w=w':=(Any.bits_LeadingZeros32 Ry x w h0 h1).mono fun _ _ h=>⟨h.1,h.2.symm⟩
theorem RA (n:Nat) (h0:0<n) (h:n<18446744073709551616):0<Lib.bitLen n∧2^(Lib.bitLen n-1)≤n∧n<2^Lib.bitLen n:=by
 induction n using Nat.strongRecOn with
 |ind n ih =>
  rcases Nat.lt_or_ge n 2 with h1 | h1
  ·obtain rfl:n=1:=by omega
   decide
  ·have h2:=Lib.bitLen_half n (by omega) h;have h3:=ih (n / 2) (by omega) (by omega) (by omega);rw[h2];generalize Lib.bitLen (n / 2)=k at *;have e:1+k-1=k-1+1:=by omega
   have e2:1+k=k+1:=by omega
   rw[e,e2,Nat.pow_succ,Nat.pow_succ];refine⟨by omega,by omega,by omega⟩
theorem RB {x:Int} (h0:0<x) (h1:x≤4294967295):∃s:Nat,s<32∧(32-(Lib.bitLen x.toNat:Int))=s∧2147483648≤x*2^s∧x*2^s≤4294967295:=by
 obtain⟨n,rfl⟩:=Int.eq_ofNat_of_zero_le (Int.le_of_lt h0);rw[show ((n:Int)).toNat=n by omega];have hb:=RA n (by omega) (by omega);have h32:Lib.bitLen n≤32:=by
  refine Nat.not_lt.1 fun hc => ?_
  have:2^32≤2^(Lib.bitLen n-1):=Nat.pow_le_pow_right (by omega) (by omega);omega
 generalize Lib.bitLen n=k at *;have e1:2^(32-k)*2^(k-1)=2147483648:=by rw[←Nat.pow_add,show 32-k+(k-1)=31 by omega]
 have e2:2^(32-k)*2^k=4294967296:=by rw[←Nat.pow_add,show 32-k+k=32 by omega]
 have g1:=Nat.mul_le_mul_left (2^(32-k)) hb.2.1;have g2:2^(32-k)*(n+1)≤2^(32-k)*2^k:=Nat.mul_le_mul_left _ hb.2.2;have g3:1≤2^(32-k):=Nat.one_le_two_pow;rw[Nat.mul_add,Nat.mul_one] at g2;have e3:(n:Int)*2^(32-k)=((2^(32-k)*n:Nat):Int):=by rw[Int.natCast_mul,Int.mul_comm];simp
 refine⟨32-k,by omega,by omega,?_,?_⟩<;>rw[e3]<;>omega
end Go.Proofs.YtbnhgnhgbhjkcaaGreat
