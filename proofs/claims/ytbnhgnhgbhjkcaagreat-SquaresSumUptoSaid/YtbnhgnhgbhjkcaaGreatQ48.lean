/- Lemmas. -/
import Derived.Test.YtbnhgnhgbhjkcaaGreatQ46
set_option linter.defProp false
set_option linter.unusedSimpArgs false
set_option linter.unusedVariables false
namespace Go.Proofs.YtbnhgnhgbhjkcaaGreat.M
set_option linter.unusedSimpArgs false
set_option maxRecDepth 20000
set_option maxHeartbeats 2000000
open Go.RowKit
def rdE (e:List Int):Ex4:=(e.getD 0 0,e.getD 1 0,e.getD 2 0,e.getD 3 0)
noncomputable def rdA (t:At):Tm:=(qR t.1,rdE t.2)
noncomputable def rdL (l:List At):List Tm:=l.map rdA
theorem eT (l:List At):(rdL l).length=l.length:=z9V _
theorem LV {l:List At}{i:Nat} (h:i<l.length):rdL (l.take (i+1))=rdL (l.take i)++[rdA (at0 l i)]:=by rw[vG h];unfold rdL;rw[z9U];rfl
theorem LW {e:List Int} (h:∀x∈e,0≤x∧x≤40):Gx 40 (rdE e):=by
 have key:∀k,0≤e.getD k 0∧e.getD k 0≤40:=fun k=>by
  by_cases hk:k<e.length
  ·have:e.getD k 0=e[k]:=by simp[hk]
   rw[this];exact h _ (z9a hk)
  ·have:e.getD k 0=0:=by simp[z80 (Nat.le_of_not_lt hk)]
   rw[this];omega
 exact⟨key 0,key 1,key 2,key 3⟩
def Szd (a b:Nat) (l:List Tm):Prop:=∃D,0<D∧D≤2^a∧∀x∈l,Db D (2^b) x.1
theorem nd (l:List At){k:Nat} (h:l.length≤k):Szd (4000*k) (4000+4000*k) (rdL l):=by
 have hb:∀x∈(rdL l).map (·.1),Bq 4000 x:=fun x hx=>by
  obtain⟨y,hy,rfl⟩:=z9Q.1 hx;obtain⟨z,hz,rfl⟩:=z9Q.1 hy;exact iP z.1
 have hlen:((rdL l).map (·.1)).length=l.length:=by rw[z9V,eT]
 refine⟨dZ ((rdL l).map (·.1)),lN _,?_,fun x hx => ?_⟩
 ·refine z9E (uz (n:=4000) fun x hx=>Nat.le_of_lt (hb x hx).2) ?_;rw[hlen];exact z9j (by omega) (z9d _ h)
 ·refine ((Lb.of_bq hb).mem (z9Q.2 ⟨x,hx,rfl⟩)).mono ?_;rw[hlen];exact z9j (by omega) (Nat.add_le_add_left (z9d _ h) _)
theorem LX (l:List At) (h:l.length≤400):∃D X p,(∀x∈rdL l,Db D X x.1)∧D<2^p∧(rdL l).length*X<2^p∧p≤2048000000000:=by
 have key:∀a b q,a<q→b+9<q→q≤2048000000000→Szd a b (rdL l)→∃D X p,(∀x∈rdL l,Db D X x.1)∧D<2^p∧(rdL l).length*X<2^p∧p≤2048000000000:=fun a b q h1 h2 h6 hs=>by
  obtain⟨D,h3,h4,h5⟩:=hs;refine⟨D,2^b,q,h5,z9K h4 (Nat.pow_lt_pow_right (by decide) h1),?_,h6⟩;refine z9K (z92 _ (z9E (by rw[eT];exact h) (show 400≤2^9 by decide))) ?_;rw[←z9p];exact Nat.pow_lt_pow_right (by decide) (by omega)
 exact key (4000*400) (4000+4000*400) 1700000 (by decide) (by decide) (by decide) (nd l h)
theorem Gd.gx {l:List At}{n ord:Int} (h:Gd l n ord):∀x∈rdL l,Gx 40 x.2:=fun x hx=>by
 obtain⟨y,hy,rfl⟩:=z9Q.1 hx;exact LW (jJ (h.ft y hy)).2.1
theorem Szd.cn {a b c:Nat}{l:List Tm} (n ord:Int) (h:Szd a b l) (hg:∀x∈l,Ge x.2) (hl:l.length≤1000000000) (hc:l.length≤2^c):Szd a (b+c) (cnT ord l):=by
 obtain⟨D,h1,h2,h3⟩:=h;obtain⟨s1,s2⟩:=sw n ord hg hl;refine⟨D,h1,h2,fun x hx=>(zaj s1 s2 h3 x hx).mono ?_⟩;rw[z9p,z8U];exact z9d _ hc
theorem Szd.bc {a b p:Nat}{l:List Tm} (h:Szd a b l) (ha:a<p) (hb:b<p):Bc p l:=fun x hx=>by
 obtain⟨D,h1,h2,h3⟩:=h;exact (h3 x hx).Bq (z9K h2 (Nat.pow_lt_pow_right (by omega) ha)) (Nat.pow_lt_pow_right (by omega) hb)
theorem LY (q:Rat):dK (List.map AV.p (qI q).cells++[AV.p (J 0),AV.p (J 0),AV.p (J 0),AV.p (J 0)])=some (tI (q,(0,0,0,0))).cells:=rfl
theorem L3 (e:List Int):(e.map (D.int .i64)).all D.one=true:=by simp[D.one]
theorem L4 (q:Rat) (e:List Int) (h:e.length≤4):dK (((tI (q,(0,0,0,0))).cells.map AV.p).take 4++(e.map (D.int .i64)).map AV.p++((tI (q,(0,0,0,0))).cells.map AV.p).drop (4+e.length))=some (tI (q,rdE e)).cells:=by
 match e,h with
 |[],_=>rfl
 |[a],_=>rfl
 |[a,b],_=>rfl
 |[a,b,c],_=>rfl
 |[a,b,c,d],_=>rfl
theorem L5 (T U:Nat) (l:List At) (n ord:Int) (h:Gd l n ord) (hl:l.length≤9223372036854775807) (hs:∀t∈l,t.1.length≤9223372036854775807) :
  Con Tryz.prog AN 55 [LTa T U l,J n,J ord] (.tup [SmD (cnT ord (rdL l)) n ord,flt 0 0]):=by
 have cc:=l8 T U l n ord hl hs;rw[h.fm] at cc;have h400:=h.len;obtain⟨D,X,p,hdb,hDp,hXp,hpp⟩:=LX l h400;have mc:=(kY n ord (rdL l) hdb (fun x hx=>(h.gx x hx).ge (by omega)) (by rw[eT];omega) hDp hXp hpp).x;refine rg.con rfl (by simp) ?_;(repeat first|with_reducible refine kp [0,1,2,6,7] ?_|simp only[kV,simprocAttr,aa,Option.map_some,ci]|refine aN ?_);refine⟨_,cx (cc),ulc ?_⟩;(repeat first|with_reducible refine kp [0,1,2,6,7,8,22] ?_|simp only[kV,simprocAttr,aa,Option.map_some]|refine aN ?_);refine ulk ?_;(repeat first|simp only[kV,simprocAttr,aa,Option.map_some]|refine aN ?_);refine kp [0,1,2,6,7] ?_;(repeat first|simp only[kV,simprocAttr,aa,Option.map_some]|refine aN ?_);refine kp [0,6,7,9] ?_;(repeat first|simp only[kV,simprocAttr,aa,Option.map_some]|refine aN ?_);refine kp [0,6,7,9,10] ?_;(repeat first|simp only[kV,simprocAttr,aa,Option.map_some]|refine aN ?_);refine kp [6,7,9,10,28,29,30] ?_;(repeat first|simp only[kV,simprocAttr,aa,Option.map_some]|refine aN ?_);refine aB (ι:=Nat) (fun i=>i≤l.length) (fun i=>⟨ar [(6,.ptr 6 0 0),(7,.ptr 7 0 0),(9,.ptr 9 0 0),(10,.slice 205 0 i),(28,.p (LTa T U l)),(29,.p (J l.length)),(30,.p (J i))],
  au [(6,⟨96,3,.box (.p (SmD [] 0 0)),false⟩),(7,⟨25,2,.box (.p (flt 0 0)),false⟩),(9,⟨94,2,.box (.p (rgD n ord)),false⟩),(205,⟨TT,8,.row ((rdL (l.take i)).map tI),false⟩)]⟩) (fun i=>l.length-i) 0 (z9O _) (Sub.tr (Sub.nilG 10 205 TT 8) (Sub.toG [6,7,9,10,28,29,30] [8,12,13,14,15,49])) ?_
 intro i hi;by_cases h':i<l.length
 ·have hI:(i:Int)<(l.length:Int):=by omega
  have g1:=gS (U:=U) h';have hst:=hs _ (gg h');have hft:=jJ (h.ft _ (gg h'));have htk:=LV h';have hlen:(rdL (l.take i)).length=i:=by rw[eT,z9N,z9f hi]
  generalize at0 l i=t at *;generalize rdL (l.take i)=q at *;obtain⟨c,e⟩:=t;simp only at g1 hst hft;obtain⟨he1,he2,he3⟩:=hft;have hn4:=h.n4;have he4:e.length≤4:=by omega
  have cp:=L4 (qR c) e he4;have hone:=L3 e;have f1:(rdL (l.take (i+1))).map tI=q.map tI++[tI (qR c,rdE e)]:=by rw[htk,z9U];rfl
  (repeat first|with_reducible refine kp [6,7,9,10,28,29,30,31] ?_|simp only[kV,simprocAttr,aa,Option.map_some,hI]|refine aN ?_);(try simp only[kV,simprocAttr,aa,Option.map_some,hI,g1,h']);refine ulk ?_;(repeat first|with_reducible refine kp [6,7,9,10,12,28,29,30] ?_|simp only[kV,simprocAttr,aa,Option.map_some,hI,g1,h']|refine aN ?_);refine⟨_,cx (lY c hst),ulc ?_⟩;(repeat first|with_reducible refine kp [6,7,9,10,12,13,15,28,29,30] ?_|simp only[kV,simprocAttr,aa,Option.map_some,LY,he4,hone,cp,hlen]|refine aN ?_);exact⟨i+1,h',by rw[f1];exact (Sub.toG [6,7,9,10,28,29,30] [8,12,13,14,15,49]),by omega⟩
 ·have hI:¬ (i:Int)<(l.length:Int):=by omega
  obtain rfl:i=l.length:=by omega
  rw[z9x];(repeat first|with_reducible refine kp [6,7,9,10,28,29,30,31] ?_|simp only[kV,simprocAttr,aa,Option.map_some,hI]|refine aN ?_);(try simp only[kV,simprocAttr,aa,Option.map_some,hI,eT]);refine ulk ?_;(repeat first|with_reducible refine kp [6,7,9,10] ?_|simp only[kV,simprocAttr,aa,Option.map_some,hI,eT]|refine aN ?_);refine⟨_,_,mc,ulc ?_⟩;(repeat first|with_reducible refine kp [6,7] ?_|simp only[kV,simprocAttr,aa,Option.map_some,af,ai,aq,ah]|refine aN ?_)
set_option linter.unusedSimpArgs false
open Go.RowKit
theorem l6 {ord:Int}{l:List Tm}{E:Int} (h:∀x∈l,Gx E x.2):∀x∈cnT ord l,Gx E x.2:=fun x hx=>by
 have h1:(x.1,moL x.2)∈tl (cnT ord l):=z9Q.2 ⟨x,hx,rfl⟩;rw[iF] at h1;obtain⟨y,hy,he⟩:=Mp.canon_mem h1;obtain⟨z,hz,rfl⟩:=z9Q.1 hy;rw[←lK he];exact h z hz
noncomputable def frm (l:List At) (ord:Int):List Tm:=cnT ord (rdL l)
theorem vw (l:List At) (ord:Int):(frm l ord).length≤l.length:=by have:=lL ord (rdL l);rwa[eT] at this
theorem Gd.fx {l:List At}{n ord:Int} (h:Gd l n ord) (o:Int):∀x∈frm l o,Gx 40 x.2:=l6 h.gx
theorem Gd.sz {l:List At}{n ord:Int} (h:Gd l n ord) (o:Int):Szd 1600000 1604009 (frm l o):=by
 have:=(nd l h.len).cn n o (fun x hx=>(h.gx x hx).ge (by omega)) (by rw[eT];have:=h.len;omega) (c:=9) (by rw[eT];have:=h.len;omega);exact this
theorem pw {a b:Nat} (h:a<b):2^a<2^b:=Nat.pow_lt_pow_right (by omega) h
theorem pl {a b:Nat} (h:a≤b):2^a≤2^b:=z9j (by omega) h
theorem Szd.mul {a b a' b':Nat}{l m:List Tm} (h:Szd a b l) (k:Szd a' b' m):Szd (a+a') (b+b') (mulT l m):=by
 obtain⟨D,h1,h2,h3⟩:=h;obtain⟨E,k1,k2,k3⟩:=k;exact⟨D*E,Nat.mul_pos h1 k1,by rw[z9p];exact z82 h2 k2,by rw[z9p];exact rR h3 k3⟩
theorem up2 {D E a b a' b' c:Nat} (h2:D≤2^a) (k2:E≤2^a') (h:b+a'≤c) (k:b'+a≤c):2^b*E+2^b'*D≤2^(c+1):=by
 have e1:2^b*E≤2^c:=z9E (z9d _ k2) (by rw[←z9p];exact pl h);have e2:2^b'*D≤2^c:=z9E (z9d _ h2) (by rw[←z9p];exact pl k);rw[Nat.pow_succ];omega
theorem Szd.app {a b a' b' c:Nat}{l m:List Tm} (h:Szd a b l) (k:Szd a' b' m) (h1:b+a'≤c) (h2:b'+a≤c):Szd (a+a') (c+1) (l++m):=by
 obtain⟨D,d1,d2,d3⟩:=h;obtain⟨E,k1,k2,k3⟩:=k;exact⟨D*E,Nat.mul_pos d1 k1,by rw[z9p];exact z82 d2 k2,fun x hx=>(vy d3 k3 d1 k1 x hx).mono (up2 d2 k2 h1 h2)⟩
theorem zbF (n ord n' ord':Int){l m:List Tm}{a b a' b' c q p:Nat} (h:Szd a b l) (k:Szd a' b' m) (gl:∀t∈l,Ge t.2) (gm:∀t∈m,Ge t.2) (hl:l.length+m.length≤1000000000) (hq:l.length+m.length≤2^q)
  (h1:b+a'≤c) (h2:b'+a≤c) (h3:a+a'<p) (h4:q+(c+1)<p) (hp:p≤2048000000000) :
  Con Tryz.prog AN 49 [SmD l n ord,SmD m n' ord'] (SmD (cnT ord (l++m)) n ord):=by
 obtain⟨D,d1,d2,d3⟩:=h;obtain⟨E,e1,e2,e3⟩:=k;refine zbK n ord n' ord' l m (p:=p) d3 e3 d1 e1 gl gm hl ?_ ?_ hp
 ·refine z9K (z82 d2 e2) ?_;rw[←z9p];exact pw h3
 ·refine z9K (z82 hq (up2 (c:=c) d2 e2 h1 h2)) ?_;rw[←z9p];exact pw h4
theorem zbG (n ord n' ord':Int){l m:List Tm}{a b a' b' q p:Nat}{G H:Int} (h:Szd a b l) (k:Szd a' b' m) (gl:∀t∈l,Gx G t.2) (gm:∀t∈m,Gx H t.2) (hG:0≤G) (hH:0≤H) (hGH:G+H≤1000000000000)
  (hl:l.length*m.length≤1000000000) (hll:l.length≤1000000000) (hlm:m.length≤1000000000) (hq:l.length*m.length≤2^q)
  (h3:a+a'<p) (h4:q+(b+b')<p) (hap:a<p) (hbp:b<p) (hap':a'<p) (hbp':b'<p) (hp:p≤2048000000000) :
  Con Tryz.prog AN 50 [SmD l n ord,SmD m n' ord'] (SmD (cnT ord (mulT l m)) n ord):=by
 have hbl:=h.bc hap hbp;have hbm:=k.bc hap' hbp';obtain⟨D,d1,d2,d3⟩:=h;obtain⟨E,e1,e2,e3⟩:=k;refine Tg n ord n' ord' l m (p:=p) d3 e3 gl gm hG hH hGH hl hll hlm ?_ ?_ hbl hbm hp
 ·refine z9K (z82 d2 e2) ?_;rw[←z9p];exact pw h3
 ·rw[←z9p];refine z9K (z92 _ hq) ?_;rw[←z9p];exact pw h4
noncomputable def gR (a b:List At) (ord:Int):List Tm:=cnT ord (mulT (frm a ord) (frm b ord))
section
variable (a b:List At) (n ord:Int) (ha:Gd a n ord) (hb:Gd b n ord)
include ha hb
theorem vx:(frm a ord).length+(frm b ord).length≤800∧(frm a ord).length*(frm b ord).length≤160000∧(frm a ord).length≤400∧(frm b ord).length≤400:=by
 have hla:=vw a ord;have hlb:=vw b ord;have h4:=ha.len;have h5:=hb.len;have hm:(frm a ord).length*(frm b ord).length≤400*400:=z82 (by omega) (by omega);omega
theorem zbH:Con Tryz.prog AN 50 [SmD (frm a ord) n ord,SmD (frm b ord) n ord] (SmD (gR a b ord) n ord):=by
 obtain⟨l1,l2,l3,l4⟩:=vx a b n ord ha hb;exact zbG n ord n ord (ha.sz ord) (hb.sz ord) (ha.fx ord) (hb.fx ord) (by decide) (by decide) (by decide) (by omega) (by omega) (by omega) (q:=18) (z9E l2 (by decide)) (p:=4000000) (by decide) (by decide) (by decide) (by decide) (by decide) (by decide) (by decide)
end
section
variable (T U:Nat) (l:List At) (n ord:Int) (hl:l.length≤9223372036854775807) (hs:∀t∈l,t.1.length≤9223372036854775807)
include hl hs
end
section
variable (T U:Nat) (a:List At) (n ord:Int) (hl:a.length≤9223372036854775807) (hs:∀t∈a,t.1.length≤9223372036854775807)
include hl hs
variable (T' U':Nat) (b:List At) (hlb:b.length≤9223372036854775807) (hsb:∀t∈b,t.1.length≤9223372036854775807)
include hlb hsb
end
end Go.Proofs.YtbnhgnhgbhjkcaaGreat.M
