/- Lemmas. -/
import Derived.Test.YtbnhgnhgbhjkcaaGreatL47
import Derived.Test.YtbnhgnhgbhjkcaaGreatL40
import Derived.Test.YtbnhgnhgbhjkcaaGreatL27
import Derived.Test.YtbnhgnhgbhjkcaaGreatL25
import Derived.Test.YtbnhgnhgbhjkcaaGreatL6
set_option linter.defProp false
set_option linter.unusedSectionVars false
set_option linter.unusedSimpArgs false
set_option linter.unusedVariables false
namespace Go.Proofs.YtbnhgnhgbhjkcaaGreat.M
open Go.RowKit
set_option maxRecDepth 20000
set_option maxHeartbeats 2000000
def rdE (e:List Int):Ex4:=(e.getD 0 0,e.getD 1 0,e.getD 2 0,e.getD 3 0)
noncomputable def rdA (t:At):Tm:=(qR t.1,rdE t.2)
noncomputable def rdL (l:List At):List Tm:=l.map rdA
theorem eX (l:List At):(rdL l).length=l.length:=List.length_map _
theorem Ks {l:List At}{i:Nat} (h:i<l.length):rdL (l.take (i+1))=rdL (l.take i)++[rdA (at0 l i)]:=by rw[zaF h];unfold rdL;rw[List.map_append];rfl
theorem Kt {e:List Int} (h:∀x∈e,0≤x∧x≤40):Gx 40 (rdE e):=by
 have key:∀k,0≤e.getD k 0∧e.getD k 0≤40:=fun k=>by
  by_cases hk:k<e.length
  ·have:e.getD k 0=e[k]:=by simp[hk]
   rw[this];exact h _ (List.getElem_mem hk)
  ·have:e.getD k 0=0:=by simp[List.getElem?_eq_none (Nat.le_of_not_lt hk)]
   rw[this];omega
 exact⟨key 0,key 1,key 2,key 3⟩
def Szd (a b:Nat) (l:List Tm):Prop:=∃D,0<D∧D≤2^a∧∀x∈l,Db D (2^b) x.1
theorem qS (l:List At){k:Nat} (h:l.length≤k):Szd (4000*k) (4000+4000*k) (rdL l):=by
 have hb:∀x∈(rdL l).map (·.1),Bq 4000 x:=fun x hx=>by
  obtain⟨y,hy,rfl⟩:=List.mem_map.1 hx;obtain⟨z,hz,rfl⟩:=List.mem_map.1 hy;exact uH z.1
 have hlen:((rdL l).map (·.1)).length=l.length:=by rw[List.length_map,eX]
 refine⟨dZ ((rdL l).map (·.1)),lw _,?_,fun x hx => ?_⟩
 ·refine Nat.le_trans (t8 (n:=4000) fun x hx=>Nat.le_of_lt (hb x hx).2) ?_;rw[hlen];exact Nat.pow_le_pow_right (by omega) (Nat.mul_le_mul_left _ h)
 ·refine ((Lb.of_bq hb).mem (List.mem_map.2 ⟨x,hx,rfl⟩)).mono ?_;rw[hlen];exact Nat.pow_le_pow_right (by omega) (Nat.add_le_add_left (Nat.mul_le_mul_left _ h) _)
theorem Ku (l:List At) (h:l.length≤400):∃D X p,(∀x∈rdL l,Db D X x.1)∧D<2^p∧(rdL l).length*X<2^p∧p≤2048000000000:=by
 have key:∀a b q,a<q→b+9<q→q≤2048000000000→Szd a b (rdL l)→∃D X p,(∀x∈rdL l,Db D X x.1)∧D<2^p∧(rdL l).length*X<2^p∧p≤2048000000000:=fun a b q h1 h2 h6 hs=>by
  obtain⟨D,h3,h4,h5⟩:=hs;refine⟨D,2^b,q,h5,Nat.lt_of_le_of_lt h4 (Nat.pow_lt_pow_right (by decide) h1),?_,h6⟩;refine Nat.lt_of_le_of_lt (Nat.mul_le_mul_right _ (Nat.le_trans (by rw[eX];exact h) (show 400≤2^9 by decide))) ?_;rw[←Nat.pow_add];exact Nat.pow_lt_pow_right (by decide) (by omega)
 exact key (4000*400) (4000+4000*400) 1700000 (by decide) (by decide) (by decide) (qS l h)
theorem Gd.gx {l:List At}{n ord:Int} (h:Gd l n ord):∀x∈rdL l,Gx 40 x.2:=fun x hx=>by
 obtain⟨y,hy,rfl⟩:=List.mem_map.1 hx;exact Kt (iT (h.ft y hy)).2.1
theorem Szd.cn {a b c:Nat}{l:List Tm} (n ord:Int) (h:Szd a b l) (hg:∀x∈l,Ge x.2) (hl:l.length≤1000000000) (hc:l.length≤2^c):Szd a (b+c) (cnT ord l):=by
 obtain⟨D,h1,h2,h3⟩:=h;obtain⟨s1,s2⟩:=rP n ord hg hl;refine⟨D,h1,h2,fun x hx=>(YT s1 s2 h3 x hx).mono ?_⟩;rw[Nat.pow_add,Nat.mul_comm];exact Nat.mul_le_mul_left _ hc
theorem Szd.bc {a b p:Nat}{l:List Tm} (h:Szd a b l) (ha:a<p) (hb:b<p):Bc p l:=fun x hx=>by
 obtain⟨D,h1,h2,h3⟩:=h;exact (h3 x hx).Bq (Nat.lt_of_le_of_lt h2 (Nat.pow_lt_pow_right (by omega) ha)) (Nat.pow_lt_pow_right (by omega) hb)
theorem Kv (q:Rat):cW (List.map AV.p (qI q).cells++[AV.p (J 0),AV.p (J 0),AV.p (J 0),AV.p (J 0)])=some (tI (q,(0,0,0,0))).cells:=rfl
theorem qT:(dP (.ptr 8 0 0) (.ptr 6 0 0)=true)=True:=eq_true rfl
theorem Kw (e:List Int):(e.map (D.int .i64)).all D.one=true:=by simp[D.one]
theorem Kx (q:Rat) (e:List Int) (h:e.length≤4):cW (((tI (q,(0,0,0,0))).cells.map AV.p).take 4++(e.map (D.int .i64)).map AV.p++((tI (q,(0,0,0,0))).cells.map AV.p).drop (4+e.length))=some (tI (q,rdE e)).cells:=by
 match e,h with
 |[],_=>rfl
 |[a],_=>rfl
 |[a,b],_=>rfl
 |[a,b,c],_=>rfl
 |[a,b,c,d],_=>rfl
theorem iw (T U:Nat) (l:List At) (n ord:Int) (h:Gd l n ord) (hl:l.length≤9223372036854775807) (hs:∀t∈l,t.1.length≤9223372036854775807) :
  Con Tryz.prog AN 55 [LTa T U l,J n,J ord] (.tup [SmD (cnT ord (rdL l)) n ord,flt 0 0]):=by
 have cc:=vd T U l n ord hl hs;rw[h.fm] at cc;have h400:=h.len;obtain⟨D,X,p,hdb,hDp,hXp,hpp⟩:=Ku l h400;have mc:=(jp n ord (rdL l) hdb (fun x hx=>(h.gx x hx).ge (by omega)) (by rw[eX];omega) hDp hXp hpp).x;refine qL.con rfl (by simp) ?_;(repeat first|with_reducible refine kp [0,1,2,6,7] ?_|simp only[kV,simprocAttr,aa,Option.map_some,bU]|refine aN ?_);refine⟨_,cx (cc),ulc ?_⟩;(repeat first|with_reducible refine kp [0,1,2,6,7,8,22] ?_|simp only[kV,simprocAttr,aa,Option.map_some]|refine aN ?_);refine ulk ?_;(repeat first|simp only[kV,simprocAttr,aa,Option.map_some]|refine aN ?_);refine kp [0,1,2,6,7] ?_;(repeat first|simp only[kV,simprocAttr,aa,Option.map_some]|refine aN ?_);refine kp [0,6,7,9] ?_;(repeat first|simp only[kV,simprocAttr,aa,Option.map_some]|refine aN ?_);refine kp [0,6,7,9,10] ?_;(repeat first|simp only[kV,simprocAttr,aa,Option.map_some]|refine aN ?_);refine kp [6,7,9,10,28,29,30] ?_;(repeat first|simp only[kV,simprocAttr,aa,Option.map_some]|refine aN ?_);refine aL (ι:=Nat) (fun i=>i≤l.length) (fun i=>⟨ar [(6,.ptr 6 0 0),(7,.ptr 7 0 0),(9,.ptr 9 0 0),(10,.slice 205 0 i),(28,.p (LTa T U l)),(29,.p (J l.length)),(30,.p (J i))],
  ay [(6,⟨96,3,.box (.p (SmD [] 0 0)),false⟩),(7,⟨25,2,.box (.p (flt 0 0)),false⟩),(9,⟨94,2,.box (.p (rgD n ord)),false⟩),(205,⟨TT,8,.row ((rdL (l.take i)).map tI),false⟩)]⟩) (fun i=>l.length-i) 0 (Nat.zero_le _) (Sub.tr (Sub.nilG 10 205 TT 8) (Sub.toG [6,7,9,10,28,29,30] [8,12,13,14,15,49])) ?_
 intro i hi;by_cases h':i<l.length
 ·have hI:(i:Int)<(l.length:Int):=by omega
  have g1:=jQ (U:=U) h';have hst:=hs _ (gZ h');have hft:=iT (h.ft _ (gZ h'));have htk:=Ks h';have hlen:(rdL (l.take i)).length=i:=by rw[eX,List.length_take,Nat.min_eq_left hi]
  generalize at0 l i=t at *;generalize rdL (l.take i)=q at *;obtain⟨c,e⟩:=t;simp only at g1 hst hft;obtain⟨he1,he2,he3⟩:=hft;have hn4:=h.n4;have he4:e.length≤4:=by omega
  have cp:=Kx (qR c) e he4;have hone:=Kw e;have f1:(rdL (l.take (i+1))).map tI=q.map tI++[tI (qR c,rdE e)]:=by rw[htk,List.map_append];rfl
  (repeat first|with_reducible refine kp [6,7,9,10,28,29,30,31] ?_|simp only[kV,simprocAttr,aa,Option.map_some,hI]|refine aN ?_);(try simp only[kV,simprocAttr,aa,Option.map_some,hI,g1,h']);refine ulk ?_;(repeat first|with_reducible refine kp [6,7,9,10,12,28,29,30] ?_|simp only[kV,simprocAttr,aa,Option.map_some,hI,g1,h']|refine aN ?_);refine⟨_,cx (oU c hst),ulc ?_⟩;(repeat first|with_reducible refine kp [6,7,9,10,12,13,15,28,29,30] ?_|simp only[kV,simprocAttr,aa,Option.map_some,Kv,he4,hone,cp,hlen]|refine aN ?_);exact⟨i+1,h',by rw[f1];exact (Sub.toG [6,7,9,10,28,29,30] [8,12,13,14,15,49]),by omega⟩
 ·have hI:¬ (i:Int)<(l.length:Int):=by omega
  obtain rfl:i=l.length:=by omega
  rw[List.take_length];(repeat first|with_reducible refine kp [6,7,9,10,28,29,30,31] ?_|simp only[kV,simprocAttr,aa,Option.map_some,hI]|refine aN ?_);(try simp only[kV,simprocAttr,aa,Option.map_some,hI,eX]);refine ulk ?_;(repeat first|with_reducible refine kp [6,7,9,10] ?_|simp only[kV,simprocAttr,aa,Option.map_some,hI,eX]|refine aN ?_);refine⟨_,_,mc,ulc ?_⟩;(repeat first|with_reducible refine kp [6,7] ?_|simp only[kV,simprocAttr,aa,Option.map_some,ae,ai,ah,af]|refine aN ?_)
theorem ky (T U:Nat) (l:List At) (n ord:Int) (h:(fM l n ord).1≠0) (hl:l.length≤9223372036854775807) (hs:∀t∈l,t.1.length≤9223372036854775807) :
  Con Tryz.prog AN 55 [LTa T U l,J n,J ord] (.tup [SmD [] 0 0,flt (fM l n ord).1 (fM l n ord).2]):=by
 have cc:=vd T U l n ord hl hs;generalize fM l n ord=f at *;refine qL.con rfl (by simp) ?_;(repeat first|with_reducible refine kp [0,1,2,6,7] ?_|simp only[kV,simprocAttr,aa,Option.map_some,bU]|refine aN ?_);refine⟨_,cx (cc),ulc ?_⟩;(repeat first|with_reducible refine kp [0,1,2,6,7,8,22] ?_|simp only[kV,simprocAttr,aa,Option.map_some,h]|refine aN ?_);(try simp only[kV,simprocAttr,aa,Option.map_some,h,qT]);refine ulk ?_;(repeat first|with_reducible refine kp [6,7] ?_|simp only[kV,simprocAttr,aa,Option.map_some,ae,ai,ah,af,h,qT]|refine aN ?_);rfl
noncomputable def rzA (t:At):Zm:=(qR t.1,t.2)
noncomputable def rzL (l:List At):Mp.TL:=l.map rzA
theorem Gd.wd {l:List At}{n ord:Int} (h:Gd l n ord):Mp.Wd n.toNat (rzL l):=fun x hx=>by
 obtain⟨y,hy,rfl⟩:=List.mem_map.1 hx;have:=(iT (h.ft y hy)).1;show y.2.length=_
 omega
def a6:=an @YC (an @YD csZ)
theorem zgU (any:Bool) (M:Mem) (a b c d:D) (id off len:Nat):AV.toD any M 20 (.agg [.p a,.p b,.p c,.p d,.slice id off len])=(match M id with
  |some o=>match o.cont with
   |.row l=>if (o.frz||any)&&decide (off+len≤l.length) then some (.agg [a,b,c,d,.list o.T o.sz ((l.drop off).take len)]) else none
   |_=>none
  |none=>none):=by
 simp only[AV.toD,dg];cases M id with
 |none=>rfl
 |some o =>
  obtain⟨T,sz,cont,frz⟩:=o;cases cont with
  |row l=>by_cases hc:((frz||any)&&decide (off+len≤l.length))=true<;>simp only[hc]<;>rfl
  |box v=>rfl
  |junk=>rfl
theorem sW (any:Bool) (M:Mem) (a:D) (id off len:Nat):AV.toD any M 20 (.agg [.p a,.slice id off len])=(match M id with
  |some o=>match o.cont with
   |.row l=>if (o.frz||any)&&decide (off+len≤l.length) then some (.agg [a,.list o.T o.sz ((l.drop off).take len)]) else none
   |_=>none
  |none=>none):=by
 simp only[AV.toD,dg];cases M id with
 |none=>rfl
 |some o =>
  obtain⟨T,sz,cont,frz⟩:=o;cases cont with
  |row l=>by_cases hc:((frz||any)&&decide (off+len≤l.length))=true<;>simp only[hc]<;>rfl
  |box v=>rfl
  |junk=>rfl
theorem uR (a b c d e:D):bx [a,b,c,d,e]=⟨ar [(0,.p a),(1,.p b),(2,.p c),(3,.p d),(4,.p e)],ay []⟩:=by
 unfold bx;congr 1;funext t
 match t with
 |0 | 1 | 2 | 3 | 4=>rfl
 |t+5=>simp[dv,eS]
theorem uS (a b c d e f g:D):bx [a,b,c,d,e,f,g]=⟨ar [(0,.p a),(1,.p b),(2,.p c),(3,.p d),(4,.p e),(5,.p f),(6,.p g)],ay []⟩:=by
 unfold bx;congr 1;funext t
 match t with
 |0 | 1 | 2 | 3 | 4 | 5 | 6=>rfl
 |t+7=>simp[dv,eS]
theorem jO {ord:Int}{l:List Tm}{E:Int} (h:∀x∈l,Gx E x.2):∀x∈cnT ord l,Gx E x.2:=fun x hx=>by
 have h1:(x.1,moL x.2)∈tl (cnT ord l):=List.mem_map.2 ⟨x,hx,rfl⟩;rw[fC] at h1;obtain⟨y,hy,he⟩:=Mp.canon_mem h1;obtain⟨z,hz,rfl⟩:=List.mem_map.1 hy;rw[←jI he];exact h z hz
noncomputable def frm (l:List At) (ord:Int):List Tm:=cnT ord (rdL l)
theorem gY (l:List At) (ord:Int):(frm l ord).length≤l.length:=by have:=jJ ord (rdL l);rwa[eX] at this
theorem Gd.fx {l:List At}{n ord:Int} (h:Gd l n ord) (o:Int):∀x∈frm l o,Gx 40 x.2:=jO h.gx
theorem Gd.sz {l:List At}{n ord:Int} (h:Gd l n ord) (o:Int):Szd 1600000 1604009 (frm l o):=by
 have:=(qS l h.len).cn n o (fun x hx=>(h.gx x hx).ge (by omega)) (by rw[eX];have:=h.len;omega) (c:=9) (by rw[eX];have:=h.len;omega);exact this
theorem pw {a b:Nat} (h:a<b):2^a<2^b:=Nat.pow_lt_pow_right (by omega) h
theorem pl {a b:Nat} (h:a≤b):2^a≤2^b:=Nat.pow_le_pow_right (by omega) h
theorem Szd.mul {a b a' b':Nat}{l m:List Tm} (h:Szd a b l) (k:Szd a' b' m):Szd (a+a') (b+b') (mulT l m):=by
 obtain⟨D,h1,h2,h3⟩:=h;obtain⟨E,k1,k2,k3⟩:=k;exact⟨D*E,Nat.mul_pos h1 k1,by rw[Nat.pow_add];exact Nat.mul_le_mul h2 k2,by rw[Nat.pow_add];exact rA h3 k3⟩
theorem up2 {D E a b a' b' c:Nat} (h2:D≤2^a) (k2:E≤2^a') (h:b+a'≤c) (k:b'+a≤c):2^b*E+2^b'*D≤2^(c+1):=by
 have e1:2^b*E≤2^c:=Nat.le_trans (Nat.mul_le_mul_left _ k2) (by rw[←Nat.pow_add];exact pl h);have e2:2^b'*D≤2^c:=Nat.le_trans (Nat.mul_le_mul_left _ h2) (by rw[←Nat.pow_add];exact pl k);rw[Nat.pow_succ];omega
theorem Szd.app {a b a' b' c:Nat}{l m:List Tm} (h:Szd a b l) (k:Szd a' b' m) (h1:b+a'≤c) (h2:b'+a≤c):Szd (a+a') (c+1) (l++m):=by
 obtain⟨D,d1,d2,d3⟩:=h;obtain⟨E,k1,k2,k3⟩:=k;exact⟨D*E,Nat.mul_pos d1 k1,by rw[Nat.pow_add];exact Nat.mul_le_mul d2 k2,fun x hx=>(uW d3 k3 d1 k1 x hx).mono (up2 d2 k2 h1 h2)⟩
theorem zal (n ord n' ord':Int){l m:List Tm}{a b a' b' c q p:Nat} (h:Szd a b l) (k:Szd a' b' m) (gl:∀t∈l,Ge t.2) (gm:∀t∈m,Ge t.2) (hl:l.length+m.length≤1000000000) (hq:l.length+m.length≤2^q)
  (h1:b+a'≤c) (h2:b'+a≤c) (h3:a+a'<p) (h4:q+(c+1)<p) (hp:p≤2048000000000) :
  Con Tryz.prog AN 49 [SmD l n ord,SmD m n' ord'] (SmD (cnT ord (l++m)) n ord):=by
 obtain⟨D,d1,d2,d3⟩:=h;obtain⟨E,e1,e2,e3⟩:=k;refine zax n ord n' ord' l m (p:=p) d3 e3 d1 e1 gl gm hl ?_ ?_ hp
 ·refine Nat.lt_of_le_of_lt (Nat.mul_le_mul d2 e2) ?_;rw[←Nat.pow_add];exact pw h3
 ·refine Nat.lt_of_le_of_lt (Nat.mul_le_mul hq (up2 (c:=c) d2 e2 h1 h2)) ?_;rw[←Nat.pow_add];exact pw h4
theorem zam (n ord n' ord':Int){l m:List Tm}{a b a' b' q p:Nat}{G H:Int} (h:Szd a b l) (k:Szd a' b' m) (gl:∀t∈l,Gx G t.2) (gm:∀t∈m,Gx H t.2) (hG:0≤G) (hH:0≤H) (hGH:G+H≤1000000000000)
  (hl:l.length*m.length≤1000000000) (hll:l.length≤1000000000) (hlm:m.length≤1000000000) (hq:l.length*m.length≤2^q)
  (h3:a+a'<p) (h4:q+(b+b')<p) (hap:a<p) (hbp:b<p) (hap':a'<p) (hbp':b'<p) (hp:p≤2048000000000) :
  Con Tryz.prog AN 50 [SmD l n ord,SmD m n' ord'] (SmD (cnT ord (mulT l m)) n ord):=by
 have hbl:=h.bc hap hbp;have hbm:=k.bc hap' hbp';obtain⟨D,d1,d2,d3⟩:=h;obtain⟨E,e1,e2,e3⟩:=k;refine RM n ord n' ord' l m (p:=p) d3 e3 gl gm hG hH hGH hl hll hlm ?_ ?_ hbl hbm hp
 ·refine Nat.lt_of_le_of_lt (Nat.mul_le_mul d2 e2) ?_;rw[←Nat.pow_add];exact pw h3
 ·rw[←Nat.pow_add];refine Nat.lt_of_le_of_lt (Nat.mul_le_mul_right _ hq) ?_;rw[←Nat.pow_add];exact pw h4
noncomputable def dJ (a b:List At) (ord:Int):List Tm:=cnT ord (frm a ord++frm b ord)
noncomputable def cr (a b:List At) (ord:Int):List Tm:=cnT ord (mulT (frm a ord) (frm b ord))
section
variable (a b:List At) (n ord:Int) (ha:Gd a n ord) (hb:Gd b n ord)
include ha hb
theorem lP:(frm a ord).length+(frm b ord).length≤800∧(frm a ord).length*(frm b ord).length≤160000∧(frm a ord).length≤400∧(frm b ord).length≤400:=by
 have hla:=gY a ord;have hlb:=gY b ord;have h4:=ha.len;have h5:=hb.len;have hm:(frm a ord).length*(frm b ord).length≤400*400:=Nat.mul_le_mul (by omega) (by omega);omega
theorem zan:Con Tryz.prog AN 49 [SmD (frm a ord) n ord,SmD (frm b ord) n ord] (SmD (dJ a b ord) n ord):=by
 obtain⟨l1,l2,l3,l4⟩:=lP a b n ord ha hb;exact zal n ord n ord (ha.sz ord) (hb.sz ord) (fun t ht=>(ha.fx ord t ht).ge (by decide)) (fun t ht=>(hb.fx ord t ht).ge (by decide)) (by omega) (q:=10) (Nat.le_trans l1 (by decide)) (c:=3204009) (by decide) (by decide) (p:=4000000) (by decide) (by decide) (by decide)
theorem oY:Bc 4000000 (dJ a b ord)∧(dJ a b ord).length≤800:=by
 obtain⟨l1,l2,l3,l4⟩:=lP a b n ord ha hb;have hll:(frm a ord++frm b ord).length≤800:=by rw[List.length_append];exact l1
 refine⟨?_,Nat.le_trans (jJ _ _) hll⟩;have:=(((ha.sz ord).app (hb.sz ord) (c:=3204009) (by decide) (by decide)).cn n ord (fun x hx=>by
  rcases List.mem_append.1 hx with hx | hx
  ·exact (ha.fx ord x hx).ge (by decide)
  ·exact (hb.fx ord x hx).ge (by decide)) (Nat.le_trans hll (by decide)) (c:=10) (Nat.le_trans hll (by decide)))
 exact this.bc (by decide) (by decide)
theorem zao:Con Tryz.prog AN 50 [SmD (frm a ord) n ord,SmD (frm b ord) n ord] (SmD (cr a b ord) n ord):=by
 obtain⟨l1,l2,l3,l4⟩:=lP a b n ord ha hb;exact zam n ord n ord (ha.sz ord) (hb.sz ord) (ha.fx ord) (hb.fx ord) (by decide) (by decide) (by decide) (by omega) (by omega) (by omega) (q:=18) (Nat.le_trans l2 (by decide)) (p:=4000000) (by decide) (by decide) (by decide) (by decide) (by decide) (by decide) (by decide)
theorem oZ:Bc 4000000 (cr a b ord)∧(cr a b ord).length≤160000:=by
 obtain⟨l1,l2,l3,l4⟩:=lP a b n ord ha hb;have hll:(mulT (frm a ord) (frm b ord)).length≤160000:=by rw[kL];exact l2
 refine⟨?_,Nat.le_trans (jJ _ _) hll⟩;have:=(((ha.sz ord).mul (hb.sz ord)).cn n ord (fun x hx=>(nw (ha.fx ord) (hb.fx ord) x hx).ge (by decide)) (Nat.le_trans hll (by decide)) (c:=18) (Nat.le_trans hll (by decide)))
 exact this.bc (by decide) (by decide)
end
theorem zap (a:List At) (n ord:Int) (ha:Gd a n ord) (o:Int):Bc 4000000 (frm a o):=(ha.sz o).bc (by decide) (by decide)
noncomputable def formA (l:List At) (n ord:Int):List At:=if (fM l n ord).1=0 then WR n.toNat (frm l ord) else []
noncomputable def f2M (a b:List At) (n ord:Int):Int×Int:=if (fM a n ord).1=0 then fM b n ord else fM a n ord
theorem uT {a b:List At}{n ord:Int} (h:(f2M a b n ord).1=0):Gd a n ord∧Gd b n ord:=by
 unfold f2M at h;split at h
 ·rename_i h0;exact⟨du h0,du h⟩
 ·rename_i h0;exact absurd h h0
noncomputable def addA (a b:List At) (n ord:Int):List At:=if (f2M a b n ord).1=0 then WR n.toNat (dJ a b ord) else []
noncomputable def mulA (a b:List At) (n ord:Int):List At:=if (f2M a b n ord).1=0 then WR n.toNat (cr a b ord) else []
theorem zaq (l:List Tm) (n ord:Int):Con Tryz.prog [] 47 [SmD l n ord] (SmD l n ord):=by
 refine IJ.con rfl (by simp) ?_;(repeat first|with_reducible refine kp [1,2] ?_|simp only[kV,simprocAttr,aa,bw,ae,ai,ah,af]|refine aN ?_)
abbrev fnA:D:=.fn (.func 49) [] []
abbrev fnM:D:=.fn (.func 50) [] []
theorem zar (a b:List At) (n ord:Int) (ha:Gd a n ord) (hb:Gd b n ord):Con Tryz.prog AN 83 [SmD (frm b ord) n ord,.ref fnA,.ref (SmD (frm a ord) n ord)] (SmD (dJ a b ord) n ord):=by
 refine qO.con rfl (by simp) ?_;(repeat first|with_reducible refine kp [1,2,3,4] ?_|simp only[kV,simprocAttr,aa,bU]|refine aN ?_);refine⟨by decide,_,cx (zan a b n ord ha hb),ulc ?_⟩;(repeat first|with_reducible refine kp [4] ?_|simp only[kV,simprocAttr,aa,ae,ai,ah,af]|refine aN ?_)
theorem zas (a b:List At) (n ord:Int) (ha:Gd a n ord) (hb:Gd b n ord):Con Tryz.prog AN 83 [SmD (frm b ord) n ord,.ref fnM,.ref (SmD (frm a ord) n ord)] (SmD (cr a b ord) n ord):=by
 refine qO.con rfl (by simp) ?_;(repeat first|with_reducible refine kp [1,2,3,4] ?_|simp only[kV,simprocAttr,aa,bU]|refine aN ?_);refine⟨by decide,_,cx (zao a b n ord ha hb),ulc ?_⟩;(repeat first|with_reducible refine kp [4] ?_|simp only[kV,simprocAttr,aa,ae,ai,ah,af]|refine aN ?_)
section
variable (T U:Nat) (l:List At) (n ord:Int) (hl:l.length≤9223372036854775807) (hs:∀t∈l,t.1.length≤9223372036854775807)
include hl hs
theorem o6 (h:(fM l n ord).1≠0) (fd:D):Con Tryz.prog AN 46 [LTa T U l,J n,J ord,fd] (.tup [LTa 83 3 [],flt (fM l n ord).1 (fM l n ord).2]):=by
 have rb:=ky T U l n ord h hl hs;generalize fM l n ord=f at *;refine kt.con rfl (by simp) ?_;(repeat first|with_reducible refine kp [0,1,2,3,9] ?_|simp only[kV,simprocAttr,aa,ed]|refine aN ?_);refine⟨_,cx (rb),ulc ?_⟩;(repeat first|with_reducible refine kp [3,9,10,11,21] ?_|simp only[kV,simprocAttr,aa,h]|refine aN ?_);refine ulk ?_;(repeat first|with_reducible refine kp [8,9] ?_|simp only[kV,simprocAttr,aa,ae,ai,ah,af,h]|refine aN ?_);rfl
theorem zat (h:Gd l n ord):Con Tryz.prog AN 46 [LTa T U l,J n,J ord,.fn (.func 47) [] []] (.tup [LTa 83 3 (WR n.toNat (frm l ord)),flt 0 0]):=by
 have rc:=iw T U l n ord h hl hs;have h4:=h.len;have hfl:=gY l ord;have tc:=lR n.toNat (by have:=h.n4;omega) ord (frm l ord) (zap l n ord h ord) (by decide) (by omega);rw[show ((n.toNat:Nat):Int)=n by have:=h.n1;omega] at tc;have fc:=(zaq (frm l ord) n ord).mono (A':=AN) (by simp);refine kt.con rfl (by simp) ?_;(repeat first|with_reducible refine kp [0,1,2,3,9] ?_|simp only[kV,simprocAttr,aa,ed]|refine aN ?_);refine⟨_,cx (rc),ulc ?_⟩;(repeat first|with_reducible refine kp [3,9,10,11,21] ?_|simp only[kV,simprocAttr,aa]|refine aN ?_);refine ulk ?_;(repeat first|with_reducible refine kp [3,9,10,11] ?_|simp only[kV,simprocAttr,aa]|refine aN ?_);refine⟨by decide,_,cx (fc),ulc ?_⟩;(repeat first|simp only[kV,simprocAttr,aa]|refine aN ?_);refine⟨_,cx (tc),ulc ?_⟩;(repeat first|with_reducible refine kp [8,9] ?_|simp only[kV,simprocAttr,aa,ae,ai,ah,af]|refine aN ?_)
theorem zau (a:List At) (ha:Gd a n ord) (h:Gd l n ord):Con Tryz.prog AN 46 [LTa T U l,J n,J ord,.fn (.func 83) [] [.ref fnA,.ref (SmD (frm a ord) n ord)]] (.tup [LTa 83 3 (WR n.toNat (dJ a l ord)),flt 0 0]):=by
 have rc:=iw T U l n ord h hl hs;have h4:=h.len;have hfl:=gY l ord;have tc:=lR n.toNat (by have:=h.n4;omega) ord (dJ a l ord) (oY a l n ord ha h).1 (by decide) (by have:=(oY a l n ord ha h).2;omega);rw[show ((n.toNat:Nat):Int)=n by have:=h.n1;omega] at tc;have fc:=zar a l n ord ha h;refine kt.con rfl (by simp) ?_;(repeat first|with_reducible refine kp [0,1,2,3,9] ?_|simp only[kV,simprocAttr,aa,ed]|refine aN ?_);refine⟨_,cx (rc),ulc ?_⟩;(repeat first|with_reducible refine kp [3,9,10,11,21] ?_|simp only[kV,simprocAttr,aa]|refine aN ?_);refine ulk ?_;(repeat first|with_reducible refine kp [3,9,10,11] ?_|simp only[kV,simprocAttr,aa]|refine aN ?_);refine⟨by decide,_,cx (fc),ulc ?_⟩;(repeat first|simp only[kV,simprocAttr,aa]|refine aN ?_);refine⟨_,cx (tc),ulc ?_⟩;(repeat first|with_reducible refine kp [8,9] ?_|simp only[kV,simprocAttr,aa,ae,ai,ah,af]|refine aN ?_)
theorem one_mul (a:List At) (ha:Gd a n ord) (h:Gd l n ord):Con Tryz.prog AN 46 [LTa T U l,J n,J ord,.fn (.func 83) [] [.ref fnM,.ref (SmD (frm a ord) n ord)]] (.tup [LTa 83 3 (WR n.toNat (cr a l ord)),flt 0 0]):=by
 have rc:=iw T U l n ord h hl hs;have h4:=h.len;have hfl:=gY l ord;have tc:=lR n.toNat (by have:=h.n4;omega) ord (cr a l ord) (oZ a l n ord ha h).1 (by decide) (by have:=(oZ a l n ord ha h).2;omega);rw[show ((n.toNat:Nat):Int)=n by have:=h.n1;omega] at tc;have fc:=zas a l n ord ha h;refine kt.con rfl (by simp) ?_;(repeat first|with_reducible refine kp [0,1,2,3,9] ?_|simp only[kV,simprocAttr,aa,ed]|refine aN ?_);refine⟨_,cx (rc),ulc ?_⟩;(repeat first|with_reducible refine kp [3,9,10,11,21] ?_|simp only[kV,simprocAttr,aa]|refine aN ?_);refine ulk ?_;(repeat first|with_reducible refine kp [3,9,10,11] ?_|simp only[kV,simprocAttr,aa]|refine aN ?_);refine⟨by decide,_,cx (fc),ulc ?_⟩;(repeat first|simp only[kV,simprocAttr,aa]|refine aN ?_);refine⟨_,cx (tc),ulc ?_⟩;(repeat first|with_reducible refine kp [8,9] ?_|simp only[kV,simprocAttr,aa,ae,ai,ah,af]|refine aN ?_)
end
theorem uU (T U:Nat) (a:List At) (n ord:Int) (hl:a.length≤9223372036854775807) (hs:∀t∈a,t.1.length≤9223372036854775807) (ha:Gd a n ord) (bd fd r:D) (c p:Int) (hf:fd.isAgg=false∧fd.one=true∧fd.cells=[fd])
  (ho:Con Tryz.prog AN 46 [bd,J n,J ord,.fn (.func 83) [] [.ref fd,.ref (SmD (frm a ord) n ord)]] (.tup [r,flt c p])) :
  Con Tryz.prog AN 48 [LTa T U a,bd,J n,J ord,fd] (.tup [r,flt c p]):=by
 have rc:=iw T U a n ord ha hl hs;obtain⟨hf1,hf2,hf3⟩:=hf;refine qN.con rfl (by simp) ?_;(repeat first|with_reducible refine kp [0,1,2,3,9,11] ?_|simp only[kV,simprocAttr,aa,uR,hf1,hf2,hf3]|refine aN ?_);refine⟨_,cx (rc),ulc ?_⟩;(repeat first|with_reducible refine kp [1,2,3,9,11,12,13,23] ?_|simp only[kV,simprocAttr,aa,hf1,hf2,hf3]|refine aN ?_);(try simp only[kV,simprocAttr,aa,hf1,hf2,hf3,Bool.true_or]);refine ulk ?_;(repeat first|simp only[kV,simprocAttr,aa,hf1,hf2,hf3,Bool.true_or]|refine aN ?_);refine kM 9 _ 12 _ [1,2,3,9,11,12] (by rfl) (by rfl) ?_;refine ulk ?_;(repeat first|simp only[kV,simprocAttr,aa,hf1,hf2,hf3,Bool.true_or]|refine aN ?_);refine⟨_,cx (ho),ulc ?_⟩;(repeat first|with_reducible refine kp [10,11] ?_|simp only[kV,simprocAttr,aa,ae,ai,ah,af,hf1,hf2,hf3]|refine aN ?_)
theorem uV (T U:Nat) (a:List At) (n ord:Int) (hl:a.length≤9223372036854775807) (hs:∀t∈a,t.1.length≤9223372036854775807) (h:(fM a n ord).1≠0) (bd fd:D) (hf:fd.isAgg=false∧fd.one=true∧fd.cells=[fd]) :
  Con Tryz.prog AN 48 [LTa T U a,bd,J n,J ord,fd] (.tup [LTa 83 3 [],flt (fM a n ord).1 (fM a n ord).2]):=by
 have rb:=ky T U a n ord h hl hs;generalize fM a n ord=f at *;obtain⟨hf1,hf2,hf3⟩:=hf;refine qN.con rfl (by simp) ?_;(repeat first|with_reducible refine kp [0,1,2,3,9,11] ?_|simp only[kV,simprocAttr,aa,uR,hf1,hf2,hf3]|refine aN ?_);refine⟨_,cx (rb),ulc ?_⟩;(repeat first|with_reducible refine kp [1,2,3,9,11,12,13,23] ?_|simp only[kV,simprocAttr,aa,hf1,hf2,hf3,h]|refine aN ?_);refine ulk ?_;(repeat first|with_reducible refine kp [10,11] ?_|simp only[kV,simprocAttr,aa,ae,ai,ah,af,h]|refine aN ?_);rfl
section
variable (T U:Nat) (a:List At) (n ord:Int) (hl:a.length≤9223372036854775807) (hs:∀t∈a,t.1.length≤9223372036854775807)
include hl hs
theorem zav:Con Tryz.prog AN 10 [LTa T U a,J n,J ord] (.tup [LTa 83 3 (formA a n ord),flt (fM a n ord).1 (fM a n ord).2]):=by
 have key:Con Tryz.prog AN 46 [LTa T U a,J n,J ord,.fn (.func 47) [] []] (.tup [LTa 83 3 (formA a n ord),flt (fM a n ord).1 (fM a n ord).2]):=by
  unfold formA;by_cases h:(fM a n ord).1=0
  ·rw[if_pos h,(du h).fm];exact zat T U a n ord hl hs (du h)
  ·rw[if_neg h];exact o6 T U a n ord hl hs h _
 generalize formA a n ord=r at *;generalize fM a n ord=f at *;refine IH.con rfl (by simp) ?_;(repeat first|with_reducible refine kp [0,1,2,7] ?_|simp only[kV,simprocAttr,aa,bU]|refine aN ?_);refine⟨_,cx (key),ulc ?_⟩;(repeat first|with_reducible refine kp [6,7] ?_|simp only[kV,simprocAttr,aa,ae,ai,ah,af]|refine aN ?_)
variable (T' U':Nat) (b:List At) (hlb:b.length≤9223372036854775807) (hsb:∀t∈b,t.1.length≤9223372036854775807)
include hlb hsb
theorem o7:Con Tryz.prog AN 11 [LTa T U a,LTa T' U' b,J n,J ord] (.tup [LTa 83 3 (addA a b n ord),flt (f2M a b n ord).1 (f2M a b n ord).2]):=by
 have key:Con Tryz.prog AN 48 [LTa T U a,LTa T' U' b,J n,J ord,fnA] (.tup [LTa 83 3 (addA a b n ord),flt (f2M a b n ord).1 (f2M a b n ord).2]):=by
  unfold addA f2M;by_cases h:(fM a n ord).1=0
  ·rw[if_pos h];refine uU T U a n ord hl hs (du h) _ fnA _ _ _ ⟨rfl,rfl,rfl⟩ ?_;by_cases k:(fM b n ord).1=0
   ·rw[if_pos k,(du k).fm];exact zau T' U' b n ord hlb hsb a (du h) (du k)
   ·rw[if_neg k];exact o6 T' U' b n ord hlb hsb k _
  ·rw[if_neg h,if_neg h];exact uV T U a n ord hl hs h _ fnA ⟨rfl,rfl,rfl⟩
 generalize addA a b n ord=r at *;generalize f2M a b n ord=f at *;refine IQ.con rfl (by simp) ?_;(repeat first|with_reducible refine kp [0,1,2,3,9] ?_|simp only[kV,simprocAttr,aa,ed]|refine aN ?_);refine⟨_,cx (key),ulc ?_⟩;(repeat first|with_reducible refine kp [8,9] ?_|simp only[kV,simprocAttr,aa,ae,ai,ah,af]|refine aN ?_)
theorem jP:Con Tryz.prog AN 12 [LTa T U a,LTa T' U' b,J n,J ord] (.tup [LTa 83 3 (mulA a b n ord),flt (f2M a b n ord).1 (f2M a b n ord).2]):=by
 have key:Con Tryz.prog AN 48 [LTa T U a,LTa T' U' b,J n,J ord,fnM] (.tup [LTa 83 3 (mulA a b n ord),flt (f2M a b n ord).1 (f2M a b n ord).2]):=by
  unfold mulA f2M;by_cases h:(fM a n ord).1=0
  ·rw[if_pos h];refine uU T U a n ord hl hs (du h) _ fnM _ _ _ ⟨rfl,rfl,rfl⟩ ?_;by_cases k:(fM b n ord).1=0
   ·rw[if_pos k,(du k).fm];exact one_mul T' U' b n ord hlb hsb a (du h) (du k)
   ·rw[if_neg k];exact o6 T' U' b n ord hlb hsb k _
  ·rw[if_neg h,if_neg h];exact uV T U a n ord hl hs h _ fnM ⟨rfl,rfl,rfl⟩
 generalize mulA a b n ord=r at *;generalize f2M a b n ord=f at *;refine IU.con rfl (by simp) ?_;(repeat first|with_reducible refine kp [0,1,2,3,9] ?_|simp only[kV,simprocAttr,aa,ed]|refine aN ?_);refine⟨_,cx (key),ulc ?_⟩;(repeat first|with_reducible refine kp [8,9] ?_|simp only[kV,simprocAttr,aa,ae,ai,ah,af]|refine aN ?_)
end
theorem Z7 {a b:List Int} (hl:a.length=b.length) (h:∀k,k<a.length→a.getD k 0=b.getD k 0):a=b:=List.ext_getElem hl fun k h1 h2=>by
 have:=h k h1
 rwa[List.getD_eq_getElem?_getD,List.getD_eq_getElem?_getD,List.getElem?_eq_getElem h1,List.getElem?_eq_getElem h2] at this
section
variable (T U:Nat) (ord:Int) (a b:List Int) (hl:a.length=b.length) (hn:a.length≤1000)
include hl hn
end
namespace P
open Mp
end P
abbrev FZt:Nat:=50
abbrev LZ (l:List Rat):D:=.list FZt 4 (l.map qZ)
abbrev zF0:D:=.agg [.bool false,.list 3 1 [],.bool false,.list 3 1 []]
end Go.Proofs.YtbnhgnhgbhjkcaaGreat.M
namespace Go.Proofs.YtbnhgnhgbhjkcaaGreat.Mp
end Go.Proofs.YtbnhgnhgbhjkcaaGreat.Mp
namespace Go.Proofs.YtbnhgnhgbhjkcaaGreat.M
open Go.RowKit
def wz (x:Zm):At:=(frText x.1.num x.1.den,x.2)
end Go.Proofs.YtbnhgnhgbhjkcaaGreat.M
