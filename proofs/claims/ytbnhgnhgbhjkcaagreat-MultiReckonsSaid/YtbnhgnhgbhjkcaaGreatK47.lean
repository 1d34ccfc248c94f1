/- Lemmas. -/
import Derived.Test.YtbnhgnhgbhjkcaaGreatK46
set_option linter.defProp false
set_option linter.unusedSimpArgs false
set_option linter.unusedVariables false
namespace Go.Proofs.YtbnhgnhgbhjkcaaGreat.M
open Go.RowKit
set_option maxRecDepth 20000
set_option maxHeartbeats 2000000
def rdE (e:List Int):Ex4:=(e.getD 0 0,e.getD 1 0,e.getD 2 0,e.getD 3 0)
noncomputable def rdA (t:At):Tm:=(qR t.1,rdE t.2)
noncomputable def rdL (l:List At):List Tm:=l.map rdA
theorem eH (l:List At):(rdL l).length=l.length:=List.length_map _
theorem JM {l:List At}{i:Nat} (h:i<l.length):rdL (l.take (i+1))=rdL (l.take i)++[rdA (at0 l i)]:=by rw[oD h];unfold rdL;rw[List.map_append];rfl
theorem JN {e:List Int} (h:∀x∈e,0≤x∧x≤40):Gx 40 (rdE e):=by
 have key:∀k,0≤e.getD k 0∧e.getD k 0≤40:=fun k=>by
  by_cases hk:k<e.length
  ·have:e.getD k 0=e[k]:=by simp[hk]
   rw[this];exact h _ (List.getElem_mem hk)
  ·have:e.getD k 0=0:=by simp[List.getElem?_eq_none (Nat.le_of_not_lt hk)]
   rw[this];omega
 exact⟨key 0,key 1,key 2,key 3⟩
def Szd (a b:Nat) (l:List Tm):Prop:=∃D,0<D∧D≤2^a∧∀x∈l,Db D (2^b) x.1
theorem ms (l:List At){k:Nat} (h:l.length≤k):Szd (4000*k) (4000+4000*k) (rdL l):=by
 have hb:∀x∈(rdL l).map (·.1),Bq 4000 x:=fun x hx=>by
  obtain⟨y,hy,rfl⟩:=List.mem_map.1 hx;obtain⟨z,hz,rfl⟩:=List.mem_map.1 hy;exact zev z.1
 have hlen:((rdL l).map (·.1)).length=l.length:=by rw[List.length_map,eH]
 refine⟨dI ((rdL l).map (·.1)),kP _,?_,fun x hx => ?_⟩
 ·refine Nat.le_trans (sX (n:=4000) fun x hx=>Nat.le_of_lt (hb x hx).2) ?_;rw[hlen];exact Nat.pow_le_pow_right (by omega) (Nat.mul_le_mul_left _ h)
 ·refine ((Lb.of_bq hb).mem (List.mem_map.2 ⟨x,hx,rfl⟩)).mono ?_;rw[hlen];exact Nat.pow_le_pow_right (by omega) (Nat.add_le_add_left (Nat.mul_le_mul_left _ h) _)
theorem JO (l:List At) (h:l.length≤400):∃D X p,(∀x∈rdL l,Db D X x.1)∧D<2^p∧(rdL l).length*X<2^p∧p≤2048000000000:=by
 have key:∀a b q,a<q→b+9<q→q≤2048000000000→Szd a b (rdL l)→∃D X p,(∀x∈rdL l,Db D X x.1)∧D<2^p∧(rdL l).length*X<2^p∧p≤2048000000000:=fun a b q h1 h2 h6 hs=>by
  obtain⟨D,h3,h4,h5⟩:=hs;refine⟨D,2^b,q,h5,Nat.lt_of_le_of_lt h4 (Nat.pow_lt_pow_right (by decide) h1),?_,h6⟩;refine Nat.lt_of_le_of_lt (Nat.mul_le_mul_right _ (Nat.le_trans (by rw[eH];exact h) (show 400≤2^9 by decide))) ?_;rw[←Nat.pow_add];exact Nat.pow_lt_pow_right (by decide) (by omega)
 exact key (4000*400) (4000+4000*400) 1700000 (by decide) (by decide) (by decide) (ms l h)
theorem Gd.gx {l:List At}{n ord:Int} (h:Gd l n ord):∀x∈rdL l,Gx 40 x.2:=fun x hx=>by
 obtain⟨y,hy,rfl⟩:=List.mem_map.1 hx;exact JN (jr (h.ft y hy)).2.1
theorem Szd.cn {a b c:Nat}{l:List Tm} (n ord:Int) (h:Szd a b l) (hg:∀x∈l,Ge x.2) (hl:l.length≤1000000000) (hc:l.length≤2^c):Szd a (b+c) (cnT ord l):=by
 obtain⟨D,h1,h2,h3⟩:=h;obtain⟨s1,s2⟩:=qN n ord hg hl;refine⟨D,h1,h2,fun x hx=>(zdg s1 s2 h3 x hx).mono ?_⟩;rw[Nat.pow_add,Nat.mul_comm];exact Nat.mul_le_mul_left _ hc
theorem Szd.bc {a b p:Nat}{l:List Tm} (h:Szd a b l) (ha:a<p) (hb:b<p):Bc p l:=fun x hx=>by
 obtain⟨D,h1,h2,h3⟩:=h;exact (h3 x hx).Bq (Nat.lt_of_le_of_lt h2 (Nat.pow_lt_pow_right (by omega) ha)) (Nat.pow_lt_pow_right (by omega) hb)
theorem JP (q:Rat):dt (List.map AV.p (qI q).cells++[AV.p (J 0),AV.p (J 0),AV.p (J 0),AV.p (J 0)])=some (tI (q,(0,0,0,0))).cells:=rfl
theorem p7:(dD (.ptr 8 0 0) (.ptr 6 0 0)=true)=True:=eq_true rfl
theorem JQ (e:List Int):(e.map (D.int .i64)).all D.one=true:=by simp[D.one]
theorem JR (q:Rat) (e:List Int) (h:e.length≤4):dt (((tI (q,(0,0,0,0))).cells.map AV.p).take 4++(e.map (D.int .i64)).map AV.p++((tI (q,(0,0,0,0))).cells.map AV.p).drop (4+e.length))=some (tI (q,rdE e)).cells:=by
 match e,h with
 |[],_=>rfl
 |[a],_=>rfl
 |[a,b],_=>rfl
 |[a,b,c],_=>rfl
 |[a,b,c,d],_=>rfl
theorem jW (T U:Nat) (l:List At) (n ord:Int) (h:Gd l n ord) (hl:l.length≤9223372036854775807) (hs:∀t∈l,t.1.length≤9223372036854775807) :
  Con Tryz.prog AN 55 [LTa T U l,J n,J ord] (.tup [SmD (cnT ord (rdL l)) n ord,flt 0 0]):=by
 have cc:=js T U l n ord hl hs;rw[h.fm] at cc;have h400:=h.len;obtain⟨D,X,p,hdb,hDp,hXp,hpp⟩:=JO l h400;have mc:=(mI n ord (rdL l) hdb (fun x hx=>(h.gx x hx).ge (by omega)) (by rw[eH];omega) hDp hXp hpp).x;refine pY.con rfl (by simp) ?_;(repeat first|with_reducible refine kp [0,1,2,6,7] ?_|simp only[kV,simprocAttr,aa,Option.map_some,bO]|refine aN ?_);refine⟨_,cx (cc),ulc ?_⟩;(repeat first|with_reducible refine kp [0,1,2,6,7,8,22] ?_|simp only[kV,simprocAttr,aa,Option.map_some]|refine aN ?_);refine ulk ?_;(repeat first|simp only[kV,simprocAttr,aa,Option.map_some]|refine aN ?_);refine kp [0,1,2,6,7] ?_;(repeat first|simp only[kV,simprocAttr,aa,Option.map_some]|refine aN ?_);refine kp [0,6,7,9] ?_;(repeat first|simp only[kV,simprocAttr,aa,Option.map_some]|refine aN ?_);refine kp [0,6,7,9,10] ?_;(repeat first|simp only[kV,simprocAttr,aa,Option.map_some]|refine aN ?_);refine kp [6,7,9,10,28,29,30] ?_;(repeat first|simp only[kV,simprocAttr,aa,Option.map_some]|refine aN ?_);refine aG (ι:=Nat) (fun i=>i≤l.length) (fun i=>⟨ai [(6,.ptr 6 0 0),(7,.ptr 7 0 0),(9,.ptr 9 0 0),(10,.slice 205 0 i),(28,.p (LTa T U l)),(29,.p (J l.length)),(30,.p (J i))],
  au [(6,⟨96,3,.box (.p (SmD [] 0 0)),false⟩),(7,⟨25,2,.box (.p (flt 0 0)),false⟩),(9,⟨94,2,.box (.p (rgD n ord)),false⟩),(205,⟨TT,8,.row ((rdL (l.take i)).map tI),false⟩)]⟩) (fun i=>l.length-i) 0 (Nat.zero_le _) (Sub.tr (Sub.nilG 10 205 TT 8) (Sub.toG [6,7,9,10,28,29,30] [8,12,13,14,15,49])) ?_
 intro i hi;by_cases h':i<l.length
 ·have hI:(i:Int)<(l.length:Int):=by omega
  have g1:=fU (U:=U) h';have hst:=hs _ (fq h');have hft:=jr (h.ft _ (fq h'));have htk:=JM h';have hlen:(rdL (l.take i)).length=i:=by rw[eH,List.length_take,Nat.min_eq_left hi]
  generalize at0 l i=t at *;generalize rdL (l.take i)=q at *;obtain⟨c,e⟩:=t;simp only at g1 hst hft;obtain⟨he1,he2,he3⟩:=hft;have hn4:=h.n4;have he4:e.length≤4:=by omega
  have cp:=JR (qR c) e he4;have hone:=JQ e;have f1:(rdL (l.take (i+1))).map tI=q.map tI++[tI (qR c,rdE e)]:=by rw[htk,List.map_append];rfl
  (repeat first|with_reducible refine kp [6,7,9,10,28,29,30,31] ?_|simp only[kV,simprocAttr,aa,Option.map_some,hI]|refine aN ?_);(try simp only[kV,simprocAttr,aa,Option.map_some,hI,g1,h']);refine ulk ?_;(repeat first|with_reducible refine kp [6,7,9,10,12,28,29,30] ?_|simp only[kV,simprocAttr,aa,Option.map_some,hI,g1,h']|refine aN ?_);refine⟨_,cx (tM c hst),ulc ?_⟩;(repeat first|with_reducible refine kp [6,7,9,10,12,13,15,28,29,30] ?_|simp only[kV,simprocAttr,aa,Option.map_some,JP,he4,hone,cp,hlen]|refine aN ?_);exact⟨i+1,h',by rw[f1];exact (Sub.toG [6,7,9,10,28,29,30] [8,12,13,14,15,49]),by omega⟩
 ·have hI:¬ (i:Int)<(l.length:Int):=by omega
  obtain rfl:i=l.length:=by omega
  rw[List.take_length];(repeat first|with_reducible refine kp [6,7,9,10,28,29,30,31] ?_|simp only[kV,simprocAttr,aa,Option.map_some,hI]|refine aN ?_);(try simp only[kV,simprocAttr,aa,Option.map_some,hI,eH]);refine ulk ?_;(repeat first|with_reducible refine kp [6,7,9,10] ?_|simp only[kV,simprocAttr,aa,Option.map_some,hI,eH]|refine aN ?_);refine⟨_,_,mc,ulc ?_⟩;(repeat first|with_reducible refine kp [6,7] ?_|simp only[kV,simprocAttr,aa,Option.map_some,ab,ah,af,ac]|refine aN ?_)
theorem p8 (T U:Nat) (l:List At) (n ord:Int) (h:(fM l n ord).1≠0) (hl:l.length≤9223372036854775807) (hs:∀t∈l,t.1.length≤9223372036854775807) :
  Con Tryz.prog AN 55 [LTa T U l,J n,J ord] (.tup [SmD [] 0 0,flt (fM l n ord).1 (fM l n ord).2]):=by
 have cc:=js T U l n ord hl hs;generalize fM l n ord=f at *;refine pY.con rfl (by simp) ?_;(repeat first|with_reducible refine kp [0,1,2,6,7] ?_|simp only[kV,simprocAttr,aa,Option.map_some,bO]|refine aN ?_);refine⟨_,cx (cc),ulc ?_⟩;(repeat first|with_reducible refine kp [0,1,2,6,7,8,22] ?_|simp only[kV,simprocAttr,aa,Option.map_some,h]|refine aN ?_);(try simp only[kV,simprocAttr,aa,Option.map_some,h,p7]);refine ulk ?_;(repeat first|with_reducible refine kp [6,7] ?_|simp only[kV,simprocAttr,aa,Option.map_some,ab,ah,af,ac,h,p7]|refine aN ?_);rfl
theorem tW (a b c d e:D):bl [a,b,c,d,e]=⟨ai [(0,.p a),(1,.p b),(2,.p c),(3,.p d),(4,.p e)],au []⟩:=by
 unfold bl;congr 1;funext t
 match t with
 |0 | 1 | 2 | 3 | 4=>rfl
 |t+5=>simp[dz,fA]
theorem zeU {ord:Int}{l:List Tm}{E:Int} (h:∀x∈l,Gx E x.2):∀x∈cnT ord l,Gx E x.2:=fun x hx=>by
 have h1:(x.1,moL x.2)∈tl (cnT ord l):=List.mem_map.2 ⟨x,hx,rfl⟩;rw[sO] at h1;obtain⟨y,hy,he⟩:=Mp.canon_mem h1;obtain⟨z,hz,rfl⟩:=List.mem_map.1 hy;rw[←kM he];exact h z hz
noncomputable def frm (l:List At) (ord:Int):List Tm:=cnT ord (rdL l)
theorem jp (l:List At) (ord:Int):(frm l ord).length≤l.length:=by have:=nG ord (rdL l);rwa[eH] at this
theorem Gd.fx {l:List At}{n ord:Int} (h:Gd l n ord) (o:Int):∀x∈frm l o,Gx 40 x.2:=zeU h.gx
theorem Gd.sz {l:List At}{n ord:Int} (h:Gd l n ord) (o:Int):Szd 1600000 1604009 (frm l o):=by
 have:=(ms l h.len).cn n o (fun x hx=>(h.gx x hx).ge (by omega)) (by rw[eH];have:=h.len;omega) (c:=9) (by rw[eH];have:=h.len;omega);exact this
theorem pw {a b:Nat} (h:a<b):2^a<2^b:=Nat.pow_lt_pow_right (by omega) h
theorem pl {a b:Nat} (h:a≤b):2^a≤2^b:=Nat.pow_le_pow_right (by omega) h
theorem Szd.mul {a b a' b':Nat}{l m:List Tm} (h:Szd a b l) (k:Szd a' b' m):Szd (a+a') (b+b') (mulT l m):=by
 obtain⟨D,h1,h2,h3⟩:=h;obtain⟨E,k1,k2,k3⟩:=k;exact⟨D*E,Nat.mul_pos h1 k1,by rw[Nat.pow_add];exact Nat.mul_le_mul h2 k2,by rw[Nat.pow_add];exact qx h3 k3⟩
theorem up2 {D E a b a' b' c:Nat} (h2:D≤2^a) (k2:E≤2^a') (h:b+a'≤c) (k:b'+a≤c):2^b*E+2^b'*D≤2^(c+1):=by
 have e1:2^b*E≤2^c:=Nat.le_trans (Nat.mul_le_mul_left _ k2) (by rw[←Nat.pow_add];exact pl h);have e2:2^b'*D≤2^c:=Nat.le_trans (Nat.mul_le_mul_left _ h2) (by rw[←Nat.pow_add];exact pl k);rw[Nat.pow_succ];omega
theorem Szd.app {a b a' b' c:Nat}{l m:List Tm} (h:Szd a b l) (k:Szd a' b' m) (h1:b+a'≤c) (h2:b'+a≤c):Szd (a+a') (c+1) (l++m):=by
 obtain⟨D,d1,d2,d3⟩:=h;obtain⟨E,k1,k2,k3⟩:=k;exact⟨D*E,Nat.mul_pos d1 k1,by rw[Nat.pow_add];exact Nat.mul_le_mul d2 k2,fun x hx=>(t8 d3 k3 d1 k1 x hx).mono (up2 d2 k2 h1 h2)⟩
theorem zeV (n ord n' ord':Int){l m:List Tm}{a b a' b' c q p:Nat} (h:Szd a b l) (k:Szd a' b' m) (gl:∀t∈l,Ge t.2) (gm:∀t∈m,Ge t.2) (hl:l.length+m.length≤1000000000) (hq:l.length+m.length≤2^q)
  (h1:b+a'≤c) (h2:b'+a≤c) (h3:a+a'<p) (h4:q+(c+1)<p) (hp:p≤2048000000000) :
  Con Tryz.prog AN 49 [SmD l n ord,SmD m n' ord'] (SmD (cnT ord (l++m)) n ord):=by
 obtain⟨D,d1,d2,d3⟩:=h;obtain⟨E,e1,e2,e3⟩:=k;refine ze7 n ord n' ord' l m (p:=p) d3 e3 d1 e1 gl gm hl ?_ ?_ hp
 ·refine Nat.lt_of_le_of_lt (Nat.mul_le_mul d2 e2) ?_;rw[←Nat.pow_add];exact pw h3
 ·refine Nat.lt_of_le_of_lt (Nat.mul_le_mul hq (up2 (c:=c) d2 e2 h1 h2)) ?_;rw[←Nat.pow_add];exact pw h4
theorem zeW (n ord n' ord':Int){l m:List Tm}{a b a' b' q p:Nat}{G H:Int} (h:Szd a b l) (k:Szd a' b' m) (gl:∀t∈l,Gx G t.2) (gm:∀t∈m,Gx H t.2) (hG:0≤G) (hH:0≤H) (hGH:G+H≤1000000000000)
  (hl:l.length*m.length≤1000000000) (hll:l.length≤1000000000) (hlm:m.length≤1000000000) (hq:l.length*m.length≤2^q)
  (h3:a+a'<p) (h4:q+(b+b')<p) (hap:a<p) (hbp:b<p) (hap':a'<p) (hbp':b'<p) (hp:p≤2048000000000) :
  Con Tryz.prog AN 50 [SmD l n ord,SmD m n' ord'] (SmD (cnT ord (mulT l m)) n ord):=by
 have hbl:=h.bc hap hbp;have hbm:=k.bc hap' hbp';obtain⟨D,d1,d2,d3⟩:=h;obtain⟨E,e1,e2,e3⟩:=k;refine WO n ord n' ord' l m (p:=p) d3 e3 gl gm hG hH hGH hl hll hlm ?_ ?_ hbl hbm hp
 ·refine Nat.lt_of_le_of_lt (Nat.mul_le_mul d2 e2) ?_;rw[←Nat.pow_add];exact pw h3
 ·rw[←Nat.pow_add];refine Nat.lt_of_le_of_lt (Nat.mul_le_mul_right _ hq) ?_;rw[←Nat.pow_add];exact pw h4
noncomputable def gG (a b:List At) (ord:Int):List Tm:=cnT ord (frm a ord++frm b ord)
noncomputable def gH (a b:List At) (ord:Int):List Tm:=cnT ord (mulT (frm a ord) (frm b ord))
section
variable (a b:List At) (n ord:Int) (ha:Gd a n ord) (hb:Gd b n ord)
include ha hb
theorem lf:(frm a ord).length+(frm b ord).length≤800∧(frm a ord).length*(frm b ord).length≤160000∧(frm a ord).length≤400∧(frm b ord).length≤400:=by
 have hla:=jp a ord;have hlb:=jp b ord;have h4:=ha.len;have h5:=hb.len;have hm:(frm a ord).length*(frm b ord).length≤400*400:=Nat.mul_le_mul (by omega) (by omega);omega
theorem zeX:Con Tryz.prog AN 49 [SmD (frm a ord) n ord,SmD (frm b ord) n ord] (SmD (gG a b ord) n ord):=by
 obtain⟨l1,l2,l3,l4⟩:=lf a b n ord ha hb;exact zeV n ord n ord (ha.sz ord) (hb.sz ord) (fun t ht=>(ha.fx ord t ht).ge (by decide)) (fun t ht=>(hb.fx ord t ht).ge (by decide)) (by omega) (q:=10) (Nat.le_trans l1 (by decide)) (c:=3204009) (by decide) (by decide) (p:=4000000) (by decide) (by decide) (by decide)
theorem tX:Bc 4000000 (gG a b ord)∧(gG a b ord).length≤800:=by
 obtain⟨l1,l2,l3,l4⟩:=lf a b n ord ha hb;have hll:(frm a ord++frm b ord).length≤800:=by rw[List.length_append];exact l1
 refine⟨?_,Nat.le_trans (nG _ _) hll⟩;have:=(((ha.sz ord).app (hb.sz ord) (c:=3204009) (by decide) (by decide)).cn n ord (fun x hx=>by
  rcases List.mem_append.1 hx with hx | hx
  ·exact (ha.fx ord x hx).ge (by decide)
  ·exact (hb.fx ord x hx).ge (by decide)) (Nat.le_trans hll (by decide)) (c:=10) (Nat.le_trans hll (by decide)))
 exact this.bc (by decide) (by decide)
theorem zeY:Con Tryz.prog AN 50 [SmD (frm a ord) n ord,SmD (frm b ord) n ord] (SmD (gH a b ord) n ord):=by
 obtain⟨l1,l2,l3,l4⟩:=lf a b n ord ha hb;exact zeW n ord n ord (ha.sz ord) (hb.sz ord) (ha.fx ord) (hb.fx ord) (by decide) (by decide) (by decide) (by omega) (by omega) (by omega) (q:=18) (Nat.le_trans l2 (by decide)) (p:=4000000) (by decide) (by decide) (by decide) (by decide) (by decide) (by decide) (by decide)
theorem tY:Bc 4000000 (gH a b ord)∧(gH a b ord).length≤160000:=by
 obtain⟨l1,l2,l3,l4⟩:=lf a b n ord ha hb;have hll:(mulT (frm a ord) (frm b ord)).length≤160000:=by rw[j9];exact l2
 refine⟨?_,Nat.le_trans (nG _ _) hll⟩;have:=(((ha.sz ord).mul (hb.sz ord)).cn n ord (fun x hx=>(qy (ha.fx ord) (hb.fx ord) x hx).ge (by decide)) (Nat.le_trans hll (by decide)) (c:=18) (Nat.le_trans hll (by decide)))
 exact this.bc (by decide) (by decide)
end
theorem zeZ (a:List At) (n ord:Int) (ha:Gd a n ord) (o:Int):Bc 4000000 (frm a o):=(ha.sz o).bc (by decide) (by decide)
noncomputable def formA (l:List At) (n ord:Int):List At:=if (fM l n ord).1=0 then WR n.toNat (frm l ord) else []
noncomputable def f2M (a b:List At) (n ord:Int):Int×Int:=if (fM a n ord).1=0 then fM b n ord else fM a n ord
noncomputable def addA (a b:List At) (n ord:Int):List At:=if (f2M a b n ord).1=0 then WR n.toNat (gG a b ord) else []
noncomputable def mulA (a b:List At) (n ord:Int):List At:=if (f2M a b n ord).1=0 then WR n.toNat (gH a b ord) else []
theorem ze0 (l:List Tm) (n ord:Int):Con Tryz.prog [] 47 [SmD l n ord] (SmD l n ord):=by
 refine Hr.con rfl (by simp) ?_;(repeat first|with_reducible refine kp [1,2] ?_|simp only[kV,simprocAttr,aa,aZ,ab,ah,af,ac]|refine aN ?_)
abbrev fnA:D:=.fn (.func 49) [] []
abbrev fnM:D:=.fn (.func 50) [] []
theorem ze1 (a b:List At) (n ord:Int) (ha:Gd a n ord) (hb:Gd b n ord):Con Tryz.prog AN 83 [SmD (frm b ord) n ord,.ref fnA,.ref (SmD (frm a ord) n ord)] (SmD (gG a b ord) n ord):=by
 refine p5.con rfl (by simp) ?_;(repeat first|with_reducible refine kp [1,2,3,4] ?_|simp only[kV,simprocAttr,aa,bO]|refine aN ?_);refine⟨by decide,_,cx (zeX a b n ord ha hb),ulc ?_⟩;(repeat first|with_reducible refine kp [4] ?_|simp only[kV,simprocAttr,aa,ab,ah,af,ac]|refine aN ?_)
theorem ze2 (a b:List At) (n ord:Int) (ha:Gd a n ord) (hb:Gd b n ord):Con Tryz.prog AN 83 [SmD (frm b ord) n ord,.ref fnM,.ref (SmD (frm a ord) n ord)] (SmD (gH a b ord) n ord):=by
 refine p5.con rfl (by simp) ?_;(repeat first|with_reducible refine kp [1,2,3,4] ?_|simp only[kV,simprocAttr,aa,bO]|refine aN ?_);refine⟨by decide,_,cx (zeY a b n ord ha hb),ulc ?_⟩;(repeat first|with_reducible refine kp [4] ?_|simp only[kV,simprocAttr,aa,ab,ah,af,ac]|refine aN ?_)
section
variable (T U:Nat) (l:List At) (n ord:Int) (hl:l.length≤9223372036854775807) (hs:∀t∈l,t.1.length≤9223372036854775807)
include hl hs
theorem ou (h:(fM l n ord).1≠0) (fd:D):Con Tryz.prog AN 46 [LTa T U l,J n,J ord,fd] (.tup [LTa 83 3 [],flt (fM l n ord).1 (fM l n ord).2]):=by
 have rb:=p8 T U l n ord h hl hs;generalize fM l n ord=f at *;refine jS.con rfl (by simp) ?_;(repeat first|with_reducible refine kp [0,1,2,3,9] ?_|simp only[kV,simprocAttr,aa,dC]|refine aN ?_);refine⟨_,cx (rb),ulc ?_⟩;(repeat first|with_reducible refine kp [3,9,10,11,21] ?_|simp only[kV,simprocAttr,aa,h]|refine aN ?_);refine ulk ?_;(repeat first|with_reducible refine kp [8,9] ?_|simp only[kV,simprocAttr,aa,ab,ah,af,ac,h]|refine aN ?_);rfl
theorem ze3 (h:Gd l n ord):Con Tryz.prog AN 46 [LTa T U l,J n,J ord,.fn (.func 47) [] []] (.tup [LTa 83 3 (WR n.toNat (frm l ord)),flt 0 0]):=by
 have rc:=jW T U l n ord h hl hs;have h4:=h.len;have hfl:=jp l ord;have tc:=oC n.toNat (by have:=h.n4;omega) ord (frm l ord) (zeZ l n ord h ord) (by decide) (by omega);rw[show ((n.toNat:Nat):Int)=n by have:=h.n1;omega] at tc;have fc:=(ze0 (frm l ord) n ord).mono (A':=AN) (by simp);refine jS.con rfl (by simp) ?_;(repeat first|with_reducible refine kp [0,1,2,3,9] ?_|simp only[kV,simprocAttr,aa,dC]|refine aN ?_);refine⟨_,cx (rc),ulc ?_⟩;(repeat first|with_reducible refine kp [3,9,10,11,21] ?_|simp only[kV,simprocAttr,aa]|refine aN ?_);refine ulk ?_;(repeat first|with_reducible refine kp [3,9,10,11] ?_|simp only[kV,simprocAttr,aa]|refine aN ?_);refine⟨by decide,_,cx (fc),ulc ?_⟩;(repeat first|simp only[kV,simprocAttr,aa]|refine aN ?_);refine⟨_,cx (tc),ulc ?_⟩;(repeat first|with_reducible refine kp [8,9] ?_|simp only[kV,simprocAttr,aa,ab,ah,af,ac]|refine aN ?_)
theorem ze4 (a:List At) (ha:Gd a n ord) (h:Gd l n ord):Con Tryz.prog AN 46 [LTa T U l,J n,J ord,.fn (.func 83) [] [.ref fnA,.ref (SmD (frm a ord) n ord)]] (.tup [LTa 83 3 (WR n.toNat (gG a l ord)),flt 0 0]):=by
 have rc:=jW T U l n ord h hl hs;have h4:=h.len;have hfl:=jp l ord;have tc:=oC n.toNat (by have:=h.n4;omega) ord (gG a l ord) (tX a l n ord ha h).1 (by decide) (by have:=(tX a l n ord ha h).2;omega);rw[show ((n.toNat:Nat):Int)=n by have:=h.n1;omega] at tc;have fc:=ze1 a l n ord ha h;refine jS.con rfl (by simp) ?_;(repeat first|with_reducible refine kp [0,1,2,3,9] ?_|simp only[kV,simprocAttr,aa,dC]|refine aN ?_);refine⟨_,cx (rc),ulc ?_⟩;(repeat first|with_reducible refine kp [3,9,10,11,21] ?_|simp only[kV,simprocAttr,aa]|refine aN ?_);refine ulk ?_;(repeat first|with_reducible refine kp [3,9,10,11] ?_|simp only[kV,simprocAttr,aa]|refine aN ?_);refine⟨by decide,_,cx (fc),ulc ?_⟩;(repeat first|simp only[kV,simprocAttr,aa]|refine aN ?_);refine⟨_,cx (tc),ulc ?_⟩;(repeat first|with_reducible refine kp [8,9] ?_|simp only[kV,simprocAttr,aa,ab,ah,af,ac]|refine aN ?_)
theorem one_mul (a:List At) (ha:Gd a n ord) (h:Gd l n ord):Con Tryz.prog AN 46 [LTa T U l,J n,J ord,.fn (.func 83) [] [.ref fnM,.ref (SmD (frm a ord) n ord)]] (.tup [LTa 83 3 (WR n.toNat (gH a l ord)),flt 0 0]):=by
 have rc:=jW T U l n ord h hl hs;have h4:=h.len;have hfl:=jp l ord;have tc:=oC n.toNat (by have:=h.n4;omega) ord (gH a l ord) (tY a l n ord ha h).1 (by decide) (by have:=(tY a l n ord ha h).2;omega);rw[show ((n.toNat:Nat):Int)=n by have:=h.n1;omega] at tc;have fc:=ze2 a l n ord ha h;refine jS.con rfl (by simp) ?_;(repeat first|with_reducible refine kp [0,1,2,3,9] ?_|simp only[kV,simprocAttr,aa,dC]|refine aN ?_);refine⟨_,cx (rc),ulc ?_⟩;(repeat first|with_reducible refine kp [3,9,10,11,21] ?_|simp only[kV,simprocAttr,aa]|refine aN ?_);refine ulk ?_;(repeat first|with_reducible refine kp [3,9,10,11] ?_|simp only[kV,simprocAttr,aa]|refine aN ?_);refine⟨by decide,_,cx (fc),ulc ?_⟩;(repeat first|simp only[kV,simprocAttr,aa]|refine aN ?_);refine⟨_,cx (tc),ulc ?_⟩;(repeat first|with_reducible refine kp [8,9] ?_|simp only[kV,simprocAttr,aa,ab,ah,af,ac]|refine aN ?_)
end
theorem t6 (T U:Nat) (a:List At) (n ord:Int) (hl:a.length≤9223372036854775807) (hs:∀t∈a,t.1.length≤9223372036854775807) (ha:Gd a n ord) (bd fd r:D) (c p:Int) (hf:fd.isAgg=false∧fd.one=true∧fd.cells=[fd])
  (ho:Con Tryz.prog AN 46 [bd,J n,J ord,.fn (.func 83) [] [.ref fd,.ref (SmD (frm a ord) n ord)]] (.tup [r,flt c p])) :
  Con Tryz.prog AN 48 [LTa T U a,bd,J n,J ord,fd] (.tup [r,flt c p]):=by
 have rc:=jW T U a n ord ha hl hs;obtain⟨hf1,hf2,hf3⟩:=hf;refine pZ.con rfl (by simp) ?_;(repeat first|with_reducible refine kp [0,1,2,3,9,11] ?_|simp only[kV,simprocAttr,aa,tW,hf1,hf2,hf3]|refine aN ?_);refine⟨_,cx (rc),ulc ?_⟩;(repeat first|with_reducible refine kp [1,2,3,9,11,12,13,23] ?_|simp only[kV,simprocAttr,aa,hf1,hf2,hf3]|refine aN ?_);(try simp only[kV,simprocAttr,aa,hf1,hf2,hf3,Bool.true_or]);refine ulk ?_;(repeat first|simp only[kV,simprocAttr,aa,hf1,hf2,hf3,Bool.true_or]|refine aN ?_);refine ka 9 _ 12 _ [1,2,3,9,11,12] (by rfl) (by rfl) ?_;refine ulk ?_;(repeat first|simp only[kV,simprocAttr,aa,hf1,hf2,hf3,Bool.true_or]|refine aN ?_);refine⟨_,cx (ho),ulc ?_⟩;(repeat first|with_reducible refine kp [10,11] ?_|simp only[kV,simprocAttr,aa,ab,ah,af,ac,hf1,hf2,hf3]|refine aN ?_)
theorem t7 (T U:Nat) (a:List At) (n ord:Int) (hl:a.length≤9223372036854775807) (hs:∀t∈a,t.1.length≤9223372036854775807) (h:(fM a n ord).1≠0) (bd fd:D) (hf:fd.isAgg=false∧fd.one=true∧fd.cells=[fd]) :
  Con Tryz.prog AN 48 [LTa T U a,bd,J n,J ord,fd] (.tup [LTa 83 3 [],flt (fM a n ord).1 (fM a n ord).2]):=by
 have rb:=p8 T U a n ord h hl hs;generalize fM a n ord=f at *;obtain⟨hf1,hf2,hf3⟩:=hf;refine pZ.con rfl (by simp) ?_;(repeat first|with_reducible refine kp [0,1,2,3,9,11] ?_|simp only[kV,simprocAttr,aa,tW,hf1,hf2,hf3]|refine aN ?_);refine⟨_,cx (rb),ulc ?_⟩;(repeat first|with_reducible refine kp [1,2,3,9,11,12,13,23] ?_|simp only[kV,simprocAttr,aa,hf1,hf2,hf3,h]|refine aN ?_);refine ulk ?_;(repeat first|with_reducible refine kp [10,11] ?_|simp only[kV,simprocAttr,aa,ab,ah,af,ac,h]|refine aN ?_);rfl
section
variable (T U:Nat) (a:List At) (n ord:Int) (hl:a.length≤9223372036854775807) (hs:∀t∈a,t.1.length≤9223372036854775807)
include hl hs
theorem lg:Con Tryz.prog AN 10 [LTa T U a,J n,J ord] (.tup [LTa 83 3 (formA a n ord),flt (fM a n ord).1 (fM a n ord).2]):=by
 have key:Con Tryz.prog AN 46 [LTa T U a,J n,J ord,.fn (.func 47) [] []] (.tup [LTa 83 3 (formA a n ord),flt (fM a n ord).1 (fM a n ord).2]):=by
  unfold formA;by_cases h:(fM a n ord).1=0
  ·rw[if_pos h,(dv h).fm];exact ze3 T U a n ord hl hs (dv h)
  ·rw[if_neg h];exact ou T U a n ord hl hs h _
 generalize formA a n ord=r at *;generalize fM a n ord=f at *;refine Ho.con rfl (by simp) ?_;(repeat first|with_reducible refine kp [0,1,2,7] ?_|simp only[kV,simprocAttr,aa,bO]|refine aN ?_);refine⟨_,cx (key),ulc ?_⟩;(repeat first|with_reducible refine kp [6,7] ?_|simp only[kV,simprocAttr,aa,ab,ah,af,ac]|refine aN ?_)
variable (T' U':Nat) (b:List At) (hlb:b.length≤9223372036854775807) (hsb:∀t∈b,t.1.length≤9223372036854775807)
include hlb hsb
theorem ow:Con Tryz.prog AN 11 [LTa T U a,LTa T' U' b,J n,J ord] (.tup [LTa 83 3 (addA a b n ord),flt (f2M a b n ord).1 (f2M a b n ord).2]):=by
 have key:Con Tryz.prog AN 48 [LTa T U a,LTa T' U' b,J n,J ord,fnA] (.tup [LTa 83 3 (addA a b n ord),flt (f2M a b n ord).1 (f2M a b n ord).2]):=by
  unfold addA f2M;by_cases h:(fM a n ord).1=0
  ·rw[if_pos h];refine t6 T U a n ord hl hs (dv h) _ fnA _ _ _ ⟨rfl,rfl,rfl⟩ ?_;by_cases k:(fM b n ord).1=0
   ·rw[if_pos k,(dv k).fm];exact ze4 T' U' b n ord hlb hsb a (dv h) (dv k)
   ·rw[if_neg k];exact ou T' U' b n ord hlb hsb k _
  ·rw[if_neg h,if_neg h];exact t7 T U a n ord hl hs h _ fnA ⟨rfl,rfl,rfl⟩
 generalize addA a b n ord=r at *;generalize f2M a b n ord=f at *;refine Hy.con rfl (by simp) ?_;(repeat first|with_reducible refine kp [0,1,2,3,9] ?_|simp only[kV,simprocAttr,aa,dC]|refine aN ?_);refine⟨_,cx (key),ulc ?_⟩;(repeat first|with_reducible refine kp [8,9] ?_|simp only[kV,simprocAttr,aa,ab,ah,af,ac]|refine aN ?_)
theorem ox:Con Tryz.prog AN 12 [LTa T U a,LTa T' U' b,J n,J ord] (.tup [LTa 83 3 (mulA a b n ord),flt (f2M a b n ord).1 (f2M a b n ord).2]):=by
 have key:Con Tryz.prog AN 48 [LTa T U a,LTa T' U' b,J n,J ord,fnM] (.tup [LTa 83 3 (mulA a b n ord),flt (f2M a b n ord).1 (f2M a b n ord).2]):=by
  unfold mulA f2M;by_cases h:(fM a n ord).1=0
  ·rw[if_pos h];refine t6 T U a n ord hl hs (dv h) _ fnM _ _ _ ⟨rfl,rfl,rfl⟩ ?_;by_cases k:(fM b n ord).1=0
   ·rw[if_pos k,(dv k).fm];exact one_mul T' U' b n ord hlb hsb a (dv h) (dv k)
   ·rw[if_neg k];exact ou T' U' b n ord hlb hsb k _
  ·rw[if_neg h,if_neg h];exact t7 T U a n ord hl hs h _ fnM ⟨rfl,rfl,rfl⟩
 generalize mulA a b n ord=r at *;generalize f2M a b n ord=f at *;refine HH.con rfl (by simp) ?_;(repeat first|with_reducible refine kp [0,1,2,3,9] ?_|simp only[kV,simprocAttr,aa,dC]|refine aN ?_);refine⟨_,cx (key),ulc ?_⟩;(repeat first|with_reducible refine kp [8,9] ?_|simp only[kV,simprocAttr,aa,ab,ah,af,ac]|refine aN ?_)
end
end Go.Proofs.YtbnhgnhgbhjkcaaGreat.M
