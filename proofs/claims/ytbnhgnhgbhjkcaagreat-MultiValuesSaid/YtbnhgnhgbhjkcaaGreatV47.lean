/- Lemmas. -/
import Derived.Test.YtbnhgnhgbhjkcaaGreatV46
set_option linter.defProp false
set_option linter.unusedSimpArgs false
set_option linter.unusedVariables false
namespace Go.Proofs.YtbnhgnhgbhjkcaaGreat.M
open Go.RowKit
set_option maxRecDepth 20000
set_option maxHeartbeats 2000000
def rdE (e:List Int):Ex4:=(e.getD 0 0,e.getD 1 0,e.getD 2 0,e.getD 3 0)
noncomputable def rdA (t:At):Tm:=(qR t.1,rdE t.2)
noncomputable def rdL (l:List At):List Tm:=l.map rdA
theorem eI (l:List At):(rdL l).length=l.length:=List.length_map _
theorem IU {l:List At}{i:Nat} (h:i<l.length):rdL (l.take (i+1))=rdL (l.take i)++[rdA (at0 l i)]:=by rw[uW h];unfold rdL;rw[List.map_append];rfl
theorem IW {e:List Int} (h:∀x∈e,0≤x∧x≤40):Gx 40 (rdE e):=by
 have key:∀k,0≤e.getD k 0∧e.getD k 0≤40:=fun k=>by
  by_cases hk:k<e.length
  ·have:e.getD k 0=e[k]:=by simp[hk]
   rw[this];exact h _ (List.getElem_mem hk)
  ·have:e.getD k 0=0:=by simp[List.getElem?_eq_none (Nat.le_of_not_lt hk)]
   rw[this];omega
 exact⟨key 0,key 1,key 2,key 3⟩
def Szd (a b:Nat) (l:List Tm):Prop:=∃D,0<D∧D≤2^a∧∀x∈l,Db D (2^b) x.1
theorem mH (l:List At){k:Nat} (h:l.length≤k):Szd (4000*k) (4000+4000*k) (rdL l):=by
 have hb:∀x∈(rdL l).map (·.1),Bq 4000 x:=fun x hx=>by
  obtain⟨y,hy,rfl⟩:=List.mem_map.1 hx;obtain⟨z,hz,rfl⟩:=List.mem_map.1 hy;exact jB z.1
 have hlen:((rdL l).map (·.1)).length=l.length:=by rw[List.length_map,eI]
 refine⟨dF ((rdL l).map (·.1)),ln _,?_,fun x hx => ?_⟩
 ·refine Nat.le_trans (tX (n:=4000) fun x hx=>Nat.le_of_lt (hb x hx).2) ?_;rw[hlen];exact Nat.pow_le_pow_right (by omega) (Nat.mul_le_mul_left _ h)
 ·refine ((Lb.of_bq hb).mem (List.mem_map.2 ⟨x,hx,rfl⟩)).mono ?_;rw[hlen];exact Nat.pow_le_pow_right (by omega) (Nat.add_le_add_left (Nat.mul_le_mul_left _ h) _)
theorem IX (l:List At) (h:l.length≤400):∃D X p,(∀x∈rdL l,Db D X x.1)∧D<2^p∧(rdL l).length*X<2^p∧p≤2048000000000:=by
 have key:∀a b q,a<q→b+9<q→q≤2048000000000→Szd a b (rdL l)→∃D X p,(∀x∈rdL l,Db D X x.1)∧D<2^p∧(rdL l).length*X<2^p∧p≤2048000000000:=fun a b q h1 h2 h6 hs=>by
  obtain⟨D,h3,h4,h5⟩:=hs;refine⟨D,2^b,q,h5,Nat.lt_of_le_of_lt h4 (Nat.pow_lt_pow_right (by decide) h1),?_,h6⟩;refine Nat.lt_of_le_of_lt (Nat.mul_le_mul_right _ (Nat.le_trans (by rw[eI];exact h) (show 400≤2^9 by decide))) ?_;rw[←Nat.pow_add];exact Nat.pow_lt_pow_right (by decide) (by omega)
 exact key (4000*400) (4000+4000*400) 1700000 (by decide) (by decide) (by decide) (mH l h)
theorem Gd.gx {l:List At}{n ord:Int} (h:Gd l n ord):∀x∈rdL l,Gx 40 x.2:=fun x hx=>by
 obtain⟨y,hy,rfl⟩:=List.mem_map.1 hx;exact IW (iI (h.ft y hy)).2.1
theorem Szd.cn {a b c:Nat}{l:List Tm} (n ord:Int) (h:Szd a b l) (hg:∀x∈l,Ge x.2) (hl:l.length≤1000000000) (hc:l.length≤2^c):Szd a (b+c) (cnT ord l):=by
 obtain⟨D,h1,h2,h3⟩:=h;obtain⟨s1,s2⟩:=rE n ord hg hl;refine⟨D,h1,h2,fun x hx=>(zbp s1 s2 h3 x hx).mono ?_⟩;rw[Nat.pow_add,Nat.mul_comm];exact Nat.mul_le_mul_left _ hc
theorem Szd.bc {a b p:Nat}{l:List Tm} (h:Szd a b l) (ha:a<p) (hb:b<p):Bc p l:=fun x hx=>by
 obtain⟨D,h1,h2,h3⟩:=h;exact (h3 x hx).Bq (Nat.lt_of_le_of_lt h2 (Nat.pow_lt_pow_right (by omega) ha)) (Nat.pow_lt_pow_right (by omega) hb)
theorem IY (q:Rat):cD (List.map AV.p (qI q).cells++[AV.p (J 0),AV.p (J 0),AV.p (J 0),AV.p (J 0)])=some (tI (q,(0,0,0,0))).cells:=rfl
theorem qC:(dw (.ptr 8 0 0) (.ptr 6 0 0)=true)=True:=eq_true rfl
theorem IZ (e:List Int):(e.map (D.int .i64)).all D.one=true:=by simp[D.one]
theorem I0 (q:Rat) (e:List Int) (h:e.length≤4):cD (((tI (q,(0,0,0,0))).cells.map AV.p).take 4++(e.map (D.int .i64)).map AV.p++((tI (q,(0,0,0,0))).cells.map AV.p).drop (4+e.length))=some (tI (q,rdE e)).cells:=by
 match e,h with
 |[],_=>rfl
 |[a],_=>rfl
 |[a,b],_=>rfl
 |[a,b,c],_=>rfl
 |[a,b,c,d],_=>rfl
theorem ko (T U:Nat) (l:List At) (n ord:Int) (h:Gd l n ord) (hl:l.length≤9223372036854775807) (hs:∀t∈l,t.1.length≤9223372036854775807) :
  Con Tryz.prog AN 55 [LTa T U l,J n,J ord] (.tup [SmD (cnT ord (rdL l)) n ord,flt 0 0]):=by
 have cc:=u5 T U l n ord hl hs;rw[h.fm] at cc;have h400:=h.len;obtain⟨D,X,p,hdb,hDp,hXp,hpp⟩:=IX l h400;have mc:=(m9 n ord (rdL l) hdb (fun x hx=>(h.gx x hx).ge (by omega)) (by rw[eI];omega) hDp hXp hpp).x;refine qv.con rfl (by simp) ?_;(repeat first|with_reducible refine kp [0,1,2,6,7] ?_|simp only[kV,simprocAttr,aa,Option.map_some,bh]|refine aN ?_);refine⟨_,cx (cc),ulc ?_⟩;(repeat first|with_reducible refine kp [0,1,2,6,7,8,22] ?_|simp only[kV,simprocAttr,aa,Option.map_some]|refine aN ?_);refine ulk ?_;(repeat first|simp only[kV,simprocAttr,aa,Option.map_some]|refine aN ?_);refine kp [0,1,2,6,7] ?_;(repeat first|simp only[kV,simprocAttr,aa,Option.map_some]|refine aN ?_);refine kp [0,6,7,9] ?_;(repeat first|simp only[kV,simprocAttr,aa,Option.map_some]|refine aN ?_);refine kp [0,6,7,9,10] ?_;(repeat first|simp only[kV,simprocAttr,aa,Option.map_some]|refine aN ?_);refine kp [6,7,9,10,28,29,30] ?_;(repeat first|simp only[kV,simprocAttr,aa,Option.map_some]|refine aN ?_);refine aE (ι:=Nat) (fun i=>i≤l.length) (fun i=>⟨ai [(6,.ptr 6 0 0),(7,.ptr 7 0 0),(9,.ptr 9 0 0),(10,.slice 205 0 i),(28,.p (LTa T U l)),(29,.p (J l.length)),(30,.p (J i))],
  aw [(6,⟨96,3,.box (.p (SmD [] 0 0)),false⟩),(7,⟨25,2,.box (.p (flt 0 0)),false⟩),(9,⟨94,2,.box (.p (rgD n ord)),false⟩),(205,⟨TT,8,.row ((rdL (l.take i)).map tI),false⟩)]⟩) (fun i=>l.length-i) 0 (Nat.zero_le _) (Sub.tr (Sub.nilG 10 205 TT 8) (Sub.toG [6,7,9,10,28,29,30] [8,12,13,14,15,49])) ?_
 intro i hi;by_cases h':i<l.length
 ·have hI:(i:Int)<(l.length:Int):=by omega
  have g1:=gS (U:=U) h';have hst:=hs _ (fY h');have hft:=iI (h.ft _ (fY h'));have htk:=IU h';have hlen:(rdL (l.take i)).length=i:=by rw[eI,List.length_take,Nat.min_eq_left hi]
  generalize at0 l i=t at *;generalize rdL (l.take i)=q at *;obtain⟨c,e⟩:=t;simp only at g1 hst hft;obtain⟨he1,he2,he3⟩:=hft;have hn4:=h.n4;have he4:e.length≤4:=by omega
  have cp:=I0 (qR c) e he4;have hone:=IZ e;have f1:(rdL (l.take (i+1))).map tI=q.map tI++[tI (qR c,rdE e)]:=by rw[htk,List.map_append];rfl
  (repeat first|with_reducible refine kp [6,7,9,10,28,29,30,31] ?_|simp only[kV,simprocAttr,aa,Option.map_some,hI]|refine aN ?_);(try simp only[kV,simprocAttr,aa,Option.map_some,hI,g1,h']);refine ulk ?_;(repeat first|with_reducible refine kp [6,7,9,10,12,28,29,30] ?_|simp only[kV,simprocAttr,aa,Option.map_some,hI,g1,h']|refine aN ?_);refine⟨_,cx (lJ c hst),ulc ?_⟩;(repeat first|with_reducible refine kp [6,7,9,10,12,13,15,28,29,30] ?_|simp only[kV,simprocAttr,aa,Option.map_some,IY,he4,hone,cp,hlen]|refine aN ?_);exact⟨i+1,h',by rw[f1];exact (Sub.toG [6,7,9,10,28,29,30] [8,12,13,14,15,49]),by omega⟩
 ·have hI:¬ (i:Int)<(l.length:Int):=by omega
  obtain rfl:i=l.length:=by omega
  rw[List.take_length];(repeat first|with_reducible refine kp [6,7,9,10,28,29,30,31] ?_|simp only[kV,simprocAttr,aa,Option.map_some,hI]|refine aN ?_);(try simp only[kV,simprocAttr,aa,Option.map_some,hI,eI]);refine ulk ?_;(repeat first|with_reducible refine kp [6,7,9,10] ?_|simp only[kV,simprocAttr,aa,Option.map_some,hI,eI]|refine aN ?_);refine⟨_,_,mc,ulc ?_⟩;(repeat first|with_reducible refine kp [6,7] ?_|simp only[kV,simprocAttr,aa,Option.map_some,ac,ah,ae,af]|refine aN ?_)
theorem kq (T U:Nat) (l:List At) (n ord:Int) (h:(fM l n ord).1≠0) (hl:l.length≤9223372036854775807) (hs:∀t∈l,t.1.length≤9223372036854775807) :
  Con Tryz.prog AN 55 [LTa T U l,J n,J ord] (.tup [SmD [] 0 0,flt (fM l n ord).1 (fM l n ord).2]):=by
 have cc:=u5 T U l n ord hl hs;generalize fM l n ord=f at *;refine qv.con rfl (by simp) ?_;(repeat first|with_reducible refine kp [0,1,2,6,7] ?_|simp only[kV,simprocAttr,aa,Option.map_some,bh]|refine aN ?_);refine⟨_,cx (cc),ulc ?_⟩;(repeat first|with_reducible refine kp [0,1,2,6,7,8,22] ?_|simp only[kV,simprocAttr,aa,Option.map_some,h]|refine aN ?_);(try simp only[kV,simprocAttr,aa,Option.map_some,h,qC]);refine ulk ?_;(repeat first|with_reducible refine kp [6,7] ?_|simp only[kV,simprocAttr,aa,Option.map_some,ac,ah,ae,af,h,qC]|refine aN ?_);rfl
theorem gR (a b c d e:D):bV [a,b,c,d,e]=⟨ai [(0,.p a),(1,.p b),(2,.p c),(3,.p d),(4,.p e)],aw []⟩:=by
 unfold bV;congr 1;funext t
 match t with
 |0 | 1 | 2 | 3 | 4=>rfl
 |t+5=>simp[dv,fw]
theorem uQ {ord:Int}{l:List Tm}{E:Int} (h:∀x∈l,Gx E x.2):∀x∈cnT ord l,Gx E x.2:=fun x hx=>by
 have h1:(x.1,moL x.2)∈tl (cnT ord l):=List.mem_map.2 ⟨x,hx,rfl⟩;rw[iB] at h1;obtain⟨y,hy,he⟩:=Mp.canon_mem h1;obtain⟨z,hz,rfl⟩:=List.mem_map.1 hy;rw[←jw he];exact h z hz
noncomputable def frm (l:List At) (ord:Int):List Tm:=cnT ord (rdL l)
theorem oQ (l:List At) (ord:Int):(frm l ord).length≤l.length:=by have:=lj ord (rdL l);rwa[eI] at this
theorem Gd.fx {l:List At}{n ord:Int} (h:Gd l n ord) (o:Int):∀x∈frm l o,Gx 40 x.2:=uQ h.gx
theorem Gd.sz {l:List At}{n ord:Int} (h:Gd l n ord) (o:Int):Szd 1600000 1604009 (frm l o):=by
 have:=(mH l h.len).cn n o (fun x hx=>(h.gx x hx).ge (by omega)) (by rw[eI];have:=h.len;omega) (c:=9) (by rw[eI];have:=h.len;omega);exact this
theorem pw {a b:Nat} (h:a<b):2^a<2^b:=Nat.pow_lt_pow_right (by omega) h
theorem pl {a b:Nat} (h:a≤b):2^a≤2^b:=Nat.pow_le_pow_right (by omega) h
section
variable (a b:List At) (n ord:Int) (ha:Gd a n ord) (hb:Gd b n ord)
include ha hb
end
theorem zcI (a:List At) (n ord:Int) (ha:Gd a n ord) (o:Int):Bc 4000000 (frm a o):=(ha.sz o).bc (by decide) (by decide)
noncomputable def formA (l:List At) (n ord:Int):List At:=if (fM l n ord).1=0 then WR n.toNat (frm l ord) else []
theorem zcJ (l:List Tm) (n ord:Int):Con Tryz.prog [] 47 [SmD l n ord] (SmD l n ord):=by
 refine GF.con rfl (by simp) ?_;(repeat first|with_reducible refine kp [1,2] ?_|simp only[kV,simprocAttr,aa,bf,ac,ah,ae,af]|refine aN ?_)
abbrev fnA:D:=.fn (.func 49) [] []
abbrev fnM:D:=.fn (.func 50) [] []
section
variable (T U:Nat) (l:List At) (n ord:Int) (hl:l.length≤9223372036854775807) (hs:∀t∈l,t.1.length≤9223372036854775807)
include hl hs
theorem zcK (h:(fM l n ord).1≠0) (fd:D):Con Tryz.prog AN 46 [LTa T U l,J n,J ord,fd] (.tup [LTa 83 3 [],flt (fM l n ord).1 (fM l n ord).2]):=by
 have rb:=kq T U l n ord h hl hs;generalize fM l n ord=f at *;refine qx.con rfl (by simp) ?_;(repeat first|with_reducible refine kp [0,1,2,3,9] ?_|simp only[kV,simprocAttr,aa,gi]|refine aN ?_);refine⟨_,cx (rb),ulc ?_⟩;(repeat first|with_reducible refine kp [3,9,10,11,21] ?_|simp only[kV,simprocAttr,aa,h]|refine aN ?_);refine ulk ?_;(repeat first|with_reducible refine kp [8,9] ?_|simp only[kV,simprocAttr,aa,ac,ah,ae,af,h]|refine aN ?_);rfl
theorem zcL (h:Gd l n ord):Con Tryz.prog AN 46 [LTa T U l,J n,J ord,.fn (.func 47) [] []] (.tup [LTa 83 3 (WR n.toNat (frm l ord)),flt 0 0]):=by
 have rc:=ko T U l n ord h hl hs;have h4:=h.len;have hfl:=oQ l ord;have tc:=oW n.toNat (by have:=h.n4;omega) ord (frm l ord) (zcI l n ord h ord) (by decide) (by omega);rw[show ((n.toNat:Nat):Int)=n by have:=h.n1;omega] at tc;have fc:=(zcJ (frm l ord) n ord).mono (A':=AN) (by simp);refine qx.con rfl (by simp) ?_;(repeat first|with_reducible refine kp [0,1,2,3,9] ?_|simp only[kV,simprocAttr,aa,gi]|refine aN ?_);refine⟨_,cx (rc),ulc ?_⟩;(repeat first|with_reducible refine kp [3,9,10,11,21] ?_|simp only[kV,simprocAttr,aa]|refine aN ?_);refine ulk ?_;(repeat first|with_reducible refine kp [3,9,10,11] ?_|simp only[kV,simprocAttr,aa]|refine aN ?_);refine⟨by decide,_,cx (fc),ulc ?_⟩;(repeat first|simp only[kV,simprocAttr,aa]|refine aN ?_);refine⟨_,cx (tc),ulc ?_⟩;(repeat first|with_reducible refine kp [8,9] ?_|simp only[kV,simprocAttr,aa,ac,ah,ae,af]|refine aN ?_)
end
section
variable (T U:Nat) (a:List At) (n ord:Int) (hl:a.length≤9223372036854775807) (hs:∀t∈a,t.1.length≤9223372036854775807)
include hl hs
theorem zcM:Con Tryz.prog AN 10 [LTa T U a,J n,J ord] (.tup [LTa 83 3 (formA a n ord),flt (fM a n ord).1 (fM a n ord).2]):=by
 have key:Con Tryz.prog AN 46 [LTa T U a,J n,J ord,.fn (.func 47) [] []] (.tup [LTa 83 3 (formA a n ord),flt (fM a n ord).1 (fM a n ord).2]):=by
  unfold formA;by_cases h:(fM a n ord).1=0
  ·rw[if_pos h,(eD h).fm];exact zcL T U a n ord hl hs (eD h)
  ·rw[if_neg h];exact zcK T U a n ord hl hs h _
 generalize formA a n ord=r at *;generalize fM a n ord=f at *;refine GD.con rfl (by simp) ?_;(repeat first|with_reducible refine kp [0,1,2,7] ?_|simp only[kV,simprocAttr,aa,bh]|refine aN ?_);refine⟨_,cx (key),ulc ?_⟩;(repeat first|with_reducible refine kp [6,7] ?_|simp only[kV,simprocAttr,aa,ac,ah,ae,af]|refine aN ?_)
variable (T' U':Nat) (b:List At) (hlb:b.length≤9223372036854775807) (hsb:∀t∈b,t.1.length≤9223372036854775807)
include hlb hsb
end
end Go.Proofs.YtbnhgnhgbhjkcaaGreat.M
