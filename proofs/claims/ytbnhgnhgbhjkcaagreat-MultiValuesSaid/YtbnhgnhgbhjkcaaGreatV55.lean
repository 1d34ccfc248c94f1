/- Lemmas. -/
import Derived.Test.YtbnhgnhgbhjkcaaGreatV54
set_option linter.defProp false
set_option linter.unusedSectionVars false
set_option linter.unusedSimpArgs false
set_option linter.unusedVariables false
namespace Go.Proofs.YtbnhgnhgbhjkcaaGreat.M
open Go.RowKit
set_option maxRecDepth 20000
set_option maxHeartbeats 8000000
theorem cH (x:Rat):cD (List.map AV.p (qZ x).cells)=some (qZ x).cells:=rfl
section
variable (T U V:Nat) (a:List At) (n v ord:Int) (ts:List (List UInt8)) (s t:List UInt8) (c d:List At) (f1 f2 f3:Int×Int)
abbrev kY:List (Nat×AV):=[(0,.p (LTa T U a)),(1,.p (J n)),(2,.p (J v)),(3,.p (J ord)),(4,.p (LSt V ts)),(11,.p (.str s)),(12,.ptr 12 0 0),(13,.p (.str t)),(14,.p (TT2 c)),(15,.ptr 15 0 0),(16,.p (TT2 d)),(17,.ptr 17 0 0),(18,.ptr 18 0 0)]
abbrev kZ (w:Int×Int):List (Nat×AObj):=[(12,fB f1),(15,fB f2),(17,fB f3),(18,fB w)]
theorem Yj (w0:Int×Int) (hl:ts.length≤8796093022208) (hs:∀t∈ts,t.length≤9223372036854775807) (h0:(w0=f1∧f1.1≠0)∨(w0=(0,0)∧f1=pF 0 ts∧ts.length≤4))
  (hend:∀xs,(f1.1=0→xs=ptL ts)→vE kC (gw T U V a n v ord ts s t xs c d) (gz xs f1 f2 f3)):vE rg (kY T U V a n v ord ts s t c d) (kZ f1 f2 f3 w0):=by
 skip
 (repeat first|simp only[kV,simprocAttr,aa,au,cH,vE,kY,kZ]|refine aN ?_);refine kp [0,1,2,3,4,11,12,13,14,15,16,17,18,19] ?_;(repeat first|simp only[kV,simprocAttr,aa,au,cH,vE,kY,kZ]|refine aN ?_);refine kp [0,1,2,3,4,11,12,13,14,15,16,17,18,19,20] ?_;(repeat first|simp only[kV,simprocAttr,aa,au,cH,vE,kY,kZ]|refine aN ?_);refine aE (ι:=Nat×List Rat×Int×Int) (fun r=>r.1≤ts.length∧r.2.1.length≤r.1∧((r.2.2=f1∧f1.1≠0)∨(r.2.2=(0,0)∧pF r.1 (ts.drop r.1)=f1∧r.2.1=ptL (ts.take r.1)∧ts.length≤4))) (fun r=>⟨ai [(0,.p (LTa T U a)),(1,.p (J n)),(2,.p (J v)),(3,.p (J ord)),(4,.p (LSt V ts)),(11,.p (.str s)),(12,.ptr 12 0 0),(13,.p (.str t)),(14,.p (TT2 c)),(15,.ptr 15 0 0),(16,.p (TT2 d)),(17,.ptr 17 0 0),(18,.ptr 18 0 0),(19,.slice 219 0 r.2.1.length),(20,.p (J r.1))],
  aw [(12,fB f1),(15,fB f2),(17,fB f3),(18,fB r.2.2),(219,⟨50,4,.row (r.2.1.map qZ),false⟩)]⟩) (fun r=>ts.length-r.1) (0,[],w0) ⟨Nat.zero_le _,Nat.le_refl _,by
   rcases h0 with h | ⟨h,k,h4⟩
   ·exact .inl h
   ·exact .inr ⟨h,k.symm,rfl,h4⟩⟩ (Sub.tr (Sub.nilG 19 219 50 4) (Sub.toG [0,1,2,3,4,11,12,13,14,15,16,17,18,19,20] [21,22,24,25,26,101])) ?_
 rintro⟨i,xs,w⟩ ⟨hi,hx,hw⟩;simp only at hi hx hw;by_cases h:i<ts.length
 ·have hI:(i:Int)<(ts.length:Int):=by omega
  rcases hw with⟨rfl,hf⟩ | ⟨rfl,he,rfl,h4⟩
  ·(repeat first|with_reducible refine kp [0,1,2,3,4,11,12,13,14,15,16,17,18,19,20,81] ?_|simp only[kV,simprocAttr,aa,au,cH,hI,hf]|refine aN ?_);refine ulk ?_;(repeat first|simp only[kV,simprocAttr,aa,au,cH,hI,hf]|refine aN ?_);exact⟨_,(Sub.toG [0,1,2,3,4,11,12,13,14,15,16,17,18,19] [21,22,24,25,26,101]),hend xs (fun e=>absurd e hf)⟩
  ·have g1:=o9 h;have hst:=hs _ (m7 h);have htk:=m8 h;have hlen:(ptL (ts.take i)).length=i:=by rw[fq,List.length_take,Nat.min_eq_left hi]
   rw[rB h,pF] at he;have f4:ptL (ts.take (i+1))=ptL (ts.take i)++[qR (st0 ts i)]:=by rw[htk];simp[ptL]
   have f6:(ptL (ts.take (i+1))).map qZ=(ptL (ts.take i)).map qZ++[qZ (qR (st0 ts i))]:=by rw[f4,List.map_append];rfl
   have f5:(ptL (ts.take (i+1))).length=i+1:=by rw[f4,List.length_append,hlen];rfl
   have kf:=lO (A:=AN) (cR (st0 ts i)) i;have zp:=lK (st0 ts i) hst;generalize hq2:ptL (ts.take (i+1))=q2 at *;generalize ptL (ts.take i)=q at *;generalize st0 ts i=u at *;(repeat first|with_reducible refine kp [0,1,2,3,4,11,12,13,14,15,16,17,18,19,20,81] ?_|simp only[kV,simprocAttr,aa,au,cH,hI]|refine aN ?_);(try simp only[kV,simprocAttr,aa,au,cH,hI,g1,h]);refine ulk ?_;(repeat first|with_reducible refine kp [0,1,2,3,4,11,12,13,14,15,16,17,18,19,20] ?_|simp only[kV,simprocAttr,aa,au,cH,hI,g1,h]|refine aN ?_);refine⟨_,cx (zp),ulc ?_⟩;(repeat first|with_reducible refine kp [0,1,2,3,4,11,12,13,14,15,16,17,18,19,20,21,22,94] ?_|simp only[kV,simprocAttr,aa,au,cH,hlen]|refine aN ?_);by_cases hc:cR u=0
   ·rw[if_pos hc] at he;refine⟨fun h1=>absurd h1 (by rw[hc];simp),fun _ => ?_⟩;(try simp only[kV,simprocAttr,aa,au,cH,hlen]);refine ulk ?_;(repeat first|with_reducible refine kp [0,1,2,3,4,11,12,13,14,15,16,17,18,19,20,21] ?_|simp only[kV,simprocAttr,aa,au,cH,hlen]|refine aN ?_);exact⟨(i+1,q2,0,0),⟨h,by simp only;omega,.inr ⟨rfl,he,hq2.symm,h4⟩⟩,by simp only[f6,f5];exact (Sub.toG [0,1,2,3,4,11,12,13,14,15,16,17,18,19,20] [21,22,24,25,26,101]),by simp only;omega⟩
   ·rw[if_neg hc] at he;refine⟨fun _ => ?_,fun h1=>absurd h1 (by rw[decide_eq_false hc];simp)⟩;(try simp only[kV,simprocAttr,aa,au,cH,hlen]);refine ulk ?_;(repeat first|simp only[kV,simprocAttr,aa,au,cH,hlen]|refine aN ?_);refine⟨_,cx (kf),ulc ?_⟩;(repeat first|with_reducible refine kp [0,1,2,3,4,11,12,13,14,15,16,17,18,19,20,21] ?_|simp only[kV,simprocAttr,aa,au,cH,hlen]|refine aN ?_);exact⟨(i+1,q2,cR u,i),⟨h,by simp only;omega,.inl ⟨he,by rw[←he];exact hc⟩⟩,by simp only[f6,f5];exact (Sub.toG [0,1,2,3,4,11,12,13,14,15,16,17,18,19,20] [21,22,24,25,26,101]),by simp only;omega⟩
 ·have hI:¬ (i:Int)<(ts.length:Int):=by omega
  obtain rfl:i=ts.length:=by omega
  have he:w=f1∧(f1.1=0→xs=ptL ts):=by
   rcases hw with⟨e,hf⟩ | ⟨e,he,hx,h4⟩
   ·exact⟨e,fun h=>absurd h hf⟩
   ·rw[List.drop_length,pF] at he;rw[List.take_length] at hx;exact⟨by rw[e,he],fun _=>hx⟩
  obtain⟨rfl,hx2⟩:=he;have hE:=hend xs hx2;(repeat first|with_reducible refine kp [0,1,2,3,4,11,12,13,14,15,16,17,18,19,20,81] ?_|simp only[kV,simprocAttr,aa,au,cH,hI]|refine aN ?_);refine ulk ?_;(repeat first|simp only[kV,simprocAttr,aa,au,cH,hI]|refine aN ?_);exact⟨_,(Sub.toG [0,1,2,3,4,11,12,13,14,15,16,17,18,19] [21,22,24,25,26,101]),hE⟩
end
theorem zcO {v:Nat}{x:Rat}{l:Mp.TL} (h:Mp.Ex 0 40 l):Mp.Ex (-1) 40 (Mp.fixL v x l):=fun y hy e he=>by
 obtain⟨z,hz,rfl⟩:=List.mem_map.1 hy;rcases List.mem_or_eq_of_mem_set he with he | rfl
 ·have:=h z hz e he;omega
 ·omega
theorem zcP {v:Nat}{l:Mp.TL} (h:Mp.Ex 0 40 l):Mp.Ex (-1) 40 (Mp.derL v l):=fun y hy e he=>by
 obtain⟨z,hz,hy2⟩:=Mp.derL_mem hy;rw[hy2] at he;have key:0≤z.2.getD v 0∧z.2.getD v 0≤40:=by
  by_cases hk:v<z.2.length
  ·have:z.2.getD v 0=z.2[v]:=by simp[hk]
   rw[this];exact h z hz _ (List.getElem_mem hk)
  ·have:z.2.getD v 0=0:=by simp[List.getElem?_eq_none (Nat.le_of_not_lt hk)]
   rw[this];omega
 rcases List.mem_or_eq_of_mem_set he with he | rfl
 ·have:=h z hz e he;omega
 ·omega
theorem zcQ {a b q v:Nat}{x:Rat}{l:Mp.TL} (h:SzZ a b l) (hx:Bq q x) (he:Mp.Ex 0 40 l):SzZ (a+q*40) (b+(q+q)*40) (Mp.fixL v x l):=by
 obtain⟨D,d1,d2,d3⟩:=h;have hxd:Db x.den (2^q) x:=(Db.of_self x).mono (Nat.le_of_lt hx.1);have hxe:x.den≤2^q:=Nat.le_of_lt hx.2;refine⟨D*x.den^40,Nat.mul_pos d1 (Nat.pow_pos x.den_pos),by rw[Nat.pow_add];exact Nat.mul_le_mul d2 (kJ hxe),fun y hy => ?_⟩;obtain⟨z,hz,rfl⟩:=List.mem_map.1 hy;have key:(z.2.getD v 0).toNat≤40:=by
  by_cases hk:v<z.2.length
  ·have:z.2.getD v 0=z.2[v]:=by simp[hk]
   rw[this];have:=he z hz _ (List.getElem_mem hk);omega
  ·have:z.2.getD v 0=0:=by simp[List.getElem?_eq_none (Nat.le_of_not_lt hk)]
   rw[this];decide
 refine (nS (d3 z hz) hxd x.den_pos (Nat.pos_of_ne_zero (by simp)) key).mono ?_;rw[Nat.pow_add 2 b];exact Nat.mul_le_mul_left _ (kJ (by rw[Nat.pow_add];exact Nat.mul_le_mul_left _ hxe))
theorem zcR {a b v:Nat}{l:Mp.TL} (h:SzZ a b l) (he:Mp.Ex 0 40 l):SzZ a (b+6) (Mp.derL v l):=by
 obtain⟨D,d1,d2,d3⟩:=h;refine⟨D,d1,d2,?_⟩;clear d1 d2;induction l with
 |nil=>exact fun x hx=>by cases hx
 |cons t l ih =>
  have ih:=ih (fun x hx=>he x (List.mem_cons_of_mem _ hx)) (fun x hx=>d3 x (List.mem_cons_of_mem _ hx));unfold Mp.derL;split
  ·rename_i h0;intro y hy;rcases List.mem_cons.1 hy with rfl | hy
   ·have key:t.2.getD v 0≤40:=by
     by_cases hk:v<t.2.length
     ·have:t.2.getD v 0=t.2[v]:=by simp[hk]
      rw[this];have:=he t List.mem_cons_self _ (List.getElem_mem hk);omega
     ·have:t.2.getD v 0=0:=by simp[List.getElem?_eq_none (Nat.le_of_not_lt hk)]
      omega
    have:=(d3 t List.mem_cons_self).mul (Db.ofInt (t.2.getD v 0));rw[Nat.mul_one] at this;refine this.mono ?_;rw[Nat.pow_add];exact Nat.mul_le_mul_left _ (by omega)
   ·exact ih y hy
  ·exact ih
section
variable {a:List At}{n ord:Int} (hA:Ar a) (hg:Gd a n ord) (hla:a.length≤12)
include hg hla
theorem P12:(Mp.growL [] (rzL a)).length≤12∧SzZ 48000 52004 (Mp.growL [] (rzL a)):=
 ⟨Nat.le_trans (zdR hg) hla,(sR a hla).P (c:=4) (by rw[kS];exact Nat.le_trans hla (by decide))⟩
theorem zcS {v:Nat} (hv:v<n.toNat) (x:Rat) (hx:Bq 4000 x):∃Pf,Con Tryz.prog AN 29 [MZ (Mp.growL [] (rzL a)),J v,qZ x] (MZ Pf)∧Con Tryz.prog AN 18 [MZ Pf,J ord] (TT2 (WR n.toNat (du a v x ord)))∧Con Tryz.prog AN 15 [TT2 (WR n.toNat (du a v x ord)),TT2 (WR n.toNat (du a v x ord))] (.bool true):=by
 obtain⟨l1,z1⟩:=P12 hg hla;obtain⟨p,hp⟩:∃p:Nat,p=2000000:=⟨_,rfl⟩
 have hw:=iQ hg;have he:=pd hg;have n4:=hg.n4;have eq:=wy hg hv x;obtain⟨A,B,hA1,hB1,z2⟩:∃A B,A<1000000∧B<1000000∧SzZ A B (Mp.fixL v x (Mp.growL [] (rzL a))):=⟨_,_,by decide,by decide,zcQ (v:=v) z1 hx he⟩
 generalize Mp.growL [] (rzL a)=P at *;have hwf:=hw.fix v x;have hlf:=qH v x P;have dP:Mp.Dst (Mp.growL [] (Mp.fixL v x P)):=Mp.growL_dst Mp.Dst.nil;have wP:Mp.Wd n.toNat (Mp.growL [] (Mp.fixL v x P)):=Mp.growL_wd (fun x hx=>by cases hx) hwf;have eP:=(Mp.Ex.nil.growL (zcO (v:=v) (x:=x) he)).mono (c:=-1000000000) (d:=1000000000) (by decide) (by decide);have lP:=Mp.growL_len (Mp.fixL v x P) [];have sP:=z2.P (c:=4) (by rw[hlf];exact Nat.le_trans l1 (by decide));obtain⟨x1,y1⟩:=tW wP (by omega) ord;rw[←eq] at x1 y1;simp only[List.length_nil] at lP;obtain⟨E0,e1,e2,e3⟩:=z2;refine⟨_,Jh P v (p:=p) (E0:=E0) hw hv (by omega) (by omega) he (z1.bq (p:=60000) (by decide) (by decide)) (Nat.lt_of_le_of_lt e2 (pw (by omega))) (Nat.lt_of_le_of_lt (Nat.mul_le_mul_right _ (show P.length+1≤2^4 by omega)) (by rw[←Nat.pow_add];exact pw (by omega))) (by omega) x hx e3 (by omega),?_,?_⟩
 ·have:=pQ _ ord hg.o0 dP wP (by omega) (by omega) eP (sP.bq (p:=p) (by omega) (by omega)) (by omega);rw[←eq] at this;exact this
 ·have:=pM AN 83 3 83 3 _ _ (show (WR n.toNat (du a v x ord)).length≤9223372036854775807 by omega) (show (WR n.toNat (du a v x ord)).length≤9223372036854775807 by omega) x1 x1
  rwa[decide_eq_true rfl] at this
theorem zcT {v:Nat} (hv:v<n.toNat):∃Pd,Con Tryz.prog AN 30 [MZ (Mp.growL [] (rzL a)),J v] (MZ Pd)∧Con Tryz.prog AN 18 [MZ Pd,J ord] (TT2 (WR n.toNat (dt a v ord)))∧Con Tryz.prog AN 15 [TT2 (WR n.toNat (dt a v ord)),TT2 (WR n.toNat (dt a v ord))] (.bool true):=by
 obtain⟨l1,z1⟩:=P12 hg hla;obtain⟨p,hp⟩:∃p:Nat,p=2000000:=⟨_,rfl⟩
 have hw:=iQ hg;have he:=pd hg;have n4:=hg.n4;have eq:=wA hg hv;obtain⟨A,B,hA1,hB1,z2⟩:∃A B,A<1000000∧B<1000000∧SzZ A B (Mp.derL v (Mp.growL [] (rzL a))):=⟨_,_,by decide,by decide,zcR (v:=v) z1 he⟩
 generalize Mp.growL [] (rzL a)=P at *;have hwf:=hw.der v;have hlf:=mK v P;have dP:Mp.Dst (Mp.growL [] (Mp.derL v P)):=Mp.growL_dst Mp.Dst.nil;have wP:Mp.Wd n.toNat (Mp.growL [] (Mp.derL v P)):=Mp.growL_wd (fun x hx=>by cases hx) hwf;have eP:=(Mp.Ex.nil.growL (zcP (v:=v) he)).mono (c:=-1000000000) (d:=1000000000) (by decide) (by decide);have lP:=Mp.growL_len (Mp.derL v P) [];have sP:=z2.P (c:=4) (Nat.le_trans hlf (Nat.le_trans l1 (by decide)));obtain⟨x1,y1⟩:=tW wP (by omega) ord;rw[←eq] at x1 y1;simp only[List.length_nil] at lP;obtain⟨E0,e1,e2,e3⟩:=z2;refine⟨_,Ji P v (p:=p) (E0:=E0) hw hv (by omega) (by omega) he (z1.bq (p:=60000) (by decide) (by decide)) (Nat.lt_of_le_of_lt e2 (pw (by omega))) (Nat.lt_of_le_of_lt (Nat.mul_le_mul_right _ (show P.length+1≤2^4 by omega)) (by rw[←Nat.pow_add];exact pw (by omega))) (by omega) e3 (by omega) (by omega),?_,?_⟩
 ·have:=pQ _ ord hg.o0 dP wP (by omega) (by omega) eP (sP.bq (p:=p) (by omega) (by omega)) (by omega);rw[←eq] at this;exact this
 ·have:=pM AN 83 3 83 3 _ _ (show (WR n.toNat (dt a v ord)).length≤9223372036854775807 by omega) (show (WR n.toNat (dt a v ord)).length≤9223372036854775807 by omega) x1 x1
  rwa[decide_eq_true rfl] at this
theorem zcU {ts:List (List UInt8)} (hn:(ts.length:Int)=n) (hb:Bq 4000000 (evV a ts)):∃y,Con Tryz.prog AN 28 [MZ (Mp.growL [] (rzL a)),LZ (ptL ts)] (qZ y)∧Con Tryz.prog AN 27 [qZ y] (.str (frText (evV a ts).num (evV a ts).den)):=by
 obtain⟨l1,z1⟩:=P12 hg hla;have n4:=hg.n4;have n1:=hg.n1;have eq:=wB hg hn;have hl:=fq ts;refine⟨evV a ts,?_,uG _ 4000000 hb (by decide)⟩;rw[eq];exact IR _ (ptL ts) (a:=60000) (q:=4000) (p:=10000000) (by have:=iQ hg;rwa[show n.toNat=(ptL ts).length by omega] at this) (pd hg) (z1.bq (by decide) (by decide)) (fun x hx=>by
  obtain⟨y,hy,rfl⟩:=List.mem_map.1 hx;exact jB y) (by omega) l1 (by decide) (by decide) (by decide)
end
theorem zcV {a:List At}{n:Int}{ts:List (List UInt8)} (hg:Gd a n 0) (hn:(ts.length:Int)=n):Bq 4000000 (evV a ts):=by
 rcases uf a n ts hg hn with⟨h,k⟩ | ⟨t,h,k⟩
 ·rw[k];exact Bq.zero _ (by decide)
 ·rw[k];exact (ug a n ts hg hn).2 t (by rw[h];simp)
section
variable (T U V:Nat) (a:List At) (n v ord:Int) (ts:List (List UInt8)) (hA:Ar a) (t:List UInt8) (hT:t.length≤9223372036854775807) (xs:List Rat)
include hA hT
theorem zcW (hx:(evF a n ts).1=0→xs=ptL ts):vE kC (gw T U V a n v ord ts (evT a n ts) t xs (fixA a n v t ord) (derA a n v ord)) (gz xs (evF a n ts) (fixF a n v t ord) (derF a n v ord)):=by
 refine ww T U V a n v ord ts hA (evT a n ts) t xs (evF a n ts) hT (fun h=>if_neg h) ?_;refine wv T U V a n v ord ts hA (evT a n ts) t xs (evF a n ts) hT ?_;refine wu T U V a n v ord ts hA (evT a n ts) xs _ _ _ _ _ _ (Mp.growL [] (rzL a)) fun hg hv => ?_
 obtain⟨la,-⟩:=zbq (m:=12) (l:=a) (by rw[hv];simp);have n4:=hg.n4;refine⟨X7 T U a hg hA.s9 (sR a la) (p:=2000000) (by decide) (by decide) (by decide),?_⟩;have h150:vE il (gg v ord (fixA a n v t ord) (derA a n v ord) (Mp.growL [] (rzL a))) (gh (derF a n v ord) (fixF a n v t ord) (qR t)):=by
  by_cases hd:(derF a n v ord).1=0
  ·obtain⟨-,v0,v1⟩:=zdL hd;obtain⟨w,rfl⟩:=Int.eq_ofNat_of_zero_le v0;obtain⟨Pd,k4,k5,k6⟩:=zcT hg la (v:=w) (by omega);have ed:derA a n w ord=WR n.toNat (dt a w ord):=if_pos hd;by_cases hf:(fixF a n w t ord).1=0
   ·obtain⟨Pf,k1,k2,k3⟩:=zcS hg la (v:=w) (by omega) (qR t) (jB t);have ef:fixA a n w t ord=WR n.toNat (du a w (qR t) ord):=if_pos hf;rw[ed,ef];exact zdm _ _ _ _ _ _ _ _ Pd k4 k5 k6 Pf k1 k2 k3 hd hf
   ·rw[ed];exact zdl _ _ _ _ _ _ _ _ Pd k4 k5 k6 hd hf
  ·refine zdk _ _ _ _ _ _ _ _ hd ?_;unfold fixF;rw[if_neg hd];exact hd
 by_cases hk:(evF a n ts).1=0
 ·have h0:(fM a n 0).1=0:=by
   by_cases h:(fM a n 0).1=0
   ·exact h
   ·unfold evF at hk;rw[if_neg h] at hk;exact absurd hk h
  have hp:(ptF ts n).1=0:=by unfold evF at hk;rwa[if_pos h0] at hk
  obtain⟨hn,-⟩:=vy hp;obtain⟨y,k7,k8⟩:=zcU hg la hn (zcV (eD h0) hn);rw[decide_eq_true hk,hx hk,show evT a n ts=frText (evV a ts).num (evV a ts).den from if_pos hk];exact zdo v ord _ _ _ _ _ _ _ _ h150 y k7 k8
 ·rw[decide_eq_false hk];exact zdn v ord _ _ _ _ _ _ _ _ h150
end
section
variable (T U V:Nat) (a:List At) (n v ord:Int) (ts:List (List UInt8)) (hA:Ar a) (hl2:ts.length≤8796093022208) (hs2:∀t∈ts,t.length≤9223372036854775807)
section
variable (t s:List UInt8) (hT:t.length≤9223372036854775807) (f1:Int×Int)
abbrev jY:List (Nat×AV):=[(0,.p (LTa T U a)),(1,.p (J n)),(2,.p (J v)),(3,.p (J ord)),(4,.p (LSt V ts)),(11,.p (.str s)),(12,.ptr 12 0 0),(13,.p (.str t))]
include hA hl2 hs2 hT
theorem pJ:vE rh (jY T U V a n v ord ts t (evT a n ts)) [(12,fB (evF a n ts))]:=by
 have k1:=zbJ T U a n v ord t hA.l9 hA.s9 hT;have k2:=zdO T U a n v ord hA.l9 hA.s9;have k3:=oY T U a n 0 hA.l9 hA.s9;have hend:=fun xs hx=>zcW T U V a n v ord ts hA t hT xs hx
 have h164:=fun w0 h0=>Yj T U V a n v ord ts (evT a n ts) t (fixA a n v t ord) (derA a n v ord) (evF a n ts) (fixF a n v t ord) (derF a n v ord) w0 hl2 hs2 h0 hend
 clear hend;by_cases h0:(fM a n 0).1=0
 ·have hg:=eD h0;have he:evF a n ts=ptF ts n:=if_pos h0;rw[hg.fm] at k3;rw[he] at h164 ⊢;generalize evT a n ts=s at *;generalize fixF a n v t ord=f2 at *;generalize derF a n v ord=f3 at *;generalize fixA a n v t ord=c at *;generalize derA a n v ord=d at *;by_cases hn:(ts.length:Int)=n
  ·have hp:ptF ts n=pF 0 ts:=if_pos hn;have n4:=hg.n4;have h3:=h164 (0,0) (.inr ⟨rfl,hp,by omega⟩);generalize ptF ts n=f1 at *;skip
   (repeat first|simp only[kV,simprocAttr,aa,au,vE,jY]|refine aN ?_);refine⟨_,cx (k1),ulc ?_⟩;(repeat first|with_reducible refine kp [0,1,2,3,4,11,12,13,14,15] ?_|simp only[kV,simprocAttr,aa,au]|refine aN ?_);refine⟨_,cx (k2),ulc ?_⟩;(repeat first|with_reducible refine kp [0,1,2,3,4,11,12,13,14,15,16,17] ?_|simp only[kV,simprocAttr,aa,au]|refine aN ?_);refine⟨_,cx (oV),ulc ?_⟩;(repeat first|with_reducible refine kp [0,1,2,3,4,11,12,13,14,15,16,17,59] ?_|simp only[kV,simprocAttr,aa,au]|refine aN ?_);refine ulk ?_;(repeat first|with_reducible refine kp [0,1,2,3,4,11,12,13,14,15,16,17] ?_|simp only[kV,simprocAttr,aa,au]|refine aN ?_);refine⟨_,cx (k3),ulc ?_⟩;(repeat first|with_reducible refine kp [0,1,2,3,4,11,12,13,14,15,16,17,18,71] ?_|simp only[kV,simprocAttr,aa,au,hn]|refine aN ?_);refine ulk ?_;(repeat first|simp only[kV,simprocAttr,aa,au,hn]|refine aN ?_);exact⟨_,(Sub.toG [0,1,2,3,4,11,12,13,14,15,16,17,18] [21,22,24,25,26,101,102]),h3⟩
  ·have hp:ptF ts n=(8,0):=if_neg hn;have h3:=h164 (8,0) (.inl ⟨hp.symm,by rw[hp];decide⟩);rw[hp] at h3 ⊢;skip
   (repeat first|simp only[kV,simprocAttr,aa,au,vE,jY]|refine aN ?_);refine⟨_,cx (k1),ulc ?_⟩;(repeat first|with_reducible refine kp [0,1,2,3,4,11,12,13,14,15] ?_|simp only[kV,simprocAttr,aa,au]|refine aN ?_);refine⟨_,cx (k2),ulc ?_⟩;(repeat first|with_reducible refine kp [0,1,2,3,4,11,12,13,14,15,16,17] ?_|simp only[kV,simprocAttr,aa,au]|refine aN ?_);refine⟨_,cx (oV),ulc ?_⟩;(repeat first|with_reducible refine kp [0,1,2,3,4,11,12,13,14,15,16,17,59] ?_|simp only[kV,simprocAttr,aa,au]|refine aN ?_);refine ulk ?_;(repeat first|with_reducible refine kp [0,1,2,3,4,11,12,13,14,15,16,17] ?_|simp only[kV,simprocAttr,aa,au]|refine aN ?_);refine⟨_,cx (k3),ulc ?_⟩;(repeat first|with_reducible refine kp [0,1,2,3,4,11,12,13,14,15,16,17,18,71] ?_|simp only[kV,simprocAttr,aa,au,hn]|refine aN ?_);refine ulk ?_;(repeat first|simp only[kV,simprocAttr,aa,au,hn]|refine aN ?_);refine⟨_,cx (lO (A:=AN) 8 0),ulc ?_⟩;(repeat first|simp only[kV,simprocAttr,aa,au]|refine aN ?_);exact⟨_,(Sub.toG [0,1,2,3,4,11,12,13,14,15,16,17,18] [21,22,24,25,26,101,102]),h3⟩
 ·have he:evF a n ts=fM a n 0:=if_neg h0;have h3:=h164 (fM a n 0) (.inl ⟨he.symm,by rw[he];exact h0⟩);rw[he] at h3 ⊢;clear h164;generalize evT a n ts=s at *;generalize fixF a n v t ord=f2 at *;generalize derF a n v ord=f3 at *;generalize fixA a n v t ord=c at *;generalize derA a n v ord=d at *;generalize fM a n 0=f1 at *;skip
  (repeat first|simp only[kV,simprocAttr,aa,au,vE,jY]|refine aN ?_);refine⟨_,cx (k1),ulc ?_⟩;(repeat first|with_reducible refine kp [0,1,2,3,4,11,12,13,14,15] ?_|simp only[kV,simprocAttr,aa,au]|refine aN ?_);refine⟨_,cx (k2),ulc ?_⟩;(repeat first|with_reducible refine kp [0,1,2,3,4,11,12,13,14,15,16,17] ?_|simp only[kV,simprocAttr,aa,au]|refine aN ?_);refine⟨_,cx (oV),ulc ?_⟩;(repeat first|with_reducible refine kp [0,1,2,3,4,11,12,13,14,15,16,17,59] ?_|simp only[kV,simprocAttr,aa,au]|refine aN ?_);refine ulk ?_;(repeat first|with_reducible refine kp [0,1,2,3,4,11,12,13,14,15,16,17] ?_|simp only[kV,simprocAttr,aa,au]|refine aN ?_);refine⟨_,cx (k3),ulc ?_⟩;(repeat first|with_reducible refine kp [0,1,2,3,4,11,12,13,14,15,16,17,18,71] ?_|simp only[kV,simprocAttr,aa,au,h0]|refine aN ?_);refine ulk ?_;(repeat first|simp only[kV,simprocAttr,aa,au,h0]|refine aN ?_);exact⟨_,(Sub.toG [0,1,2,3,4,11,12,13,14,15,16,17,18] [21,22,24,25,26,101,102]),h3⟩
end
include hA hl2 hs2
theorem wx:Con Tryz.prog AN 4 [LTa T U a,J n,J v,J ord,LSt V ts] (.bool true):=by
 have k1:=zbN T U V a n ts hA.l9 hA.s9 (by omega) hs2;by_cases h:0<ts.length
 ·have hI:(0:Int)<(ts.length:Int):=by omega
  have g1:=o9 h;have h3:=pJ T U V a n v ord ts hA hl2 hs2 (st0 ts 0) (hs2 _ (m7 h));generalize evF a n ts=f1 at *;generalize evT a n ts=s at *;generalize st0 ts 0=t at *;refine fn4.con rfl (by simp) ?_;(repeat first|with_reducible refine kp [0,1,2,3,4] ?_|simp only[kV,simprocAttr,aa,au,gR]|refine aN ?_);refine⟨_,cx (k1),ulc ?_⟩;(repeat first|with_reducible refine kp [0,1,2,3,4,11,12,13,37] ?_|simp only[kV,simprocAttr,aa,au,hI]|refine aN ?_);(try simp only[kV,simprocAttr,aa,au,hI,g1,h]);refine ulk ?_;(repeat first|simp only[kV,simprocAttr,aa,au,hI,g1,h]|refine aN ?_);exact⟨_,(Sub.toG [0,1,2,3,4,11,12,13] [15,17,18,21,22,24,25,26,101,102]),h3⟩
 ·have hI:¬ (0:Int)<(ts.length:Int):=by omega
  have h3:=pJ T U V a n v ord ts hA hl2 hs2 [] (by simp);generalize evF a n ts=f1 at *;generalize evT a n ts=s at *;refine fn4.con rfl (by simp) ?_;(repeat first|with_reducible refine kp [0,1,2,3,4] ?_|simp only[kV,simprocAttr,aa,au,gR]|refine aN ?_);refine⟨_,cx (k1),ulc ?_⟩;(repeat first|with_reducible refine kp [0,1,2,3,4,11,12,13,37] ?_|simp only[kV,simprocAttr,aa,au,hI]|refine aN ?_);refine ulk ?_;(repeat first|simp only[kV,simprocAttr,aa,au,hI]|refine aN ?_);exact⟨_,(Sub.toG [0,1,2,3,4,11,12,13] [15,17,18,21,22,24,25,26,101,102]),h3⟩
end
end Go.Proofs.YtbnhgnhgbhjkcaaGreat.M
