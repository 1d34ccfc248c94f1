/- Lemmas. -/
import Derived.Test.YtbnhgnhgbhjkcaaGreatQ40
import Derived.Test.YtbnhgnhgbhjkcaaGreatQ48
import Derived.Test.YtbnhgnhgbhjkcaaGreatQ49
import Derived.Test.YtbnhgnhgbhjkcaaGreatQ24
set_option linter.defProp false
set_option linter.unusedSectionVars false
set_option linter.unusedSimpArgs false
set_option linter.unusedVariables false
namespace Go.Proofs.YtbnhgnhgbhjkcaaGreat.M
set_option linter.unusedSimpArgs false
set_option maxRecDepth 20000
set_option maxHeartbeats 2000000
open Go.RowKit
noncomputable def rzA (t:At):Zm:=(qR t.1,t.2)
noncomputable def rzL (l:List At):Mp.TL:=l.map rzA
theorem lj (l:List At):(rzL l).length=l.length:=z9V _
theorem WZ {l:List At}{i:Nat} (h:i<l.length):zt (rzL l) i=(qR (at0 l i).1,(at0 l i).2):=by simp[zt,rzL,rzA,at0,h]
theorem Gd.wd {l:List At}{n ord:Int} (h:Gd l n ord):Mp.Wd n.toNat (rzL l):=fun x hx=>by
 obtain⟨y,hy,rfl⟩:=z9Q.1 hx;have:=(jJ (h.ft y hy)).1;show y.2.length=_
 omega
def SzZ (a b:Nat) (l:Mp.TL):Prop:=∃D,0<D∧D≤2^a∧Dz D (2^b) l
theorem tB (l:List At){k:Nat} (h:l.length≤k):SzZ (4000*k) (4000+4000*k) (rzL l):=by
 obtain⟨D,h1,h2,h3⟩:=nd l h;refine⟨D,h1,h2,fun x hx => ?_⟩;obtain⟨y,hy,rfl⟩:=z9Q.1 hx;exact h3 (rdA y) (z9Q.2 ⟨y,hy,rfl⟩)
def ab:=an @oF (an @oG csZ)
theorem tC (any:Bool) (M:Mem) (a b c d:D) (id off len:Nat):AV.toD any M 20 (.agg [.p a,.p b,.p c,.p d,.slice id off len])=(match M id with
  |some o=>match o.cont with
   |.row l=>if (o.frz||any)&&decide (off+len≤l.length) then some (.agg [a,b,c,d,.list o.T o.sz ((l.drop off).take len)]) else none
   |_=>none
  |none=>none):=by
 simp only[AV.toD,dh];cases M id with
 |none=>rfl
 |some o =>
  obtain⟨T,sz,cont,frz⟩:=o;cases cont with
  |row l=>by_cases hc:((frz||any)&&decide (off+len≤l.length))=true<;>simp only[hc]<;>rfl
  |box v=>rfl
  |junk=>rfl
theorem W1 (any:Bool) (M:Mem) (a:D) (id off len:Nat):AV.toD any M 20 (.agg [.p a,.slice id off len])=(match M id with
  |some o=>match o.cont with
   |.row l=>if (o.frz||any)&&decide (off+len≤l.length) then some (.agg [a,.list o.T o.sz ((l.drop off).take len)]) else none
   |_=>none
  |none=>none):=by
 simp only[AV.toD,dh];cases M id with
 |none=>rfl
 |some o =>
  obtain⟨T,sz,cont,frz⟩:=o;cases cont with
  |row l=>by_cases hc:((frz||any)&&decide (off+len≤l.length))=true<;>simp only[hc]<;>rfl
  |box v=>rfl
  |junk=>rfl
theorem og (e:List Int):List.take e.length (e.map (D.int .i64))=e.map (D.int .i64):=by rw[z93 (by simp)]
theorem W3 (T U:Nat) (l:List At){n ord:Int} (h:Gd l n ord) (hs:∀t∈l,t.1.length≤9223372036854775807){a b p:Nat} (hz:SzZ a b (rzL l)) (h1:a<p) (h2:b+10<p) (hp:p≤2048000000000) :
  Con Tryz.prog AN 17 [LTa T U l] (MZ (Mp.growL [] (rzL l))):=by
 obtain⟨D,hD0,hD,hdb⟩:=hz;have hDp:D<2^p:=z9K hD (Nat.pow_lt_pow_right (by omega) h1);have h400:=h.len;have hXp:∀i,i≤401→i*2^b<2^p:=fun i hi=>by
  refine z9K (z92 _ (z9E hi (show 401≤2^10 by decide))) ?_;rw[←z9p];exact Nat.pow_lt_pow_right (by omega) (by omega)
 have hwd:=h.wd;have hn4:=h.n4;refine PJ.conW (A:=[]) rfl (by simp) ?_;(repeat first|simp only[kV,simprocAttr,ab,aP]|refine aN ?_);refine kp [0] ?_;(repeat first|simp only[kV,simprocAttr,ab,aP]|refine aN ?_);refine kp [0,3] ?_;(repeat first|simp only[kV,simprocAttr,ab,aP]|refine aN ?_);refine kp [0,3,4] ?_;(repeat first|simp only[kV,simprocAttr,ab,aP]|refine aN ?_);refine aB (ι:=Nat) (fun i=>i≤l.length) (fun i=>⟨ar [(0,.p (LTa T U l)),(3,.p (MZ (Mp.growL [] ((rzL l).take i)))),(4,.p (.int .i64 i))],au []⟩) (fun i=>l.length-i) 0 (z9O _) ((Sub.revG 3 (MZ []) (by rfl)).tr (Sub.toG [0,3,4] [5,6,29])) ?_;intro i hi;by_cases h':i<l.length
 ·have hI:(i:Int)<(l.length:Int):=by omega
  have g1:=gS (U:=U) h';have hst:=hs _ (gg h');have hii:i<(rzL l).length:=by rw[lj];exact h'
  have hgr:=oH (a:=[]) hii;have hgl:=Mp.growL_len ((rzL l).take i) [];rw[z9N,z9f (by omega)] at hgl;have hgd:=fp (hdb.take i) (Dz.nil (X:=0));rw[z9N,z9f (by omega)] at hgd;have hgw:=Mp.growL_wd (a:=[]) (fun x hx=>by cases hx) (oI hwd i);have hbd:=hdb _ (cO hii);have hbw:=hwd _ (cO hii);rw[WZ h'] at hgr hbd hbw;have hxi:=hXp (i+1) (by omega);rw[z8Z] at hxi;generalize Mp.growL [] ((rzL l).take i)=q at *;generalize at0 l i=t at *;obtain⟨c,e⟩:=t;simp only at hgr hbd hbw hst;have c1:=lG q (qR c,e) hgw hbw hgd hbd (by simp only[List.length_nil] at hgl;omega) (by omega) hDp (by omega) hp;have c0:=jG c hst;have hlen:e.length*8≤140737488355328:=by omega
  have hlen2:e.length≤9223372036854775807:=by omega
  have hlen3:e.length≤1000000000:=by omega
  (repeat first|with_reducible refine kp [0,3,4,10] ?_|simp only[kV,simprocAttr,ab,hI]|refine aN ?_);(try simp only[kV,simprocAttr,ab,hI,g1,h']);refine ulk ?_;(repeat first|with_reducible refine kp [0,3,4] ?_|simp only[kV,simprocAttr,ab,hI,g1,h']|refine aN ?_);refine wq (cxw (B:=[173,3]) (c0)) (ulc ?_);(repeat first|with_reducible refine kp [0,3,4,5] ?_|simp only[kV,simprocAttr,ab,ac,ae,hI,g1,h',hlen,hlen2,tC,lH,og,Bool.true_or,z9u]|refine aN ?_);refine wq (cxw (B:=[173,3]) (c1)) (ulc ?_);(repeat first|with_reducible refine kp [0,3,4] ?_|simp only[kV,simprocAttr,ab]|refine aN ?_);exact⟨i+1,h',by rw[hgr];exact (Sub.toG [0,3,4] [5,6,29]),by omega⟩
 ·have hI:¬ (i:Int)<(l.length:Int):=by omega
  obtain rfl:i=l.length:=by omega
  rw[z93 (by rw[lj];omega)];(repeat first|with_reducible refine kp [0,3,4,10] ?_|simp only[kV,simprocAttr,ab,hI]|refine aN ?_);refine ulk ?_;(repeat first|with_reducible refine kp [2,3] ?_|simp only[kV,simprocAttr,ab,af,ai,aq,ah,hI]|refine aN ?_)
set_option linter.unusedSimpArgs false
set_option maxRecDepth 20000
set_option maxHeartbeats 4000000
open Go.RowKit
def cD (x:Zm) (b:Mp.TL):Mp.TL:=b.map fun y=>(x.1*y.1,Mp.addM x.2 y.2)
theorem zce (a b:Mp.TL){i:Nat} (h:i<a.length):Mp.mulL (a.take (i+1)) b=Mp.mulL (a.take i) b++cD (zt a i) b:=by
 rw[jN h];unfold Mp.mulL;rw[List.flatMap_append];simp[cD]
theorem zcf (x:Zm) (b:Mp.TL){j:Nat} (h:j<b.length):cD x (b.take (j+1))=cD x (b.take j)++[(x.1*(zt b j).1,Mp.addM x.2 (zt b j).2)]:=by
 rw[jN h];unfold cD;rw[z9U];rfl
theorem pI (a b:Mp.TL):(Mp.mulL a b).length=a.length*b.length:=by
 unfold Mp.mulL;induction a with
 |nil=>simp
 |cons x a ih=>rw[List.flatMap_cons,z96,ih,z9V,List.length_cons,z8Z,Nat.add_comm]
theorem zcg (x:Zm) (b:Mp.TL):(cD x b).length=b.length:=z9V _
theorem vU {a b:Mp.TL}{D X E Y:Nat} (ha:Dz D X a) (hb:Dz E Y b):Dz (D*E) (X*Y) (Mp.mulL a b):=fun x hx=>by
 obtain⟨y,hy,hx⟩:=List.mem_flatMap.1 hx;obtain⟨z,hz,rfl⟩:=z9Q.1 hx;exact (ha y hy).mul (hb z hz)
theorem zch {a a' b:Mp.TL} (h:∀x∈a',x∈a):∀x∈Mp.mulL a' b,x∈Mp.mulL a b:=fun x hx=>by
 obtain⟨y,hy,hx⟩:=List.mem_flatMap.1 hx;exact List.mem_flatMap.2 ⟨y,h y hy,hx⟩
theorem zci {a b b':Mp.TL}{x:Zm} (hx:x∈a) (h:∀y∈b',y∈b):∀y∈cD x b',y∈Mp.mulL a b:=fun y hy=>by
 obtain⟨z,hz,rfl⟩:=z9Q.1 hy;exact List.mem_flatMap.2 ⟨x,hx,z9Q.2 ⟨z,h z hz,rfl⟩⟩
def adK (e f:List Int) (k:Nat):List Int:=Mp.addM (e.take k) (f.take k)++e.drop k
theorem zcj {e f:List Int} (h:e.length=f.length):adK e f e.length=Mp.addM e f:=by
 unfold adK;rw[z9x,h,z9x,z9l (by omega),List.append_nil]
theorem zck {e f:List Int}{k:Nat} (h:e.length=f.length) (hk:k≤e.length):(adK e f k).length=e.length:=by
 unfold adK Mp.addM;simp;omega
theorem zcl {e f:List Int}{k:Nat} (h:e.length=f.length) (hk:k<e.length):(adK e f k).getD k 0=e.getD k 0:=by
 unfold adK Mp.addM;have hl:(List.zipWith (· + ·) (e.take k) (f.take k)).length=k:=by simp;omega
 rw[z91,z9z (by omega),hl,Nat.sub_self,z9s,Nat.add_zero,←z91]
theorem zcm {e f:List Int}{k:Nat} (h:e.length=f.length) (hk:k<e.length):(adK e f k).set k (e.getD k 0+f.getD k 0)=adK e f (k+1):=by
 have hf:k<f.length:=by omega
 unfold adK Mp.addM;have hl:(List.zipWith (· + ·) (e.take k) (f.take k)).length=k:=by simp;omega
 rw[List.set_append,if_neg (by omega),hl,Nat.sub_self,z9k hk,List.set_cons_zero,z9c hk,z9c hf,List.zipWith_append (by simp;omega)];simp[hk,hf]
theorem zcn (l:List Int) (i:Nat) (x:Int):(l.map (D.int .i64)).set i (.int .i64 x)=(l.set i x).map (D.int .i64):=List.map_set.symm
theorem zco (a b:Mp.TL){n Da X Ea Y p:Nat} (hwa:Mp.Wd n a) (hwb:Mp.Wd n b) (ha:Dz Da X a) (hb:Dz Ea Y b) (hl:a.length*b.length≤100000) (hla:a.length≤100000) (hlb:b.length≤100000) (hn:n≤1000) (hD:Da<2^p) (hE:Ea<2^p) (hX:X<2^p) (hY:Y<2^p) (hDE:Da*Ea<2^p) (hXY:(a.length*b.length+1)*(X*Y)<2^p) (hp:p≤2048000000000)
  (hea:∀x∈a,∀e∈x.2,-1000000000≤e∧e≤1000000000) (heb:∀x∈b,∀e∈x.2,-1000000000≤e∧e≤1000000000) :
  Con Tryz.prog AN 20 [MZ a,MZ b] (MZ (Mp.growL [] (Mp.mulL a b))):=by
 have hwm:=hwa.mul hwb;have hdm:=vU ha hb;have geD:∀{l:List Int},(∀e∈l,-1000000000≤e∧e≤1000000000)→∀k,-1000000000≤l.getD k 0∧l.getD k 0≤1000000000:=fun {l} h k=>by
  by_cases hk:k<l.length
  ·have:l.getD k 0=l[k]:=by simp[hk]
   rw[this];exact h _ (z9a hk)
  ·have:l.getD k 0=0:=by simp[z80 (Nat.le_of_not_lt hk)]
   rw[this];omega
 refine Qo.conW (A:=[]) rfl (by simp) ?_;(repeat first|simp only[kV,simprocAttr,ab,ax]|refine aN ?_);refine kp [0,1] ?_;(repeat first|simp only[kV,simprocAttr,ab,ax]|refine aN ?_);refine kp [0,1,5] ?_;(repeat first|simp only[kV,simprocAttr,ab,ax]|refine aN ?_);refine kp [0,1,5,6] ?_;(repeat first|simp only[kV,simprocAttr,ab,ax]|refine aN ?_);refine aB (ι:=Nat) (fun i=>i≤a.length) (fun i=>⟨ar [(0,.p (MZ a)),(1,.p (MZ b)),(5,.p (MZ (Mp.growL [] (Mp.mulL (a.take i) b)))),(6,.p (.int .i64 i))],au []⟩) (fun i=>a.length-i) 0 (z9O _) ((Sub.revG 5 (MZ []) (by rfl)).tr (Sub.toG [0,1,5,6] [27])) ?_;intro i hi;by_cases h:i<a.length
 ·have hI:(i:Int)<(a.length:Int):=by omega
  have g1:=fG h;have hst:=zce a b h;have hxm:=cO h;have hbx:=(ha _ hxm).Bq hD hX;have hwx:=hwa _ hxm;have hex:=geD (hea _ hxm);have hsub:∀y∈Mp.mulL (a.take i) b,y∈Mp.mulL a b:=zch fun x hx=>z9M hx
  have hlen:(Mp.mulL (a.take i) b).length=i*b.length:=by rw[pI,z9N,z9f hi]
  have hmul:(i+1)*b.length≤a.length*b.length:=z92 _ h;rw[z8Z] at hmul;generalize Mp.mulL (a.take i) b=q at *;generalize zt a i=x at *;(repeat first|with_reducible refine kp [0,1,5,6,13] ?_|simp only[kV,simprocAttr,ab,hI]|refine aN ?_);(try simp only[kV,simprocAttr,ab,hI,g1,h]);refine ulk ?_;(repeat first|simp only[kV,simprocAttr,ab,hI,g1,h]|refine aN ?_);refine kp [0,1,5,6] ?_;(repeat first|simp only[kV,simprocAttr,ab,hI,g1,h]|refine aN ?_);refine kp [0,1,5,6,7] ?_;(repeat first|simp only[kV,simprocAttr,ab,hI,g1,h]|refine aN ?_);refine aB (ι:=Nat) (fun j=>j≤b.length) (fun j=>⟨ar [(0,.p (MZ a)),(1,.p (MZ b)),(5,.p (MZ (Mp.growL [] (q++cD x (b.take j))))),(6,.p (.int .i64 i)),(7,.p (.int .i64 j))],au []⟩) (fun j=>b.length-j) 0 (z9O _) (by rw[show q++cD x (b.take 0)=q by simp[cD]];exact (Sub.toG [0,1,5,6,7] [27])) ?_;intro j hj;by_cases h':j<b.length
  ·have hJ:(j:Int)<(b.length:Int):=by omega
   have g2:=fG h';have hst2:=zcf x b h';have hym:=cO h';have hby:=(hb _ hym).Bq hE hY;have hwy:=hwb _ hym;have hey:=geD (heb _ hym);have hrl:(cD x (b.take j)).length=j:=by rw[zcg,z9N,z9f hj]
   have hsub2:∀y∈q++cD x (b.take j),y∈Mp.mulL a b:=fun y hy=>by
    rcases z9y.1 hy with hy | hy
    ·exact hsub y hy
    ·exact zci hxm (fun z hz=>z9M hz) y hy
   have hnew:((x.1*(zt b j).1,Mp.addM x.2 (zt b j).2):Zm)∈Mp.mulL a b:=List.mem_flatMap.2 ⟨x,hxm,z9Q.2 ⟨zt b j,hym,rfl⟩⟩;have hgw:=Mp.growL_wd (a:=[]) (l:=q++cD x (b.take j)) (n:=n) (fun x hx=>by cases hx) (fun y hy=>hwm y (hsub2 y hy));have hgd:=fp (a:=[]) (l:=q++cD x (b.take j)) (D:=Da*Ea) (Y:=X*Y) (fun y hy=>hdm y (hsub2 y hy)) (Dz.nil (X:=0));have hgl:=Mp.growL_len (q++cD x (b.take j)) [];have hnl:(q++cD x (b.take j)).length=i*b.length+j:=by rw[z96,hlen,hrl]
   rw[hnl] at hgd hgl;have hnd:=hdm _ hnew;have hnw:=hwm _ hnew;have hxyi:(i*b.length+j+1)*(X*Y)≤(a.length*b.length+1)*(X*Y):=z92 _ (by omega);rw[z8Z] at hxyi;have hgrow:Mp.growL [] (q++cD x (b.take (j+1)))=Mp.grow (Mp.growL [] (q++cD x (b.take j))) (x.1*(zt b j).1,Mp.addM x.2 (zt b j).2):=by rw[hst2,←z9A,Mp.growL_snoc]
   generalize Mp.growL [] (q++cD x (b.take j))=w at *;generalize zt b j=y at *;obtain⟨c,e⟩:=x;obtain⟨d,f⟩:=y;simp only at hbx hwx hex hby hwy hey hnw hnd hgrow;have c1:=pk c d p hbx hby hp;have c2:=lG w (c*d,Mp.addM e f) hgw hnw hgd hnd (by simp only[List.length_nil] at hgl;omega) (by omega) hDE (by omega) hp;have hl8:e.length*8≤140737488355328:=by omega
   have hl9:e.length≤9223372036854775807:=by omega
   have hef:e.length=f.length:=by omega
   (repeat first|with_reducible refine kp [0,1,5,6,7,19] ?_|simp only[kV,simprocAttr,ab,hJ]|refine aN ?_);(try simp only[kV,simprocAttr,ab,hJ,hI,g1,h,g2,h',hl8,hl9]);refine ulk ?_;(repeat first|simp only[kV,simprocAttr,ab,hJ,hI,g1,h,g2,h',hl8,hl9]|refine aN ?_);refine kp [0,1,5,6,7] ?_;(repeat first|simp only[kV,simprocAttr,ab,hJ,hI,g1,h,g2,h',hl8,hl9]|refine aN ?_);refine kp [0,1,5,6,7,8] ?_;(repeat first|simp only[kV,simprocAttr,ab,hJ,hI,g1,h,g2,h',hl8,hl9]|refine aN ?_);refine kp [0,1,5,6,7,8,9] ?_;(repeat first|simp only[kV,simprocAttr,ab,hJ,hI,g1,h,g2,h',hl8,hl9]|refine aN ?_);refine aB (ι:=Nat) (fun k=>k≤e.length) (fun k=>⟨ar [(0,.p (MZ a)),(1,.p (MZ b)),(5,.p (MZ w)),(6,.p (.int .i64 i)),(7,.p (.int .i64 j)),(8,.slice 27 0 e.length),(9,.p (.int .i64 k))],
    au [(27,⟨3,1,.row ((adK e f k).map (D.int .i64)),false⟩)]⟩) (fun k=>e.length-k) 0 (z9O _) (Sub.toG [0,1,5,6,7,8,9] []) ?_
   intro k hk;have hal:=zck hef hk;by_cases h2:k<e.length
   ·have hK:(k:Int)<(e.length:Int):=by omega
    have hK2:(k:Int)<(f.length:Int):=by omega
    have hkf:k<f.length:=by omega
    have g3:((adK e f k).map (D.int .i64)).getD k default = .int .i64 (e.getD k 0):=by rw[dO (by omega),zcl hef h2]
    have g4:=dO hkf;have b1:=hex k;have b2:=hey k;have s1:((adK e f k).map (D.int .i64)).set k (.int .i64 (e.getD k 0+f.getD k 0))=(adK e f (k+1)).map (D.int .i64):=by rw[zcn,zcm hef h2]
    (repeat first|with_reducible refine kp [0,1,5,6,7,8,9,31] ?_|simp only[kV,simprocAttr,ab,hK]|refine aN ?_);(try simp only[kV,simprocAttr,ab,hK,hK2,hJ,g2,h',g3,g4,hkf,h2,hal,s1]);refine ulk ?_;(repeat first|with_reducible refine kp [0,1,5,6,7,8,9] ?_|simp only[kV,simprocAttr,ab,hK,hK2,hJ,g2,h',g3,g4,hkf,h2,hal,s1]|refine aN ?_);exact⟨k+1,h2,(Sub.toG [0,1,5,6,7,8,9] []),by omega⟩
   ·have hK:¬ (k:Int)<(e.length:Int):=by omega
    obtain rfl:k=e.length:=by omega
    rw[zcj hef] at *;have tkE:List.take e.length (Mp.addM e f)=Mp.addM e f:=z93 (by omega);(repeat first|with_reducible refine kp [0,1,5,6,7,8,9,31] ?_|simp only[kV,simprocAttr,ab,hK]|refine aN ?_);(try simp only[kV,simprocAttr,ab,hK,hI,hJ,g1,g2,h,h']);refine ulk ?_;(repeat first|simp only[kV,simprocAttr,ab,hK,hI,hJ,g1,g2,h,h']|refine aN ?_);refine iy 27 _ [0,1,5,6,7,8] (by rfl) ?_;refine ulk ?_;(repeat first|simp only[kV,simprocAttr,ab,hK,hI,hJ,g1,g2,h,h']|refine aN ?_);refine wq (cxw (B:=[173,3]) (c1)) (ulc ?_);(repeat first|simp only[kV,simprocAttr,ab,lH,hal,tkE,tC,og,Bool.true_or,z9u,ac,ae]|refine aN ?_);refine wq (cxw (B:=[173,3]) (c2)) (ulc ?_);(repeat first|with_reducible refine kp [0,1,5,6,7] ?_|simp only[kV,simprocAttr,ab]|refine aN ?_);exact⟨j+1,h',by rw[hgrow];exact (Sub.toG [0,1,5,6,7] [27]),by omega⟩
  ·have hJ:¬ (j:Int)<(b.length:Int):=by omega
   obtain rfl:j=b.length:=by omega
   have f1:q++cD x (b.take b.length)=Mp.mulL (a.take (i+1)) b:=by rw[z9x,hst]
   rw[f1];(repeat first|with_reducible refine kp [0,1,5,6,7,19] ?_|simp only[kV,simprocAttr,ab,hJ]|refine aN ?_);refine ulk ?_;(repeat first|with_reducible refine kp [0,1,5,6] ?_|simp only[kV,simprocAttr,ab,hJ]|refine aN ?_);exact⟨i+1,h,(Sub.toG [0,1,5,6] [27]),by omega⟩
 ·have hI:¬ (i:Int)<(a.length:Int):=by omega
  obtain rfl:i=a.length:=by omega
  rw[z9x];(repeat first|with_reducible refine kp [0,1,5,6,13] ?_|simp only[kV,simprocAttr,ab,hI]|refine aN ?_);refine ulk ?_;(repeat first|with_reducible refine kp [4,5] ?_|simp only[kV,simprocAttr,ab,af,ai,aq,ah,hI]|refine aN ?_)
set_option linter.unusedSimpArgs false
set_option maxRecDepth 20000
set_option maxHeartbeats 2000000
open Go.RowKit
theorem po:∀{i:Nat}{l m:List Int},l.length=m.length→i<l.length→(∀k,k<i→l.getD k 0=m.getD k 0)→l.getD i 0≠m.getD i 0→Mp.gtL l m=decide (m.getD i 0<l.getD i 0)
 |_,[],_,_,h,_,_=>by simp at h
 |_,_::_,[],hl,_,_,_=>by simp at hl
 |0,a::l,b::m,_,_,_,hne=>by
  have hne':¬ a=b:=hne;rw[Mp.gtL,if_neg hne'];rfl
 |i+1,a::l,b::m,hl,h,hk,hne=>by
  have h0:a=b:=hk 0 (by omega);rw[Mp.gtL,if_pos h0];exact po (i:=i) (by simpa using hl) (by simpa using h) (fun k hki=>hk (k+1) (by omega)) hne
theorem pq {a b:List Int} (hl:a.length=b.length) (h:∀k,k<a.length→a.getD k 0=b.getD k 0):a=b:=List.ext_getElem hl fun k h1 h2=>by
 have:=h k h1
 rwa[z91,z91,z9P h1,z9P h2] at this
theorem l5 {a:List Int}{k:Nat} (h:k<a.length):(a.reverse.map fun x => -x).getD k 0 = -(a.getD (a.length-1-k) 0):=by
 rw[z91,z9B,List.getElem?_reverse h,z91,z9P (by omega)];rfl
theorem zbl {i:Nat}{a b:List Int} (hl:a.length=b.length) (h:i<a.length) (hk:∀k,i<k→k<a.length→a.getD k 0=b.getD k 0) (hne:a.getD i 0≠b.getD i 0) :
  Mp.gtL (a.reverse.map fun x => -x) (b.reverse.map fun x => -x)=decide (a.getD i 0<b.getD i 0):=by
 have e1:(a.reverse.map fun x => -x).getD (a.length-1-i) 0 = -(a.getD i 0):=by rw[l5 (by omega),show a.length-1-(a.length-1-i)=i by omega]
 have e2:(b.reverse.map fun x => -x).getD (a.length-1-i) 0 = -(b.getD i 0):=by rw[l5 (by omega),show b.length-1-(a.length-1-i)=i by omega]
 rw[po (i:=a.length-1-i) (by simp[hl]) (by simp;omega) (fun k hki=>by
  rw[l5 (by omega),l5 (by omega),←hl,hk (a.length-1-k) (by omega) (by omega)]) (by rw[e1,e2];omega),e1,e2]
 congr 1
 apply propext;omega
theorem pr {l:List Int}{i:Nat} (h:i<l.length):(l.take (i+1)).sum=(l.take i).sum+l.getD i 0:=by
 rw[z9c h,List.sum_append];simp[h]
theorem jH {l:List Int} (h:∀k,-1000000000≤l.getD k 0∧l.getD k 0≤1000000000):∀{i:Nat},i≤l.length→-1000000000*(i:Int)≤(l.take i).sum∧(l.take i).sum≤1000000000*(i:Int)
 |0,_=>by simp
 |i+1,hi=>by
  have:=jH h (i:=i) (by omega);have h2:=h i;rw[pr (by omega)];omega
theorem zbm {a b:List Int}:Mp.ahead 0 a b=Mp.gtL a b:=by unfold Mp.ahead Mp.key;rw[if_pos rfl,if_pos rfl]
theorem zbn {ord:Int}{a b:List Int} (h:ord≠0) (hs:a.sum≠b.sum):Mp.ahead ord a b=decide (b.sum<a.sum):=by
 unfold Mp.ahead Mp.key;rw[if_neg h,if_neg h];split<;>(rw[Mp.gtL,if_neg hs])
theorem zbo {ord:Int}{a b:List Int} (h:ord≠0) (h2:ord≠2) (hs:a.sum=b.sum):Mp.ahead ord a b=Mp.gtL a b:=by
 unfold Mp.ahead Mp.key;rw[if_neg h,if_neg h,if_neg h2,if_neg h2,Mp.gtL,if_pos hs]
theorem zbp {a b:List Int} (hs:a.sum=b.sum):Mp.ahead 2 a b=Mp.gtL (a.reverse.map fun x => -x) (b.reverse.map fun x => -x):=by
 unfold Mp.ahead Mp.key;rw[if_neg (show ¬ (2:Int)=0 by decide),if_neg (show ¬ (2:Int)=0 by decide),if_pos rfl,if_pos rfl,Mp.gtL,if_pos hs]
section
variable (T U:Nat) (ord:Int) (a b:List Int) (hl:a.length=b.length) (hn:a.length≤1000)
include hl hn
theorem zbq (hv:Mp.ahead ord a b=Mp.gtL a b) :
  cw [] (ConX Tryz.prog []) rK (af (.bool (Mp.ahead ord a b)) [(6,none)]) ⟨ar [(0,.p (.list T 1 (a.map (D.int .i64)))),(1,.p (.list U 1 (b.map (D.int .i64))))],au []⟩:=by
 rw[hv];skip
 (repeat first|simp only[kV,simprocAttr,ab]|refine aN ?_);refine kp [0,1,10] ?_;(repeat first|simp only[kV,simprocAttr,ab]|refine aN ?_);refine aB (ι:=Nat) (fun i=>i≤a.length∧∀k,k<i→a.getD k 0=b.getD k 0) (fun i=>⟨ar [(0,.p (.list T 1 (a.map (D.int .i64)))),(1,.p (.list U 1 (b.map (D.int .i64)))),(10,.p (.int .i64 i))],au []⟩) (fun i=>a.length-i) 0 ⟨z9O _,fun k hk=>by omega⟩ (Sub.toG [0,1,10] []) ?_;rintro i ⟨hi,he⟩;by_cases h:i<a.length
 ·have hI:(i:Int)<(a.length:Int):=by omega
  have hI2:(i:Int)<(b.length:Int):=by omega
  have hb:i<b.length:=by omega
  have g1:=dO h;have g2:=dO hb;(repeat first|with_reducible refine kp [0,1,10,64] ?_|simp only[kV,simprocAttr,ab,hI]|refine aN ?_);(try simp only[kV,simprocAttr,ab,hI,hI2,g1,g2,h,hb]);refine ulk ?_;(repeat first|with_reducible refine kp [0,1,10,75] ?_|simp only[kV,simprocAttr,ab,hI,hI2,g1,g2,h,hb]|refine aN ?_);by_cases hc:a.getD i 0=b.getD i 0
  ·refine⟨fun h1=>absurd h1 (by rw[hc];simp),fun _ => ?_⟩;(try simp only[kV,simprocAttr,ab]);refine ulk ?_;(repeat first|with_reducible refine kp [0,1,10] ?_|simp only[kV,simprocAttr,ab]|refine aN ?_);exact⟨i+1,⟨h,fun k hk=>by
    by_cases hki:k<i
    ·exact he k hki
    ·obtain rfl:k=i:=by omega
     exact hc⟩,(Sub.toG [0,1,10] []),by omega⟩
  ·refine⟨fun _ => ?_,fun h1=>absurd h1 (by rw[z8R hc];simp)⟩;rw[po hl h he hc];(try simp only[kV,simprocAttr,ab,hI,hI2,g1,g2,h,hb]);refine ulk ?_;(repeat first|with_reducible refine kp [6] ?_|simp only[kV,simprocAttr,ab,af,ai,aq,ah,hI,hI2,g1,g2,h,hb]|refine aN ?_)
 ·have hI:¬ (i:Int)<(a.length:Int):=by omega
  have heq:a=b:=pq hl fun k hk=>he k (by omega)
  have hf:Mp.gtL a b=false:=by rw[heq];exact Mp.gtL_self _
  rw[hf];(repeat first|with_reducible refine kp [0,1,10,64] ?_|simp only[kV,simprocAttr,ab,hI]|refine aN ?_);refine ulk ?_;(repeat first|with_reducible refine kp [6] ?_|simp only[kV,simprocAttr,ab,af,ai,aq,ah,hI]|refine aN ?_)
theorem vl (ho:ord=0∨a.sum=b.sum) :
  cw [] (ConX Tryz.prog []) rL (af (.bool (Mp.ahead ord a b)) [(6,none)]) ⟨ar [(0,.p (.list T 1 (a.map (D.int .i64)))),(1,.p (.list U 1 (b.map (D.int .i64)))),(2,.p (.int .i64 ord))],au []⟩:=by
 by_cases h2:ord=2
 ·subst h2;have hs:a.sum=b.sum:=ho.resolve_left (by decide);rw[zbp hs];skip
  (repeat first|with_reducible refine kp [0,1,35] ?_|simp only[kV,simprocAttr,ab]|refine aN ?_);refine ulk ?_;(repeat first|simp only[kV,simprocAttr,ab]|refine aN ?_);refine kp [0,1,9] ?_;(repeat first|simp only[kV,simprocAttr,ab]|refine aN ?_);refine aB (ι:=Nat) (fun i=>i≤a.length∧∀k,i≤k→k<a.length→a.getD k 0=b.getD k 0) (fun i=>⟨ar [(0,.p (.list T 1 (a.map (D.int .i64)))),(1,.p (.list U 1 (b.map (D.int .i64)))),(9,.p (.int .i64 ((i:Int)-1)))],au []⟩) (fun i=>i) a.length ⟨z95 _,fun k hk hk2=>by omega⟩ (Sub.toG [0,1,9] []) ?_;rintro i ⟨hi,he⟩;cases i with
  |zero =>
   have hI:decide ((0:Int)≤0-1)=false:=by decide
   have heq:a=b:=pq hl fun k hk=>he k (by omega) hk
   have hf:Mp.gtL (a.reverse.map fun x => -x) (b.reverse.map fun x => -x)=false:=by rw[heq];exact Mp.gtL_self _
   rw[hf];(repeat first|with_reducible refine kp [0,1,9,40] ?_|simp only[kV,simprocAttr,ab,hI]|refine aN ?_);refine ulk ?_;(repeat first|with_reducible refine kp [6] ?_|simp only[kV,simprocAttr,ab,af,ai,aq,ah,hI]|refine aN ?_)
  |succ i =>
   have e0:((i+1:Nat):Int)-1=(i:Int):=by omega
   have e1:(0:Int)≤(i:Int):=by omega
   have e2:(i:Int).toNat=i:=by omega
   have h:i<a.length:=by omega
   have hb:i<b.length:=by omega
   have hI:(i:Int)<(a.length:Int):=by omega
   have hI2:(i:Int)<(b.length:Int):=by omega
   have g1:=dO h;have g2:=dO hb;rw[e0];(repeat first|with_reducible refine kp [0,1,9,40] ?_|simp only[kV,simprocAttr,ab,e0,e1]|refine aN ?_);(try simp only[kV,simprocAttr,ab,e0,e1,e2,hI,hI2,g1,g2,h,hb]);refine ulk ?_;(repeat first|with_reducible refine kp [0,1,9,51] ?_|simp only[kV,simprocAttr,ab,e0,e1,e2,hI,hI2,g1,g2,h,hb]|refine aN ?_);by_cases hc:a.getD i 0=b.getD i 0
   ·refine⟨fun h1=>absurd h1 (by rw[hc];simp),fun _ => ?_⟩;(try simp only[kV,simprocAttr,ab]);refine ulk ?_;(repeat first|with_reducible refine kp [0,1,9] ?_|simp only[kV,simprocAttr,ab]|refine aN ?_);exact⟨i,⟨by omega,fun k hk hk2=>by
     by_cases hki:i<k
     ·exact he k (by omega) hk2
     ·obtain rfl:k=i:=by omega
      exact hc⟩,(Sub.toG [0,1,9] []),by omega⟩
   ·refine⟨fun _ => ?_,fun h1=>absurd h1 (by rw[z8R hc];simp)⟩;rw[zbl hl h (fun k hk hk2=>he k (by omega) hk2) hc];(try simp only[kV,simprocAttr,ab,e0,e1,e2,hI,hI2,g1,g2,h,hb]);refine ulk ?_;(repeat first|with_reducible refine kp [6] ?_|simp only[kV,simprocAttr,ab,af,ai,aq,ah,e0,e1,e2,hI,hI2,g1,g2,h,hb]|refine aN ?_)
 ·have hv:Mp.ahead ord a b=Mp.gtL a b:=by
   by_cases h0:ord=0
   ·rw[h0,zbm]
   ·exact zbo h0 h2 (ho.resolve_left h0)
  have ht:=zbq T U ord a b hl hn hv;skip
  (repeat first|with_reducible refine kp [0,1,35] ?_|simp only[kV,simprocAttr,ab,h2]|refine aN ?_);refine ulk ?_;(repeat first|simp only[kV,simprocAttr,ab,h2]|refine aN ?_);exact⟨_,(Sub.toG [0,1] []),ht⟩
theorem zbr (A:List TypeId) (ho:0≤ord) (ha:∀k,-1000000000≤a.getD k 0∧a.getD k 0≤1000000000) (hb:∀k,-1000000000≤b.getD k 0∧b.getD k 0≤1000000000):Con Tryz.prog A 89 [.list T 1 (a.map (D.int .i64)),.list U 1 (b.map (D.int .i64)),.int .i64 ord] (.bool (Mp.ahead ord a b)):=by
 refine Con.mono (A:=[]) ?_ (by simp);by_cases h0:ord=0
 ·have ht:=vl T U ord a b hl hn (.inl h0);have h0':¬ 0<ord:=by omega
  refine rM.con rfl (by simp) ?_;(repeat first|with_reducible refine kp [0,1,2,12] ?_|simp only[kV,simprocAttr,ab,ci,h0']|refine aN ?_);refine ulk ?_;(repeat first|simp only[kV,simprocAttr,ab,h0']|refine aN ?_);exact⟨_,(Sub.toG [0,1,2] []),ht⟩
 ·have h0':0<ord:=by omega
  refine rM.con rfl (by simp) ?_;(repeat first|with_reducible refine kp [0,1,2,12] ?_|simp only[kV,simprocAttr,ab,ci,h0']|refine aN ?_);refine ulk ?_;(repeat first|simp only[kV,simprocAttr,ab,h0']|refine aN ?_);refine kp [0,1,2,7] ?_;(repeat first|simp only[kV,simprocAttr,ab,h0']|refine aN ?_);refine kp [0,1,2,7,8] ?_;(repeat first|simp only[kV,simprocAttr,ab,h0']|refine aN ?_);refine aB (ι:=Nat) (fun i=>i≤a.length) (fun i=>⟨ar [(0,.p (.list T 1 (a.map (D.int .i64)))),(1,.p (.list U 1 (b.map (D.int .i64)))),(2,.p (.int .i64 ord)),(7,.p (.int .i64 ((a.take i).sum-(b.take i).sum))),(8,.p (.int .i64 i))],au []⟩) (fun i=>a.length-i) 0 (z9O _) (Sub.toG [0,1,2,7,8] []) ?_;intro i hi;by_cases h:i<a.length
  ·have hI:(i:Int)<(a.length:Int):=by omega
   have hI2:(i:Int)<(b.length:Int):=by omega
   have hbb:i<b.length:=by omega
   have g1:=dO h;have g2:=dO hbb;have b1:=ha i;have b2:=hb i;have b3:=jH ha hi;have b4:=jH hb (i:=i) (by omega);have e1:(a.take i).sum-(b.take i).sum+(a.getD i 0-b.getD i 0)=(a.take (i+1)).sum-(b.take (i+1)).sum:=by rw[pr h,pr hbb];omega
   have b5:=jH ha (i:=i+1) (by omega);have b6:=jH hb (i:=i+1) (by omega);(repeat first|with_reducible refine kp [0,1,2,7,8,16] ?_|simp only[kV,simprocAttr,ab,hI]|refine aN ?_);(try simp only[kV,simprocAttr,ab,hI,hI2,g1,g2,h,hbb,e1]);refine ulk ?_;(repeat first|with_reducible refine kp [0,1,2,7,8] ?_|simp only[kV,simprocAttr,ab,hI,hI2,g1,g2,h,hbb,e1]|refine aN ?_);exact⟨i+1,h,(Sub.toG [0,1,2,7,8] []),by omega⟩
  ·have hI:¬ (i:Int)<(a.length:Int):=by omega
   obtain rfl:i=a.length:=by omega
   rw[z9x,hl,z9x];rw[←hl];(repeat first|with_reducible refine kp [0,1,2,7,8,16] ?_|simp only[kV,simprocAttr,ab,hI]|refine aN ?_);refine ulk ?_;(repeat first|with_reducible refine kp [0,1,2,7,31] ?_|simp only[kV,simprocAttr,ab,hI]|refine aN ?_);by_cases hs:a.sum=b.sum
   ·have hs0:a.sum-b.sum=0:=by omega
    have ht:=vl T U ord a b hl hn (.inr hs);refine⟨fun h1=>absurd h1 (by simp[hs0]),fun _ => ?_⟩;(try simp only[kV,simprocAttr,ab]);refine ulk ?_;(repeat first|simp only[kV,simprocAttr,ab]|refine aN ?_);exact⟨_,(Sub.toG [0,1,2] []),ht⟩
   ·have hs0:¬ a.sum-b.sum=0:=by omega
    refine⟨fun _ => ?_,fun h1=>absurd h1 (by simp[hs0])⟩;have e5:(0<a.sum-b.sum)=(b.sum<a.sum):=propext (by omega);rw[zbn h0 hs];(try simp only[kV,simprocAttr,ab,e5]);refine ulk ?_;(repeat first|with_reducible refine kp [6] ?_|simp only[kV,simprocAttr,ab,af,ai,aq,ah,e5]|refine aN ?_)
end
set_option linter.unusedSimpArgs false
set_option maxRecDepth 20000
set_option maxHeartbeats 2000000
open Go.RowKit
theorem kH {n m:Nat}{x y:Rat} (h:Bq n x) (k:Bq m y):Bq (n+m) (x*y):=by
 have p1:=Nat.pow_pos (n:=n) (show 0<2 by omega);have p2:=Nat.pow_pos (n:=m) (show 0<2 by omega);refine ((Db.of_self x).mul (Db.of_self y)).Bq ?_ ?_<;>rw[z9p]
 ·exact Nat.mul_lt_mul'' h.2 k.2
 ·exact Nat.mul_lt_mul'' h.1 k.1
theorem rm {n m:Nat}{x y:Rat} (h:Bq n x) (k:Bq m y):Bq (n+m+1) (x+y):=by
 have h1:=(Db.of_self x).up y.den_pos;have h2:=(Db.of_self y).up x.den_pos;rw[z8U y.den] at h2;have e1:x.num.natAbs*y.den<2^(n+m):=by rw[z9p];exact Nat.mul_lt_mul'' h.1 k.2
 have e2:y.num.natAbs*x.den<2^(n+m):=by rw[z9p,z8U];exact Nat.mul_lt_mul'' h.2 k.1
 have e3:x.den*y.den<2^(n+m):=by rw[z9p];exact Nat.mul_lt_mul'' h.2 k.2
 refine (h1.add h2).Bq ?_ ?_<;>rw[Nat.pow_succ]<;>omega
namespace P
set_option maxRecDepth 20000
set_option maxHeartbeats 2000000
open Mp
theorem pv_take:∀(xs:List Rat) (e:Mo) (j:Nat),j<xs.length→j<e.length→pv (xs.take (j+1)) (e.take (j+1))=pv (xs.take j) (e.take j)*xs.getD j 0^(e.getD j 0).toNat
 |x::xs,a::e,0,_,_=>by simp[pv,Rat.mul_one,Rat.one_mul]
 |x::xs,a::e,j+1,h1,h2=>by
  simp only[List.take_succ_cons,pv,z9I];rw[pv_take xs e j (by simpa using h1) (by simpa using h2)];grind
 |[],_,_,h,_=>by simp at h
 |_::_,[],_,_,h=>by simp at h
theorem ev_snoc (xs:List Rat) (l:TL) (x:Rat×Mo):Mp.ev xs (l++[x])=Mp.ev xs l+x.1*Mp.pv xs x.2:=by
 unfold Mp.ev;rw[Sf_app,Sf_cons,Sf_nil,Rat.add_zero]
end P
abbrev FZt:Nat:=50
abbrev LZ (l:List Rat):D:=.list FZt 4 (l.map qZ)
abbrev zF0:D:=.agg [.bool false,.list 3 1 [],.bool false,.list 3 1 []]
theorem LP {l:List Rat}{i:Nat} (h:i<l.length):(l.map qZ).getD i default = .agg [hZ (l.getD i 0).num,lZ (l.getD i 0).num,hZ ((l.getD i 0).den:Int),lZ ((l.getD i 0).den:Int)]:=by
 simp only[z91,z9B,z9P h];rfl
theorem LQ (i:Int) (hi:0≤i∧i≤9223372036854775807):Con Tryz.prog AN 37 [J i] (qZ (i:Rat)):=by
 refine zcu.con rfl (by simp) ?_;(repeat first|with_reducible refine kp [0,2] ?_|simp only[kV,simprocAttr,ab,aP]|refine aN ?_);refine⟨_,cx (jT i hi),ulc ?_⟩;(repeat first|simp only[kV,simprocAttr,ab]|refine aN ?_);refine⟨_,cx (jT 1 (by omega)),ulc ?_⟩;(repeat first|with_reducible refine kp [2] ?_|simp only[kV,simprocAttr,ab,af,ai,aq,ah]|refine aN ?_);rfl
theorem LR (l:Mp.TL) (xs:List Rat){a q p:Nat} (hw:Mp.Wd xs.length l) (he:∀x∈l,∀e∈x.2,0≤e∧e≤80) (hb:∀x∈l,Bq a x.1) (hx:∀x∈xs,Bq q x) (h4:xs.length≤4) (hl:l.length≤1300) (hq:0<q) (hp:1301*(a+320*q+2)≤p) (hp2:p≤2048000000000) :
  Con Tryz.prog AN 28 [MZ l,LZ xs] (qZ (Mp.ev xs l)):=by
 have c0:=LQ 0 (by omega);rw[show ((0:Int):Rat)=0 from rfl] at c0;have hxi:∀j,Bq q (xs.getD j 0):=fun j=>by
  by_cases hk:j<xs.length
  ·have:xs.getD j 0=xs[j]:=by simp[hk]
   rw[this];exact hx _ (z9a hk)
  ·have:xs.getD j 0=0:=by simp[z80 (Nat.le_of_not_lt hk)]
   rw[this];exact Bq.zero _ hq
 refine Se.con rfl (by simp) ?_;(repeat first|with_reducible refine kp [0,1,4] ?_|simp only[kV,simprocAttr,ab,ax]|refine aN ?_);refine⟨_,cx (c0),ulc ?_⟩;(repeat first|simp only[kV,simprocAttr,ab]|refine aN ?_);refine kp [0,1,4,5] ?_;(repeat first|simp only[kV,simprocAttr,ab]|refine aN ?_);refine kp [0,1,4,5,6] ?_;(repeat first|simp only[kV,simprocAttr,ab]|refine aN ?_);refine aB (ι:=Nat) (fun i=>i≤l.length∧Bq (i*(a+320*q+1)+1) (Mp.ev xs (l.take i))) (fun i=>⟨ar [(0,.p (MZ l)),(1,.p (LZ xs)),(4,.ptr 4 0 0),(5,.ptr 5 0 0),(6,.p (J i))],au [(4,⟨FZt,4,.box (.p zF0),false⟩),(5,⟨FZt,4,.box (.p (qZ (Mp.ev xs (l.take i)))),false⟩)]⟩) (fun i=>l.length-i) 0 ⟨z9O _,Bq.zero _ (by omega)⟩ (Sub.toG [0,1,4,5,6] [7]) ?_;rintro i ⟨hi,hs⟩;by_cases h:i<l.length
 ·have hI:(i:Int)<(l.length:Int):=by omega
  have g1:=fG h;have hxm:=cO h;have hbx:=hb _ hxm;have hwx:=hw _ hxm;have hex:∀k,0≤(zt l i).2.getD k 0∧(zt l i).2.getD k 0≤80:=fun k=>by
   by_cases hk:k<(zt l i).2.length
   ·have:(zt l i).2.getD k 0=(zt l i).2[k]:=by simp[hk]
    rw[this];exact he _ hxm _ (z9a hk)
   ·have:(zt l i).2.getD k 0=0:=by simp[z80 (Nat.le_of_not_lt hk)]
    rw[this];omega
  have hst:Mp.ev xs (l.take (i+1))=Mp.ev xs (l.take i)+(zt l i).1*Mp.pv xs (zt l i).2:=by rw[jN h,P.ev_snoc]
  generalize Mp.ev xs (l.take i)=sm at *;generalize zt l i=x at *;obtain⟨c,e⟩:=x;simp only at hbx hwx hex hst;have key:∀j k:Nat,j≤4→k≤80→(j<4∨k=0)→a+q*(80*j+k)≤a+320*q:=fun j k h1 h2 h3=>by
   have:q*(80*j+k)≤q*320:=z9d _ (by omega);omega
  (repeat first|with_reducible refine kp [0,1,4,5,6,14] ?_|simp only[kV,simprocAttr,ab,hI]|refine aN ?_);(try simp only[kV,simprocAttr,ab,hI,g1,h]);refine ulk ?_;(repeat first|simp only[kV,simprocAttr,ab,hI,g1,h]|refine aN ?_);refine kp [0,1,4,5,6] ?_;(repeat first|simp only[kV,simprocAttr,ab,hI,g1,h]|refine aN ?_);refine kp [0,1,4,5,6,7] ?_;(repeat first|simp only[kV,simprocAttr,ab,hI,g1,h]|refine aN ?_);refine kp [0,1,4,5,6,7,8] ?_;(repeat first|simp only[kV,simprocAttr,ab,hI,g1,h]|refine aN ?_);refine aB (ι:=Nat) (fun j=>j≤xs.length∧Bq (a+q*(80*j)) (c*Mp.pv (xs.take j) (e.take j))) (fun j=>⟨ar [(0,.p (MZ l)),(1,.p (LZ xs)),(4,.ptr 4 0 0),(5,.ptr 5 0 0),(6,.p (J i)),(7,.ptr 7 0 0),(8,.p (J j))],au [(4,⟨FZt,4,.box (.p zF0),false⟩),(5,⟨FZt,4,.box (.p (qZ sm)),false⟩),(7,⟨FZt,4,.box (.p (qZ (c*Mp.pv (xs.take j) (e.take j)))),false⟩)]⟩) (fun j=>xs.length-j) 0 ⟨z9O _,by simpa[Mp.pv,Rat.mul_one] using hbx⟩ (by rw[show c*Mp.pv (xs.take 0) (e.take 0)=c by simp[Mp.pv,Rat.mul_one]];exact (Sub.toG [0,1,4,5,6,7,8] [])) ?_;rintro j ⟨hj,hbj⟩;by_cases h':j<xs.length
  ·have hJ:(j:Int)<(xs.length:Int):=by omega
   have hje:j<e.length:=by omega
   have hJe:(j:Int)<(e.length:Int):=by omega
   have g2:=dO hje;have g3:=LP h';have hxj:=hxi j;have hej:=hex j;have hpt:=P.pv_take xs e j h' hje;generalize Mp.pv (xs.take j) (e.take j)=w at *;generalize hxx:xs.getD j 0=z at *;generalize hee:e.getD j 0=n at *;(repeat first|with_reducible refine kp [0,1,4,5,6,7,8,25] ?_|simp only[kV,simprocAttr,ab,hJ]|refine aN ?_);refine ulk ?_;(repeat first|simp only[kV,simprocAttr,ab,hJ]|refine aN ?_);refine kp [0,1,4,5,6,7,8] ?_;(repeat first|simp only[kV,simprocAttr,ab,hJ]|refine aN ?_);refine kp [0,1,4,5,6,7,8,9] ?_;(repeat first|simp only[kV,simprocAttr,ab,hJ]|refine aN ?_);refine aB (ι:=Nat) (fun k=>(k:Int)≤n∧Bq (a+q*(80*j+k)) (c*w*z^k)) (fun k=>⟨ar [(0,.p (MZ l)),(1,.p (LZ xs)),(4,.ptr 4 0 0),(5,.ptr 5 0 0),(6,.p (J i)),(7,.ptr 7 0 0),(8,.p (J j)),(9,.p (J k))],au [(4,⟨FZt,4,.box (.p zF0),false⟩),(5,⟨FZt,4,.box (.p (qZ sm)),false⟩),(7,⟨FZt,4,.box (.p (qZ (c*w*z^k))),false⟩)]⟩) (fun k=>(n-k).toNat) 0 ⟨by omega,by simpa[Rat.pow_zero,Rat.mul_one] using hbj⟩ (by rw[Rat.pow_zero,Rat.mul_one];exact (Sub.toG [0,1,4,5,6,7,8,9] [])) ?_;rintro k ⟨hk,hbk⟩;by_cases h2:(k:Int)<n
   ·have hk1:=key j k (by omega) (by omega) (.inl (by omega));have hbn:Bq (a+q*(80*j+(k+1))) (c*w*z^(k+1)):=by
     rw[Rat.pow_succ,←Rat.mul_assoc,show a+q*(80*j+(k+1))=a+q*(80*j+k)+q by rw[←Nat.add_assoc (80*j),Nat.mul_succ,←Nat.add_assoc]];exact kH hbk hxj
    have cm:=pk (c*w*z^k) z p (hbk.mono (by omega)) (hxj.mono (by omega)) hp2;have hps:c*w*z^k*z=c*w*z^(k+1):=by rw[Rat.pow_succ,←Rat.mul_assoc]
    rw[hps] at cm;(repeat first|with_reducible refine kp [0,1,4,5,6,7,8,9,37] ?_|simp only[kV,simprocAttr,ab,hI,g1,h,hJe,g2,hje,h2]|refine aN ?_);(try simp only[kV,simprocAttr,ab,hI,g1,h,hJ,g3,h',pn]);refine ulk ?_;(repeat first|with_reducible refine kp [0,1,4,5,6,7,8,9] ?_|simp only[kV,simprocAttr,ab,hI,g1,h,hJ,g3,h',pn]|refine aN ?_);refine⟨_,cx (cm),ulc ?_⟩;(repeat first|with_reducible refine kp [0,1,4,5,6,7,8,9] ?_|simp only[kV,simprocAttr,ab]|refine aN ?_);exact⟨k+1,⟨by omega,hbn⟩,(Sub.toG [0,1,4,5,6,7,8,9] []),by omega⟩
   ·obtain rfl:n=(k:Int):=by omega
    have hk1:=key j k (by omega) (by omega) (.inl (by omega));have hnx:c*Mp.pv (xs.take (j+1)) (e.take (j+1))=c*w*z^k:=by rw[hpt,Int.toNat_natCast,←Rat.mul_assoc]
    (repeat first|with_reducible refine kp [0,1,4,5,6,7,8,9,37] ?_|simp only[kV,simprocAttr,ab,hI,g1,h,hJe,g2,hje,h2]|refine aN ?_);refine ulk ?_;(repeat first|with_reducible refine kp [0,1,4,5,6,7,8] ?_|simp only[kV,simprocAttr,ab,h2]|refine aN ?_);refine⟨j+1,⟨h',?_⟩,by rw[hnx];exact (Sub.toG [0,1,4,5,6,7,8] []),by omega⟩;rw[hnx];refine hbk.mono ?_;have:q*(80*j+k)≤q*(80*(j+1)):=z9d _ (by omega);omega
  ·have hJ:¬ (j:Int)<(xs.length:Int):=by omega
   obtain rfl:j=xs.length:=by omega
   rw[z9x,z93 (by omega)] at hbj;have hk1:=key xs.length 0 h4 (by omega) (.inr rfl);have hbt:Bq (a+320*q) (c*Mp.pv xs e):=hbj.mono hk1;have hin:(i+1)*(a+320*q+1)≤1300*(a+320*q+1):=z92 _ (by omega);rw[z8Z] at hin;have cs:=vj sm (c*Mp.pv xs e) p (hs.mono (by omega)) (hbt.mono (by omega)) hp2;have hsn:=rm hs hbt;rw[←hst] at cs hsn;rw[z9x,z93 (by omega)];generalize c*Mp.pv xs e=ce at *;(repeat first|with_reducible refine kp [0,1,4,5,6,7,8,25] ?_|simp only[kV,simprocAttr,ab,hJ]|refine aN ?_);refine ulk ?_;(repeat first|with_reducible refine kp [0,1,4,5,6,7] ?_|simp only[kV,simprocAttr,ab,hJ]|refine aN ?_);refine⟨_,cx (cs),ulc ?_⟩;(repeat first|with_reducible refine kp [0,1,4,5,6] ?_|simp only[kV,simprocAttr,ab]|refine aN ?_);exact⟨i+1,⟨h,hsn.mono (by rw[z8Z i (a+320*q+1)];omega)⟩,(Sub.toG [0,1,4,5,6] [7]),by omega⟩
 ·have hI:¬ (i:Int)<(l.length:Int):=by omega
  obtain rfl:i=l.length:=by omega
  rw[z9x];(repeat first|with_reducible refine kp [0,1,4,5,6,14] ?_|simp only[kV,simprocAttr,ab,hI]|refine aN ?_);refine ulk ?_;(repeat first|with_reducible refine kp [4,5] ?_|simp only[kV,simprocAttr,ab,af,ai,aq,ah,hI]|refine aN ?_)
end Go.Proofs.YtbnhgnhgbhjkcaaGreat.M
