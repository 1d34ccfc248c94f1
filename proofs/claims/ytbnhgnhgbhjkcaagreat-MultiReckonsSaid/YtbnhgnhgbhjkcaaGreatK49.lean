/- Lemmas. -/
import Derived.Test.YtbnhgnhgbhjkcaaGreatK40
import Derived.Test.YtbnhgnhgbhjkcaaGreatK47
import Derived.Test.YtbnhgnhgbhjkcaaGreatK48
set_option linter.defProp false
set_option linter.unusedSimpArgs false
set_option linter.unusedVariables false
namespace Go.Proofs.YtbnhgnhgbhjkcaaGreat.M
open Go.RowKit
set_option maxRecDepth 20000
set_option maxHeartbeats 2000000
noncomputable def rzA (t:At):Zm:=(qR t.1,t.2)
noncomputable def rzL (l:List At):Mp.TL:=l.map rzA
theorem i6 (l:List At):(rzL l).length=l.length:=List.length_map _
theorem Z8 {l:List At}{i:Nat} (h:i<l.length):zt (rzL l) i=(qR (at0 l i).1,(at0 l i).2):=by simp[zt,rzL,rzA,at0,h]
theorem Gd.wd {l:List At}{n ord:Int} (h:Gd l n ord):Mp.Wd n.toNat (rzL l):=fun x hx=>by
 obtain⟨y,hy,rfl⟩:=List.mem_map.1 hx;have:=(jr (h.ft y hy)).1;show y.2.length=_
 omega
def SzZ (a b:Nat) (l:Mp.TL):Prop:=∃D,0<D∧D≤2^a∧Dz D (2^b) l
theorem rN (l:List At){k:Nat} (h:l.length≤k):SzZ (4000*k) (4000+4000*k) (rzL l):=by
 obtain⟨D,h1,h2,h3⟩:=ms l h;refine⟨D,h1,h2,fun x hx => ?_⟩;obtain⟨y,hy,rfl⟩:=List.mem_map.1 hx;exact h3 (rdA y) (List.mem_map.2 ⟨y,hy,rfl⟩)
def ae:=an @nA (an @nB csZ)
theorem rO (any:Bool) (M:Mem) (a b c d:D) (id off len:Nat):AV.toD any M 20 (.agg [.p a,.p b,.p c,.p d,.slice id off len])=(match M id with
  |some o=>match o.cont with
   |.row l=>if (o.frz||any)&&decide (off+len≤l.length) then some (.agg [a,b,c,d,.list o.T o.sz ((l.drop off).take len)]) else none
   |_=>none
  |none=>none):=by
 simp only[AV.toD,cV];cases M id with
 |none=>rfl
 |some o =>
  obtain⟨T,sz,cont,frz⟩:=o;cases cont with
  |row l=>by_cases hc:((frz||any)&&decide (off+len≤l.length))=true<;>simp only[hc]<;>rfl
  |box v=>rfl
  |junk=>rfl
theorem i7 (any:Bool) (M:Mem) (a:D) (id off len:Nat):AV.toD any M 20 (.agg [.p a,.slice id off len])=(match M id with
  |some o=>match o.cont with
   |.row l=>if (o.frz||any)&&decide (off+len≤l.length) then some (.agg [a,.list o.T o.sz ((l.drop off).take len)]) else none
   |_=>none
  |none=>none):=by
 simp only[AV.toD,cV];cases M id with
 |none=>rfl
 |some o =>
  obtain⟨T,sz,cont,frz⟩:=o;cases cont with
  |row l=>by_cases hc:((frz||any)&&decide (off+len≤l.length))=true<;>simp only[hc]<;>rfl
  |box v=>rfl
  |junk=>rfl
theorem i9 (e:List Int):List.take e.length (e.map (D.int .i64))=e.map (D.int .i64):=by rw[List.take_of_length_le (by simp)]
theorem rP (T U:Nat) (l:List At){n ord:Int} (h:Gd l n ord) (hs:∀t∈l,t.1.length≤9223372036854775807){a b p:Nat} (hz:SzZ a b (rzL l)) (h1:a<p) (h2:b+10<p) (hp:p≤2048000000000) :
  Con Tryz.prog AN 17 [LTa T U l] (MZ (Mp.growL [] (rzL l))):=by
 obtain⟨D,hD0,hD,hdb⟩:=hz;have hDp:D<2^p:=Nat.lt_of_le_of_lt hD (Nat.pow_lt_pow_right (by omega) h1);have h400:=h.len;have hXp:∀i,i≤401→i*2^b<2^p:=fun i hi=>by
  refine Nat.lt_of_le_of_lt (Nat.mul_le_mul_right _ (Nat.le_trans hi (show 401≤2^10 by decide))) ?_;rw[←Nat.pow_add];exact Nat.pow_lt_pow_right (by omega) (by omega)
 have hwd:=h.wd;have hn4:=h.n4;refine NA.conW (A:=[]) rfl (by simp) ?_;(repeat first|simp only[kV,simprocAttr,ae,aZ]|refine aN ?_);refine kp [0] ?_;(repeat first|simp only[kV,simprocAttr,ae,aZ]|refine aN ?_);refine kp [0,3] ?_;(repeat first|simp only[kV,simprocAttr,ae,aZ]|refine aN ?_);refine kp [0,3,4] ?_;(repeat first|simp only[kV,simprocAttr,ae,aZ]|refine aN ?_);refine aG (ι:=Nat) (fun i=>i≤l.length) (fun i=>⟨ai [(0,.p (LTa T U l)),(3,.p (MZ (Mp.growL [] ((rzL l).take i)))),(4,.p (.int .i64 i))],au []⟩) (fun i=>l.length-i) 0 (Nat.zero_le _) ((Sub.revG 3 (MZ []) (by rfl)).tr (Sub.toG [0,3,4] [5,6,29])) ?_;intro i hi;by_cases h':i<l.length
 ·have hI:(i:Int)<(l.length:Int):=by omega
  have g1:=fU (U:=U) h';have hst:=hs _ (fq h');have hii:i<(rzL l).length:=by rw[i6];exact h'
  have hgr:=sE (a:=[]) hii;have hgl:=Mp.growL_len ((rzL l).take i) [];rw[List.length_take,Nat.min_eq_left (by omega)] at hgl;have hgd:=gA (hdb.take i) (Dz.nil (X:=0));rw[List.length_take,Nat.min_eq_left (by omega)] at hgd;have hgw:=Mp.growL_wd (a:=[]) (fun x hx=>by cases hx) (sF hwd i);have hbd:=hdb _ (dg hii);have hbw:=hwd _ (dg hii);rw[Z8 h'] at hgr hbd hbw;have hxi:=hXp (i+1) (by omega);rw[Nat.succ_mul] at hxi;generalize Mp.growL [] ((rzL l).take i)=q at *;generalize at0 l i=t at *;obtain⟨c,e⟩:=t;simp only at hgr hbd hbw hst;have c1:=nw q (qR c,e) hgw hbw hgd hbd (by simp only[List.length_nil] at hgl;omega) (by omega) hDp (by omega) hp;have c0:=tN c hst;have hlen:e.length*8≤140737488355328:=by omega
  have hlen2:e.length≤9223372036854775807:=by omega
  have hlen3:e.length≤1000000000:=by omega
  (repeat first|with_reducible refine kp [0,3,4,10] ?_|simp only[kV,simprocAttr,ae,hI]|refine aN ?_);(try simp only[kV,simprocAttr,ae,hI,g1,h']);refine ulk ?_;(repeat first|with_reducible refine kp [0,3,4] ?_|simp only[kV,simprocAttr,ae,hI,g1,h']|refine aN ?_);refine wq (cxw (B:=[173,3]) (c0)) (ulc ?_);(repeat first|with_reducible refine kp [0,3,4,5] ?_|simp only[kV,simprocAttr,ae,aB,aC,hI,g1,h',hlen,hlen2,rO,kK,i9,Bool.true_or,List.drop_zero]|refine aN ?_);refine wq (cxw (B:=[173,3]) (c1)) (ulc ?_);(repeat first|with_reducible refine kp [0,3,4] ?_|simp only[kV,simprocAttr,ae]|refine aN ?_);exact⟨i+1,h',by rw[hgr];exact (Sub.toG [0,3,4] [5,6,29]),by omega⟩
 ·have hI:¬ (i:Int)<(l.length:Int):=by omega
  obtain rfl:i=l.length:=by omega
  rw[List.take_of_length_le (by rw[i6];omega)];(repeat first|with_reducible refine kp [0,3,4,10] ?_|simp only[kV,simprocAttr,ae,hI]|refine aN ?_);refine ulk ?_;(repeat first|with_reducible refine kp [2,3] ?_|simp only[kV,simprocAttr,ae,ab,ah,af,ac,hI]|refine aN ?_)
set_option maxHeartbeats 4000000
def co (x:Zm) (b:Mp.TL):Mp.TL:=b.map fun y=>(x.1*y.1,Mp.addM x.2 y.2)
theorem zfy (a b:Mp.TL){i:Nat} (h:i<a.length):Mp.mulL (a.take (i+1)) b=Mp.mulL (a.take i) b++co (zt a i) b:=by
 rw[ln h];unfold Mp.mulL;rw[List.flatMap_append];simp[co]
theorem zfz (x:Zm) (b:Mp.TL){j:Nat} (h:j<b.length):co x (b.take (j+1))=co x (b.take j)++[(x.1*(zt b j).1,Mp.addM x.2 (zt b j).2)]:=by
 rw[ln h];unfold co;rw[List.map_append];rfl
theorem oG (a b:Mp.TL):(Mp.mulL a b).length=a.length*b.length:=by
 unfold Mp.mulL;induction a with
 |nil=>simp
 |cons x a ih=>rw[List.flatMap_cons,List.length_append,ih,List.length_map,List.length_cons,Nat.succ_mul,Nat.add_comm]
theorem zfA (x:Zm) (b:Mp.TL):(co x b).length=b.length:=List.length_map _
theorem us {a b:Mp.TL}{D X E Y:Nat} (ha:Dz D X a) (hb:Dz E Y b):Dz (D*E) (X*Y) (Mp.mulL a b):=fun x hx=>by
 obtain⟨y,hy,hx⟩:=List.mem_flatMap.1 hx;obtain⟨z,hz,rfl⟩:=List.mem_map.1 hx;exact (ha y hy).mul (hb z hz)
theorem zfB {a a' b:Mp.TL} (h:∀x∈a',x∈a):∀x∈Mp.mulL a' b,x∈Mp.mulL a b:=fun x hx=>by
 obtain⟨y,hy,hx⟩:=List.mem_flatMap.1 hx;exact List.mem_flatMap.2 ⟨y,h y hy,hx⟩
theorem zfC {a b b':Mp.TL}{x:Zm} (hx:x∈a) (h:∀y∈b',y∈b):∀y∈co x b',y∈Mp.mulL a b:=fun y hy=>by
 obtain⟨z,hz,rfl⟩:=List.mem_map.1 hy;exact List.mem_flatMap.2 ⟨x,hx,List.mem_map.2 ⟨z,h z hz,rfl⟩⟩
def adK (e f:List Int) (k:Nat):List Int:=Mp.addM (e.take k) (f.take k)++e.drop k
theorem zfE {e f:List Int} (h:e.length=f.length):adK e f e.length=Mp.addM e f:=by
 unfold adK;rw[List.take_length,h,List.take_length,List.drop_of_length_le (by omega),List.append_nil]
theorem zfF {e f:List Int}{k:Nat} (h:e.length=f.length) (hk:k≤e.length):(adK e f k).length=e.length:=by
 unfold adK Mp.addM;simp;omega
theorem zfG {e f:List Int}{k:Nat} (h:e.length=f.length) (hk:k<e.length):(adK e f k).getD k 0=e.getD k 0:=by
 unfold adK Mp.addM;have hl:(List.zipWith (· + ·) (e.take k) (f.take k)).length=k:=by simp;omega
 rw[List.getD_eq_getElem?_getD,List.getElem?_append_right (by omega),hl,Nat.sub_self,List.getElem?_drop,Nat.add_zero,←List.getD_eq_getElem?_getD]
theorem zfH {e f:List Int}{k:Nat} (h:e.length=f.length) (hk:k<e.length):(adK e f k).set k (e.getD k 0+f.getD k 0)=adK e f (k+1):=by
 have hf:k<f.length:=by omega
 unfold adK Mp.addM;have hl:(List.zipWith (· + ·) (e.take k) (f.take k)).length=k:=by simp;omega
 rw[List.set_append,if_neg (by omega),hl,Nat.sub_self,List.drop_eq_getElem_cons hk,List.set_cons_zero,List.take_succ_eq_append_getElem hk,List.take_succ_eq_append_getElem hf,List.zipWith_append (by simp;omega)];simp[hk,hf]
theorem zfI (l:List Int) (i:Nat) (x:Int):(l.map (D.int .i64)).set i (.int .i64 x)=(l.set i x).map (D.int .i64):=List.map_set.symm
theorem zfJ (a b:Mp.TL){n Da X Ea Y p:Nat} (hwa:Mp.Wd n a) (hwb:Mp.Wd n b) (ha:Dz Da X a) (hb:Dz Ea Y b) (hl:a.length*b.length≤100000) (hla:a.length≤100000) (hlb:b.length≤100000) (hn:n≤1000) (hD:Da<2^p) (hE:Ea<2^p) (hX:X<2^p) (hY:Y<2^p) (hDE:Da*Ea<2^p) (hXY:(a.length*b.length+1)*(X*Y)<2^p) (hp:p≤2048000000000)
  (hea:∀x∈a,∀e∈x.2,-1000000000≤e∧e≤1000000000) (heb:∀x∈b,∀e∈x.2,-1000000000≤e∧e≤1000000000) :
  Con Tryz.prog AN 20 [MZ a,MZ b] (MZ (Mp.growL [] (Mp.mulL a b))):=by
 have hwm:=hwa.mul hwb;have hdm:=us ha hb;have geD:∀{l:List Int},(∀e∈l,-1000000000≤e∧e≤1000000000)→∀k,-1000000000≤l.getD k 0∧l.getD k 0≤1000000000:=fun {l} h k=>by
  by_cases hk:k<l.length
  ·have:l.getD k 0=l[k]:=by simp[hk]
   rw[this];exact h _ (List.getElem_mem hk)
  ·have:l.getD k 0=0:=by simp[List.getElem?_eq_none (Nat.le_of_not_lt hk)]
   rw[this];omega
 refine Od.conW (A:=[]) rfl (by simp) ?_;(repeat first|simp only[kV,simprocAttr,ae,ax]|refine aN ?_);refine kp [0,1] ?_;(repeat first|simp only[kV,simprocAttr,ae,ax]|refine aN ?_);refine kp [0,1,5] ?_;(repeat first|simp only[kV,simprocAttr,ae,ax]|refine aN ?_);refine kp [0,1,5,6] ?_;(repeat first|simp only[kV,simprocAttr,ae,ax]|refine aN ?_);refine aG (ι:=Nat) (fun i=>i≤a.length) (fun i=>⟨ai [(0,.p (MZ a)),(1,.p (MZ b)),(5,.p (MZ (Mp.growL [] (Mp.mulL (a.take i) b)))),(6,.p (.int .i64 i))],au []⟩) (fun i=>a.length-i) 0 (Nat.zero_le _) ((Sub.revG 5 (MZ []) (by rfl)).tr (Sub.toG [0,1,5,6] [27])) ?_;intro i hi;by_cases h:i<a.length
 ·have hI:(i:Int)<(a.length:Int):=by omega
  have g1:=gJ h;have hst:=zfy a b h;have hxm:=dg h;have hbx:=(ha _ hxm).Bq hD hX;have hwx:=hwa _ hxm;have hex:=geD (hea _ hxm);have hsub:∀y∈Mp.mulL (a.take i) b,y∈Mp.mulL a b:=zfB fun x hx=>List.mem_of_mem_take hx
  have hlen:(Mp.mulL (a.take i) b).length=i*b.length:=by rw[oG,List.length_take,Nat.min_eq_left hi]
  have hmul:(i+1)*b.length≤a.length*b.length:=Nat.mul_le_mul_right _ h;rw[Nat.succ_mul] at hmul;generalize Mp.mulL (a.take i) b=q at *;generalize zt a i=x at *;(repeat first|with_reducible refine kp [0,1,5,6,13] ?_|simp only[kV,simprocAttr,ae,hI]|refine aN ?_);(try simp only[kV,simprocAttr,ae,hI,g1,h]);refine ulk ?_;(repeat first|simp only[kV,simprocAttr,ae,hI,g1,h]|refine aN ?_);refine kp [0,1,5,6] ?_;(repeat first|simp only[kV,simprocAttr,ae,hI,g1,h]|refine aN ?_);refine kp [0,1,5,6,7] ?_;(repeat first|simp only[kV,simprocAttr,ae,hI,g1,h]|refine aN ?_);refine aG (ι:=Nat) (fun j=>j≤b.length) (fun j=>⟨ai [(0,.p (MZ a)),(1,.p (MZ b)),(5,.p (MZ (Mp.growL [] (q++co x (b.take j))))),(6,.p (.int .i64 i)),(7,.p (.int .i64 j))],au []⟩) (fun j=>b.length-j) 0 (Nat.zero_le _) (by rw[show q++co x (b.take 0)=q by simp[co]];exact (Sub.toG [0,1,5,6,7] [27])) ?_;intro j hj;by_cases h':j<b.length
  ·have hJ:(j:Int)<(b.length:Int):=by omega
   have g2:=gJ h';have hst2:=zfz x b h';have hym:=dg h';have hby:=(hb _ hym).Bq hE hY;have hwy:=hwb _ hym;have hey:=geD (heb _ hym);have hrl:(co x (b.take j)).length=j:=by rw[zfA,List.length_take,Nat.min_eq_left hj]
   have hsub2:∀y∈q++co x (b.take j),y∈Mp.mulL a b:=fun y hy=>by
    rcases List.mem_append.1 hy with hy | hy
    ·exact hsub y hy
    ·exact zfC hxm (fun z hz=>List.mem_of_mem_take hz) y hy
   have hnew:((x.1*(zt b j).1,Mp.addM x.2 (zt b j).2):Zm)∈Mp.mulL a b:=List.mem_flatMap.2 ⟨x,hxm,List.mem_map.2 ⟨zt b j,hym,rfl⟩⟩;have hgw:=Mp.growL_wd (a:=[]) (l:=q++co x (b.take j)) (n:=n) (fun x hx=>by cases hx) (fun y hy=>hwm y (hsub2 y hy));have hgd:=gA (a:=[]) (l:=q++co x (b.take j)) (D:=Da*Ea) (Y:=X*Y) (fun y hy=>hdm y (hsub2 y hy)) (Dz.nil (X:=0));have hgl:=Mp.growL_len (q++co x (b.take j)) [];have hnl:(q++co x (b.take j)).length=i*b.length+j:=by rw[List.length_append,hlen,hrl]
   rw[hnl] at hgd hgl;have hnd:=hdm _ hnew;have hnw:=hwm _ hnew;have hxyi:(i*b.length+j+1)*(X*Y)≤(a.length*b.length+1)*(X*Y):=Nat.mul_le_mul_right _ (by omega);rw[Nat.succ_mul] at hxyi;have hgrow:Mp.growL [] (q++co x (b.take (j+1)))=Mp.grow (Mp.growL [] (q++co x (b.take j))) (x.1*(zt b j).1,Mp.addM x.2 (zt b j).2):=by rw[hst2,←List.append_assoc,Mp.growL_snoc]
   generalize Mp.growL [] (q++co x (b.take j))=w at *;generalize zt b j=y at *;obtain⟨c,e⟩:=x;obtain⟨d,f⟩:=y;simp only at hbx hwx hex hby hwy hey hnw hnd hgrow;have c1:=zeq c d p hbx hby hp;have c2:=nw w (c*d,Mp.addM e f) hgw hnw hgd hnd (by simp only[List.length_nil] at hgl;omega) (by omega) hDE (by omega) hp;have hl8:e.length*8≤140737488355328:=by omega
   have hl9:e.length≤9223372036854775807:=by omega
   have hef:e.length=f.length:=by omega
   (repeat first|with_reducible refine kp [0,1,5,6,7,19] ?_|simp only[kV,simprocAttr,ae,hJ]|refine aN ?_);(try simp only[kV,simprocAttr,ae,hJ,hI,g1,h,g2,h',hl8,hl9]);refine ulk ?_;(repeat first|simp only[kV,simprocAttr,ae,hJ,hI,g1,h,g2,h',hl8,hl9]|refine aN ?_);refine kp [0,1,5,6,7] ?_;(repeat first|simp only[kV,simprocAttr,ae,hJ,hI,g1,h,g2,h',hl8,hl9]|refine aN ?_);refine kp [0,1,5,6,7,8] ?_;(repeat first|simp only[kV,simprocAttr,ae,hJ,hI,g1,h,g2,h',hl8,hl9]|refine aN ?_);refine kp [0,1,5,6,7,8,9] ?_;(repeat first|simp only[kV,simprocAttr,ae,hJ,hI,g1,h,g2,h',hl8,hl9]|refine aN ?_);refine aG (ι:=Nat) (fun k=>k≤e.length) (fun k=>⟨ai [(0,.p (MZ a)),(1,.p (MZ b)),(5,.p (MZ w)),(6,.p (.int .i64 i)),(7,.p (.int .i64 j)),(8,.slice 27 0 e.length),(9,.p (.int .i64 k))],
    au [(27,⟨3,1,.row ((adK e f k).map (D.int .i64)),false⟩)]⟩) (fun k=>e.length-k) 0 (Nat.zero_le _) (Sub.toG [0,1,5,6,7,8,9] []) ?_
   intro k hk;have hal:=zfF hef hk;by_cases h2:k<e.length
   ·have hK:(k:Int)<(e.length:Int):=by omega
    have hK2:(k:Int)<(f.length:Int):=by omega
    have hkf:k<f.length:=by omega
    have g3:((adK e f k).map (D.int .i64)).getD k default = .int .i64 (e.getD k 0):=by rw[dO (by omega),zfG hef h2]
    have g4:=dO hkf;have b1:=hex k;have b2:=hey k;have s1:((adK e f k).map (D.int .i64)).set k (.int .i64 (e.getD k 0+f.getD k 0))=(adK e f (k+1)).map (D.int .i64):=by rw[zfI,zfH hef h2]
    (repeat first|with_reducible refine kp [0,1,5,6,7,8,9,31] ?_|simp only[kV,simprocAttr,ae,hK]|refine aN ?_);(try simp only[kV,simprocAttr,ae,hK,hK2,hJ,g2,h',g3,g4,hkf,h2,hal,s1]);refine ulk ?_;(repeat first|with_reducible refine kp [0,1,5,6,7,8,9] ?_|simp only[kV,simprocAttr,ae,hK,hK2,hJ,g2,h',g3,g4,hkf,h2,hal,s1]|refine aN ?_);exact⟨k+1,h2,(Sub.toG [0,1,5,6,7,8,9] []),by omega⟩
   ·have hK:¬ (k:Int)<(e.length:Int):=by omega
    obtain rfl:k=e.length:=by omega
    rw[zfE hef] at *;have tkE:List.take e.length (Mp.addM e f)=Mp.addM e f:=List.take_of_length_le (by omega);(repeat first|with_reducible refine kp [0,1,5,6,7,8,9,31] ?_|simp only[kV,simprocAttr,ae,hK]|refine aN ?_);(try simp only[kV,simprocAttr,ae,hK,hI,hJ,g1,g2,h,h']);refine ulk ?_;(repeat first|simp only[kV,simprocAttr,ae,hK,hI,hJ,g1,g2,h,h']|refine aN ?_);refine i5 27 _ [0,1,5,6,7,8] (by rfl) ?_;refine ulk ?_;(repeat first|simp only[kV,simprocAttr,ae,hK,hI,hJ,g1,g2,h,h']|refine aN ?_);refine wq (cxw (B:=[173,3]) (c1)) (ulc ?_);(repeat first|simp only[kV,simprocAttr,ae,kK,hal,tkE,rO,i9,Bool.true_or,List.drop_zero,aB,aC]|refine aN ?_);refine wq (cxw (B:=[173,3]) (c2)) (ulc ?_);(repeat first|with_reducible refine kp [0,1,5,6,7] ?_|simp only[kV,simprocAttr,ae]|refine aN ?_);exact⟨j+1,h',by rw[hgrow];exact (Sub.toG [0,1,5,6,7] [27]),by omega⟩
  ·have hJ:¬ (j:Int)<(b.length:Int):=by omega
   obtain rfl:j=b.length:=by omega
   have f1:q++co x (b.take b.length)=Mp.mulL (a.take (i+1)) b:=by rw[List.take_length,hst]
   rw[f1];(repeat first|with_reducible refine kp [0,1,5,6,7,19] ?_|simp only[kV,simprocAttr,ae,hJ]|refine aN ?_);refine ulk ?_;(repeat first|with_reducible refine kp [0,1,5,6] ?_|simp only[kV,simprocAttr,ae,hJ]|refine aN ?_);exact⟨i+1,h,(Sub.toG [0,1,5,6] [27]),by omega⟩
 ·have hI:¬ (i:Int)<(a.length:Int):=by omega
  obtain rfl:i=a.length:=by omega
  rw[List.take_length];(repeat first|with_reducible refine kp [0,1,5,6,13] ?_|simp only[kV,simprocAttr,ae,hI]|refine aN ?_);refine ulk ?_;(repeat first|with_reducible refine kp [4,5] ?_|simp only[kV,simprocAttr,ae,ab,ah,af,ac,hI]|refine aN ?_)
theorem oi:∀{i:Nat}{l m:List Int},l.length=m.length→i<l.length→(∀k,k<i→l.getD k 0=m.getD k 0)→l.getD i 0≠m.getD i 0→Mp.gtL l m=decide (m.getD i 0<l.getD i 0)
 |_,[],_,_,h,_,_=>by simp at h
 |_,_::_,[],hl,_,_,_=>by simp at hl
 |0,a::l,b::m,_,_,_,hne=>by
  have hne':¬ a=b:=hne;rw[Mp.gtL,if_neg hne'];rfl
 |i+1,a::l,b::m,hl,h,hk,hne=>by
  have h0:a=b:=hk 0 (by omega);rw[Mp.gtL,if_pos h0];exact oi (i:=i) (by simpa using hl) (by simpa using h) (fun k hki=>hk (k+1) (by omega)) hne
theorem ol {a b:List Int} (hl:a.length=b.length) (h:∀k,k<a.length→a.getD k 0=b.getD k 0):a=b:=List.ext_getElem hl fun k h1 h2=>by
 have:=h k h1
 rwa[List.getD_eq_getElem?_getD,List.getD_eq_getElem?_getD,List.getElem?_eq_getElem h1,List.getElem?_eq_getElem h2] at this
theorem ld {a:List Int}{k:Nat} (h:k<a.length):(a.reverse.map fun x => -x).getD k 0 = -(a.getD (a.length-1-k) 0):=by
 rw[List.getD_eq_getElem?_getD,List.getElem?_map,List.getElem?_reverse h,List.getD_eq_getElem?_getD,List.getElem?_eq_getElem (by omega)];rfl
theorem zeA {i:Nat}{a b:List Int} (hl:a.length=b.length) (h:i<a.length) (hk:∀k,i<k→k<a.length→a.getD k 0=b.getD k 0) (hne:a.getD i 0≠b.getD i 0) :
  Mp.gtL (a.reverse.map fun x => -x) (b.reverse.map fun x => -x)=decide (a.getD i 0<b.getD i 0):=by
 have e1:(a.reverse.map fun x => -x).getD (a.length-1-i) 0 = -(a.getD i 0):=by rw[ld (by omega),show a.length-1-(a.length-1-i)=i by omega]
 have e2:(b.reverse.map fun x => -x).getD (a.length-1-i) 0 = -(b.getD i 0):=by rw[ld (by omega),show b.length-1-(a.length-1-i)=i by omega]
 rw[oi (i:=a.length-1-i) (by simp[hl]) (by simp;omega) (fun k hki=>by
  rw[ld (by omega),ld (by omega),←hl,hk (a.length-1-k) (by omega) (by omega)]) (by rw[e1,e2];omega),e1,e2]
 congr 1
 apply propext;omega
theorem om {l:List Int}{i:Nat} (h:i<l.length):(l.take (i+1)).sum=(l.take i).sum+l.getD i 0:=by
 rw[List.take_succ_eq_append_getElem h,List.sum_append];simp[h]
theorem jn {l:List Int} (h:∀k,-1000000000≤l.getD k 0∧l.getD k 0≤1000000000):∀{i:Nat},i≤l.length→-1000000000*(i:Int)≤(l.take i).sum∧(l.take i).sum≤1000000000*(i:Int)
 |0,_=>by simp
 |i+1,hi=>by
  have:=jn h (i:=i) (by omega);have h2:=h i;rw[om (by omega)];omega
theorem zeB {a b:List Int}:Mp.ahead 0 a b=Mp.gtL a b:=by unfold Mp.ahead Mp.key;rw[if_pos rfl,if_pos rfl]
theorem zeC {ord:Int}{a b:List Int} (h:ord≠0) (hs:a.sum≠b.sum):Mp.ahead ord a b=decide (b.sum<a.sum):=by
 unfold Mp.ahead Mp.key;rw[if_neg h,if_neg h];split<;>(rw[Mp.gtL,if_neg hs])
theorem zeD {ord:Int}{a b:List Int} (h:ord≠0) (h2:ord≠2) (hs:a.sum=b.sum):Mp.ahead ord a b=Mp.gtL a b:=by
 unfold Mp.ahead Mp.key;rw[if_neg h,if_neg h,if_neg h2,if_neg h2,Mp.gtL,if_pos hs]
theorem zeE {a b:List Int} (hs:a.sum=b.sum):Mp.ahead 2 a b=Mp.gtL (a.reverse.map fun x => -x) (b.reverse.map fun x => -x):=by
 unfold Mp.ahead Mp.key;rw[if_neg (show ¬ (2:Int)=0 by decide),if_neg (show ¬ (2:Int)=0 by decide),if_pos rfl,if_pos rfl,Mp.gtL,if_pos hs]
section
variable (T U:Nat) (ord:Int) (a b:List Int) (hl:a.length=b.length) (hn:a.length≤1000)
include hl hn
theorem zeF (hv:Mp.ahead ord a b=Mp.gtL a b) :
  cw [] (ConX Tryz.prog []) qo (ab (.bool (Mp.ahead ord a b)) [(6,none)]) ⟨ai [(0,.p (.list T 1 (a.map (D.int .i64)))),(1,.p (.list U 1 (b.map (D.int .i64))))],au []⟩:=by
 rw[hv];skip
 (repeat first|simp only[kV,simprocAttr,ae]|refine aN ?_);refine kp [0,1,10] ?_;(repeat first|simp only[kV,simprocAttr,ae]|refine aN ?_);refine aG (ι:=Nat) (fun i=>i≤a.length∧∀k,k<i→a.getD k 0=b.getD k 0) (fun i=>⟨ai [(0,.p (.list T 1 (a.map (D.int .i64)))),(1,.p (.list U 1 (b.map (D.int .i64)))),(10,.p (.int .i64 i))],au []⟩) (fun i=>a.length-i) 0 ⟨Nat.zero_le _,fun k hk=>by omega⟩ (Sub.toG [0,1,10] []) ?_;rintro i ⟨hi,he⟩;by_cases h:i<a.length
 ·have hI:(i:Int)<(a.length:Int):=by omega
  have hI2:(i:Int)<(b.length:Int):=by omega
  have hb:i<b.length:=by omega
  have g1:=dO h;have g2:=dO hb;(repeat first|with_reducible refine kp [0,1,10,64] ?_|simp only[kV,simprocAttr,ae,hI]|refine aN ?_);(try simp only[kV,simprocAttr,ae,hI,hI2,g1,g2,h,hb]);refine ulk ?_;(repeat first|with_reducible refine kp [0,1,10,75] ?_|simp only[kV,simprocAttr,ae,hI,hI2,g1,g2,h,hb]|refine aN ?_);by_cases hc:a.getD i 0=b.getD i 0
  ·refine⟨fun h1=>absurd h1 (by rw[hc];simp),fun _ => ?_⟩;(try simp only[kV,simprocAttr,ae]);refine ulk ?_;(repeat first|with_reducible refine kp [0,1,10] ?_|simp only[kV,simprocAttr,ae]|refine aN ?_);exact⟨i+1,⟨h,fun k hk=>by
    by_cases hki:k<i
    ·exact he k hki
    ·obtain rfl:k=i:=by omega
     exact hc⟩,(Sub.toG [0,1,10] []),by omega⟩
  ·refine⟨fun _ => ?_,fun h1=>absurd h1 (by rw[decide_eq_false hc];simp)⟩;rw[oi hl h he hc];(try simp only[kV,simprocAttr,ae,hI,hI2,g1,g2,h,hb]);refine ulk ?_;(repeat first|with_reducible refine kp [6] ?_|simp only[kV,simprocAttr,ae,ab,ah,af,ac,hI,hI2,g1,g2,h,hb]|refine aN ?_)
 ·have hI:¬ (i:Int)<(a.length:Int):=by omega
  have heq:a=b:=ol hl fun k hk=>he k (by omega)
  have hf:Mp.gtL a b=false:=by rw[heq];exact Mp.gtL_self _
  rw[hf];(repeat first|with_reducible refine kp [0,1,10,64] ?_|simp only[kV,simprocAttr,ae,hI]|refine aN ?_);refine ulk ?_;(repeat first|with_reducible refine kp [6] ?_|simp only[kV,simprocAttr,ae,ab,ah,af,ac,hI]|refine aN ?_)
theorem tO (ho:ord=0∨a.sum=b.sum) :
  cw [] (ConX Tryz.prog []) qp (ab (.bool (Mp.ahead ord a b)) [(6,none)]) ⟨ai [(0,.p (.list T 1 (a.map (D.int .i64)))),(1,.p (.list U 1 (b.map (D.int .i64)))),(2,.p (.int .i64 ord))],au []⟩:=by
 by_cases h2:ord=2
 ·subst h2;have hs:a.sum=b.sum:=ho.resolve_left (by decide);rw[zeE hs];skip
  (repeat first|with_reducible refine kp [0,1,35] ?_|simp only[kV,simprocAttr,ae]|refine aN ?_);refine ulk ?_;(repeat first|simp only[kV,simprocAttr,ae]|refine aN ?_);refine kp [0,1,9] ?_;(repeat first|simp only[kV,simprocAttr,ae]|refine aN ?_);refine aG (ι:=Nat) (fun i=>i≤a.length∧∀k,i≤k→k<a.length→a.getD k 0=b.getD k 0) (fun i=>⟨ai [(0,.p (.list T 1 (a.map (D.int .i64)))),(1,.p (.list U 1 (b.map (D.int .i64)))),(9,.p (.int .i64 ((i:Int)-1)))],au []⟩) (fun i=>i) a.length ⟨Nat.le_refl _,fun k hk hk2=>by omega⟩ (Sub.toG [0,1,9] []) ?_;rintro i ⟨hi,he⟩;cases i with
  |zero =>
   have hI:decide ((0:Int)≤0-1)=false:=by decide
   have heq:a=b:=ol hl fun k hk=>he k (by omega) hk
   have hf:Mp.gtL (a.reverse.map fun x => -x) (b.reverse.map fun x => -x)=false:=by rw[heq];exact Mp.gtL_self _
   rw[hf];(repeat first|with_reducible refine kp [0,1,9,40] ?_|simp only[kV,simprocAttr,ae,hI]|refine aN ?_);refine ulk ?_;(repeat first|with_reducible refine kp [6] ?_|simp only[kV,simprocAttr,ae,ab,ah,af,ac,hI]|refine aN ?_)
  |succ i =>
   have e0:((i+1:Nat):Int)-1=(i:Int):=by omega
   have e1:(0:Int)≤(i:Int):=by omega
   have e2:(i:Int).toNat=i:=by omega
   have h:i<a.length:=by omega
   have hb:i<b.length:=by omega
   have hI:(i:Int)<(a.length:Int):=by omega
   have hI2:(i:Int)<(b.length:Int):=by omega
   have g1:=dO h;have g2:=dO hb;rw[e0];(repeat first|with_reducible refine kp [0,1,9,40] ?_|simp only[kV,simprocAttr,ae,e0,e1]|refine aN ?_);(try simp only[kV,simprocAttr,ae,e0,e1,e2,hI,hI2,g1,g2,h,hb]);refine ulk ?_;(repeat first|with_reducible refine kp [0,1,9,51] ?_|simp only[kV,simprocAttr,ae,e0,e1,e2,hI,hI2,g1,g2,h,hb]|refine aN ?_);by_cases hc:a.getD i 0=b.getD i 0
   ·refine⟨fun h1=>absurd h1 (by rw[hc];simp),fun _ => ?_⟩;(try simp only[kV,simprocAttr,ae]);refine ulk ?_;(repeat first|with_reducible refine kp [0,1,9] ?_|simp only[kV,simprocAttr,ae]|refine aN ?_);exact⟨i,⟨by omega,fun k hk hk2=>by
     by_cases hki:i<k
     ·exact he k (by omega) hk2
     ·obtain rfl:k=i:=by omega
      exact hc⟩,(Sub.toG [0,1,9] []),by omega⟩
   ·refine⟨fun _ => ?_,fun h1=>absurd h1 (by rw[decide_eq_false hc];simp)⟩;rw[zeA hl h (fun k hk hk2=>he k (by omega) hk2) hc];(try simp only[kV,simprocAttr,ae,e0,e1,e2,hI,hI2,g1,g2,h,hb]);refine ulk ?_;(repeat first|with_reducible refine kp [6] ?_|simp only[kV,simprocAttr,ae,ab,ah,af,ac,e0,e1,e2,hI,hI2,g1,g2,h,hb]|refine aN ?_)
 ·have hv:Mp.ahead ord a b=Mp.gtL a b:=by
   by_cases h0:ord=0
   ·rw[h0,zeB]
   ·exact zeD h0 h2 (ho.resolve_left h0)
  have ht:=zeF T U ord a b hl hn hv;skip
  (repeat first|with_reducible refine kp [0,1,35] ?_|simp only[kV,simprocAttr,ae,h2]|refine aN ?_);refine ulk ?_;(repeat first|simp only[kV,simprocAttr,ae,h2]|refine aN ?_);exact⟨_,(Sub.toG [0,1] []),ht⟩
theorem zeG (A:List TypeId) (ho:0≤ord) (ha:∀k,-1000000000≤a.getD k 0∧a.getD k 0≤1000000000) (hb:∀k,-1000000000≤b.getD k 0∧b.getD k 0≤1000000000):Con Tryz.prog A 89 [.list T 1 (a.map (D.int .i64)),.list U 1 (b.map (D.int .i64)),.int .i64 ord] (.bool (Mp.ahead ord a b)):=by
 refine Con.mono (A:=[]) ?_ (by simp);by_cases h0:ord=0
 ·have ht:=tO T U ord a b hl hn (.inl h0);have h0':¬ 0<ord:=by omega
  refine qr.con rfl (by simp) ?_;(repeat first|with_reducible refine kp [0,1,2,12] ?_|simp only[kV,simprocAttr,ae,bO,h0']|refine aN ?_);refine ulk ?_;(repeat first|simp only[kV,simprocAttr,ae,h0']|refine aN ?_);exact⟨_,(Sub.toG [0,1,2] []),ht⟩
 ·have h0':0<ord:=by omega
  refine qr.con rfl (by simp) ?_;(repeat first|with_reducible refine kp [0,1,2,12] ?_|simp only[kV,simprocAttr,ae,bO,h0']|refine aN ?_);refine ulk ?_;(repeat first|simp only[kV,simprocAttr,ae,h0']|refine aN ?_);refine kp [0,1,2,7] ?_;(repeat first|simp only[kV,simprocAttr,ae,h0']|refine aN ?_);refine kp [0,1,2,7,8] ?_;(repeat first|simp only[kV,simprocAttr,ae,h0']|refine aN ?_);refine aG (ι:=Nat) (fun i=>i≤a.length) (fun i=>⟨ai [(0,.p (.list T 1 (a.map (D.int .i64)))),(1,.p (.list U 1 (b.map (D.int .i64)))),(2,.p (.int .i64 ord)),(7,.p (.int .i64 ((a.take i).sum-(b.take i).sum))),(8,.p (.int .i64 i))],au []⟩) (fun i=>a.length-i) 0 (Nat.zero_le _) (Sub.toG [0,1,2,7,8] []) ?_;intro i hi;by_cases h:i<a.length
  ·have hI:(i:Int)<(a.length:Int):=by omega
   have hI2:(i:Int)<(b.length:Int):=by omega
   have hbb:i<b.length:=by omega
   have g1:=dO h;have g2:=dO hbb;have b1:=ha i;have b2:=hb i;have b3:=jn ha hi;have b4:=jn hb (i:=i) (by omega);have e1:(a.take i).sum-(b.take i).sum+(a.getD i 0-b.getD i 0)=(a.take (i+1)).sum-(b.take (i+1)).sum:=by rw[om h,om hbb];omega
   have b5:=jn ha (i:=i+1) (by omega);have b6:=jn hb (i:=i+1) (by omega);(repeat first|with_reducible refine kp [0,1,2,7,8,16] ?_|simp only[kV,simprocAttr,ae,hI]|refine aN ?_);(try simp only[kV,simprocAttr,ae,hI,hI2,g1,g2,h,hbb,e1]);refine ulk ?_;(repeat first|with_reducible refine kp [0,1,2,7,8] ?_|simp only[kV,simprocAttr,ae,hI,hI2,g1,g2,h,hbb,e1]|refine aN ?_);exact⟨i+1,h,(Sub.toG [0,1,2,7,8] []),by omega⟩
  ·have hI:¬ (i:Int)<(a.length:Int):=by omega
   obtain rfl:i=a.length:=by omega
   rw[List.take_length,hl,List.take_length];rw[←hl];(repeat first|with_reducible refine kp [0,1,2,7,8,16] ?_|simp only[kV,simprocAttr,ae,hI]|refine aN ?_);refine ulk ?_;(repeat first|with_reducible refine kp [0,1,2,7,31] ?_|simp only[kV,simprocAttr,ae,hI]|refine aN ?_);by_cases hs:a.sum=b.sum
   ·have hs0:a.sum-b.sum=0:=by omega
    have ht:=tO T U ord a b hl hn (.inr hs);refine⟨fun h1=>absurd h1 (by simp[hs0]),fun _ => ?_⟩;(try simp only[kV,simprocAttr,ae]);refine ulk ?_;(repeat first|simp only[kV,simprocAttr,ae]|refine aN ?_);exact⟨_,(Sub.toG [0,1,2] []),ht⟩
   ·have hs0:¬ a.sum-b.sum=0:=by omega
    refine⟨fun _ => ?_,fun h1=>absurd h1 (by simp[hs0])⟩;have e5:(0<a.sum-b.sum)=(b.sum<a.sum):=propext (by omega);rw[zeC h0 hs];(try simp only[kV,simprocAttr,ae,e5]);refine ulk ?_;(repeat first|with_reducible refine kp [6] ?_|simp only[kV,simprocAttr,ae,ab,ah,af,ac,e5]|refine aN ?_)
end
end Go.Proofs.YtbnhgnhgbhjkcaaGreat.M
