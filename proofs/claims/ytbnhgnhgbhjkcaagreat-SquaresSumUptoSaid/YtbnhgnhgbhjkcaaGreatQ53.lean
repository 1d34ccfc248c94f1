/- Lemmas. -/
import Derived.Test.YtbnhgnhgbhjkcaaGreatQ52
import Derived.Test.YtbnhgnhgbhjkcaaGreatQ47
import Derived.Test.YtbnhgnhgbhjkcaaGreatQ32
import Derived.Test.YtbnhgnhgbhjkcaaGreatQ51
set_option linter.defProp false
set_option linter.unusedSectionVars false
set_option linter.unusedSimpArgs false
set_option linter.unusedVariables false
namespace Go.Proofs.YtbnhgnhgbhjkcaaGreat.Mp
set_option linter.unusedSimpArgs false
theorem Ex.pos {b:Int}{l:TL} (h:Ex 0 b l):Pos l:=fun x hx e he=>(h x hx e he).1
end Go.Proofs.YtbnhgnhgbhjkcaaGreat.Mp
namespace Go.Proofs.YtbnhgnhgbhjkcaaGreat.M
open Go.RowKit
noncomputable def sqP (s:Sq):Mp.TL:=Mp.growL [] (rzL s.2)
noncomputable def sqM (s:Sq):Mp.TL:=Mp.growL [] (Mp.mulL (sqP s) (sqP s))
noncomputable def sqZ (s:Sq):Mp.TL:=Mp.growL [] (bV (qR s.1) (sqM s))
noncomputable def totZ (l:List Sq):Nat→Mp.TL
 |0=>[]
 |i+1=>Mp.growL (totZ l i) (sqZ (sq0 l i))
theorem nK (f:Mp.Mo→Rat) (k:Rat):∀l:Mp.TL,Mp.Sf f (bV k l)=k*Mp.Sf f l
 |[]=>by rw[Mp.Sf_nil,Rat.mul_zero];rfl
 |x::l=>by
  have:=nK f k l;unfold bV at this ⊢;rw[z89,Mp.Sf_cons,Mp.Sf_cons,this];grind
theorem kS (k:Rat) (l:Mp.TL) (e:Mp.Mo):Mp.cf (bV k l) e=k*Mp.cf l e:=nK _ k l
theorem Un (k:Rat) (m:Nat) (l:Mp.TL):(bV k l).map (Mp.padT m)=bV k (l.map (Mp.padT m)):=by
 unfold bV;rw[List.map_map,List.map_map];rfl
theorem Uo (k:Rat) (l:List Tm):tl (timT k l)=bV k (tl l):=by
 unfold tl timT bV;rw[List.map_map,List.map_map];rfl
theorem sd (l:Mp.TL) (e:Mp.Mo):Mp.cf (Mp.growL [] l) e=Mp.cf l e:=by rw[Mp.growL_cf,Mp.cf_nil,Rat.zero_add]
theorem nL (xs:List Rat) (a l:Mp.TL):Mp.ev xs (Mp.growL a l)=Mp.ev xs a+Mp.ev xs l:=by
 unfold Mp.ev;rw[Mp.Sf_eq (Mp.pv xs) (l:=Mp.growL a l) (m:=a++l) (fun e=>by rw[Mp.growL_cf,Mp.cf_app]),Mp.Sf_app]
theorem Up (xs:List Rat) (k:Rat) (l:Mp.TL):Mp.ev xs (bV k l)=k*Mp.ev xs l:=nK _ k l
theorem nM (xs:List Rat):Mp.ev xs []=0:=rfl
section
variable {s:Sq}{n:Int} (hg:Gd s.2 n 0)
include hg
theorem se:Mp.Wd n.toNat (sqP s):=jP hg
theorem sf:Mp.Ex 0 40 (sqP s):=jQ hg
theorem si:Mp.Wd n.toNat (sqM s):=Mp.growL_wd (fun x hx=>by cases hx) ((jP hg).mul (jP hg))
theorem Uq:Mp.Ex 0 80 (sqM s):=Mp.Ex.nil.growL ((jQ hg).mulL (jQ hg))
theorem nN:Mp.Wd n.toNat (sqZ s):=Mp.growL_wd (fun x hx=>by cases hx) (sN (si hg))
theorem Ur:Mp.Ex 0 80 (sqZ s):=Mp.Ex.nil.growL fun x hx=>by
 obtain⟨y,hy,rfl⟩:=z9Q.1 hx;exact Uq hg y hy
theorem Us (e:Mp.Mo):Mp.cf (tl (sqT s)) e=Mp.cf ((sqZ s).map (Mp.padT (4-n.toNat))) e:=by
 have h2:∀e,Mp.cf (sqM s) e=Mp.cf (Mp.mulL (rzL s.2) (rzL s.2)) e:=fun e=>by
  unfold sqM;rw[sd];exact Mp.cf_mulL (wj hg) (wj hg) e
 have h1:∀e,Mp.cf (sqZ s) e=Mp.cf (bV (qR s.1) (Mp.mulL (rzL s.2) (rzL s.2))) e:=fun e=>by
  unfold sqZ;rw[sd,kS,kS,h2]
 rw[Mp.cf_pad _ h1,Un,kS];unfold sqT gR;rw[iF,Mp.canon_cf,Uo,kS,iF,Mp.canon_cf,S6,Mp.cf_mulL (hg.cf 0) (hg.cf 0),Mp.mulL_pad _ hg.wd hg.wd]
theorem Ut {xs:List Rat}:Mp.ev xs (sqZ s)=qR s.1*(Mp.ev xs (sqP s)*Mp.ev xs (sqP s)):=by
 unfold sqZ sqM;rw[nL,nM,Rat.zero_add,Up,nL,nM,Rat.zero_add,Mp.ev_mul (se hg) (se hg) (sf hg).pos (sf hg).pos]
end
section
variable {l:List Sq}{n:Int} (hg:Gs l n)
include hg
theorem Gs.k4:n.toNat+(4-n.toNat)=4:=by have:=hg.n4;omega
theorem gE:∀i,i≤l.length→Mp.Wd n.toNat (totZ l i)∧Mp.Ex 0 80 (totZ l i)∧Mp.Dst (totZ l i)∧∀e,Mp.cf (tl (bN l i)) e=Mp.cf ((totZ l i).map (Mp.padT (4-n.toNat))) e
 |0,_=>⟨fun x hx=>absurd hx List.not_mem_nil,Mp.Ex.nil,Mp.Dst.nil,fun e=>rfl⟩
 |i+1,hi=>by
  obtain⟨h1,h2,h3,h4⟩:=gE i (by omega);have hd:=(hg.ft _ (dI (by omega:i<l.length))).2.2;refine⟨Mp.growL_wd h1 (nN hd),h2.growL (Ur hd),Mp.growL_dst h3,fun e => ?_⟩;have h5:∀e,Mp.cf (Mp.growL (totZ l i) (sqZ (sq0 l i))) e=Mp.cf (totZ l i++sqZ (sq0 l i)) e:=fun e=>by rw[Mp.growL_cf,Mp.cf_app]
  rw[bN,totZ,Mp.cf_pad _ h5,z9U,Mp.cf_app,iF,Mp.canon_cf,zbJ,Mp.cf_app,h4,Us hd]
theorem Uu:WR n.toNat (bN l l.length)=(Mp.canon 0 (totZ l l.length)).map wz:=by
 have key:∀i,i≤l.length→WR n.toNat (bN l i)=(Mp.canon 0 (totZ l i)).map wz:=fun i hi=>by
  match i,hi with
  |0,_=>rfl
  |i+1,hi =>
   have hd:=(hg.ft _ (dI (by omega:i<l.length))).2.2;refine zcQ hg.k4 0 (L:=bN l i++sqT (sq0 l i)) (gE hg (i+1) hi).1 fun e => ?_
   have h:=(gE hg (i+1) hi).2.2.2 e
   rwa[bN,iF,Mp.canon_cf] at h
 exact key _ (z95 _)
theorem sj (xs:List Rat):∀i,i≤l.length→0≤Mp.ev xs (totZ l i)
 |0,_=>by rw[totZ,nM];exact Rat.le_refl
 |i+1,hi=>by
  have h:=sj xs i (by omega);obtain⟨-,h1,hd⟩:=hg.ft _ (dI (by omega:i<l.length));rw[totZ,nL,Ut hd];have h2:0≤Mp.ev xs (sqP (sq0 l i))*Mp.ev xs (sqP (sq0 l i)):=by
   rcases Rat.le_total (a:=0) (b:=Mp.ev xs (sqP (sq0 l i))) with h | h
   ·exact Rat.mul_nonneg h h
   ·have hn:0≤-Mp.ev xs (sqP (sq0 l i)):=by grind
    have:=Rat.mul_nonneg hn hn
    rwa[show -Mp.ev xs (sqP (sq0 l i)) * -Mp.ev xs (sqP (sq0 l i))=Mp.ev xs (sqP (sq0 l i))*Mp.ev xs (sqP (sq0 l i)) by grind] at this
  have h3:=Rat.mul_nonneg h1 h2;grind
end
set_option linter.unusedSimpArgs false
set_option maxRecDepth 20000
set_option maxHeartbeats 2000000
open Go.RowKit
section
variable (V T U:Nat) (l:List Sq) (n:Int) (hs:∀s∈l,s.1.length≤140737488355328∧Ar s.2)
include hs
theorem UW (hg:Gs l n):Con Tryz.prog AN 73 [LSq V T U l,J n] (SmD (bN l l.length) n 0):=by
 have hl2:=hg.len;have k0:=(zaS n 0).mono (A':=AN) (by simp);refine qB.con rfl (by simp) ?_;(repeat first|with_reducible refine kp [0,1,4] ?_|simp only[kV,simprocAttr,aa,ax]|refine aN ?_);refine⟨_,cx (k0),ulc ?_⟩;(repeat first|simp only[kV,simprocAttr,aa]|refine aN ?_);refine kp [0,1,4,5] ?_;(repeat first|simp only[kV,simprocAttr,aa]|refine aN ?_);refine kp [1,4,5,14,15,16] ?_;(repeat first|simp only[kV,simprocAttr,aa]|refine aN ?_);refine aB (ι:=Nat) (fun i=>i≤l.length) (fun i=>⟨ar [(1,.p (J n)),(4,.ptr 4 0 0),(5,.ptr 5 0 0),(14,.p (LSq V T U l)),(15,.p (J l.length)),(16,.p (J i))],
  au [(4,⟨96,3,.box (.p (SmD [] 0 0)),false⟩),(5,⟨96,3,.box (.p (SmD (bN l i) n 0)),false⟩)]⟩) (fun i=>l.length-i) 0 (z9O _) (Sub.toG [1,4,5,14,15,16] [7,8,9,10,11]) ?_
 intro i hi;by_cases h:i<l.length
 ·have hI:(i:Int)<(l.length:Int):=by omega
  have g1:=jB (T:=T) (U:=U) h;obtain⟨hst,hA⟩:=hs _ (dI h);have hG:=(hg.ft _ (dI h)).2.2;have k3:=NT hg h;have k2:=(nu hG).1;have k1:=zbH (sq0 l i).2 (sq0 l i).2 n 0 hG hG;have kr:=L5 T U (sq0 l i).2 n 0 hG hA.l9 hA.s9;generalize sq0 l i=t at *;obtain⟨c,p⟩:=t;simp only at g1 hst hA k1 k2 kr;(repeat first|with_reducible refine kp [1,4,5,14,15,16,17] ?_|simp only[kV,simprocAttr,aa,hI]|refine aN ?_);(try simp only[kV,simprocAttr,aa,hI,g1,h]);refine ulk ?_;(repeat first|with_reducible refine kp [1,4,5,7,14,15,16] ?_|simp only[kV,simprocAttr,aa,hI,g1,h]|refine aN ?_);refine⟨_,cx (lY c (by omega)),ulc ?_⟩;(repeat first|with_reducible refine kp [1,4,5,7,8,14,15,16] ?_|simp only[kV,simprocAttr,aa]|refine aN ?_);refine⟨_,cx (kr),ulc ?_⟩;(repeat first|with_reducible refine kp [1,4,5,8,10,14,15,16] ?_|simp only[kV,simprocAttr,aa]|refine aN ?_);refine⟨_,cx (k1),ulc ?_⟩;(repeat first|simp only[kV,simprocAttr,aa]|refine aN ?_);refine⟨_,cx (k2),ulc ?_⟩;(repeat first|simp only[kV,simprocAttr,aa]|refine aN ?_);refine⟨_,cx (k3),ulc ?_⟩;(repeat first|with_reducible refine kp [1,4,5,14,15,16] ?_|simp only[kV,simprocAttr,aa]|refine aN ?_);exact⟨i+1,h,(Sub.toG [1,4,5,14,15,16] [7,8,9,10,11]),by omega⟩
 ·have hI:¬ (i:Int)<(l.length:Int):=by omega
  obtain rfl:i=l.length:=by omega
  (repeat first|with_reducible refine kp [1,4,5,14,15,16,17] ?_|simp only[kV,simprocAttr,aa,hI]|refine aN ?_);refine ulk ?_;(repeat first|with_reducible refine kp [4,5] ?_|simp only[kV,simprocAttr,aa,af,ai,aq,ah,hI]|refine aN ?_)
theorem UX (hl:l.length≤9223372036854775807):Con Tryz.prog AN 42 [LSq V T U l,J n] (.tup [LTa 83 3 (ji l n),flt (sM l n).1 (sM l n).2]):=by
 have k0:=uJ V T U l n hl fun s h=>⟨by have:=(hs s h).1;omega,(hs s h).2⟩
 by_cases h:(sM l n).1=0
 ·obtain⟨hg,e⟩:=uG h;have e2:ji l n=WR n.toNat (bN l l.length):=if_pos h;rw[e] at k0;rw[e,e2];obtain⟨b1,b2⟩:=NU hg;have k1:=UW V T U l n hs hg;have tc:=zbP n.toNat (by have:=hg.n4;omega) 0 (bN l l.length) b1 (by decide) (by omega);rw[show ((n.toNat:Nat):Int)=n by have:=hg.n1;omega] at tc;refine qC.con rfl (by simp) ?_;(repeat first|with_reducible refine kp [0,1,5] ?_|simp only[kV,simprocAttr,aa,ax]|refine aN ?_);refine⟨_,cx (k0),ulc ?_⟩;(repeat first|with_reducible refine kp [0,1,5,6,12] ?_|simp only[kV,simprocAttr,aa]|refine aN ?_);refine ulk ?_;(repeat first|with_reducible refine kp [0,1,5] ?_|simp only[kV,simprocAttr,aa]|refine aN ?_);refine⟨_,cx (k1),ulc ?_⟩;(repeat first|simp only[kV,simprocAttr,aa]|refine aN ?_);refine⟨_,cx (tc),ulc ?_⟩;(repeat first|with_reducible refine kp [4,5] ?_|simp only[kV,simprocAttr,aa,af,ai,aq,ah]|refine aN ?_)
 ·have e2:ji l n=[]:=if_neg h;rw[e2];generalize sM l n=f at *;refine qC.con rfl (by simp) ?_;(repeat first|with_reducible refine kp [0,1,5] ?_|simp only[kV,simprocAttr,aa,ax]|refine aN ?_);refine⟨_,cx (k0),ulc ?_⟩;(repeat first|with_reducible refine kp [0,1,5,6,12] ?_|simp only[kV,simprocAttr,aa,h]|refine aN ?_);refine ulk ?_;(repeat first|with_reducible refine kp [4,5] ?_|simp only[kV,simprocAttr,aa,af,ai,aq,ah,h]|refine aN ?_);rfl
end
set_option linter.unusedSimpArgs false
set_option maxRecDepth 20000
set_option maxHeartbeats 2000000
open Go.RowKit
theorem Tk {s:Sq} (h:vsS s=false):s.2.length≤8:=by
 unfold vsS at h;rw[Bool.or_eq_false_iff] at h;exact (zat (by rw[h.1];decide)).1
theorem jl {l:List Sq} (h:vsB l=false):l.length≤20∧∀s∈l,s.2.length≤8:=by
 unfold vsB at h;rw[Bool.or_eq_false_iff] at h;refine⟨Nat.not_lt.1 (of_decide_eq_false h.2),fun s hs=>Tk ?_⟩;have:=List.any_eq_false.1 h.1 s hs;simpa using this
theorem Tl {a b q p n:Nat}{l:Mp.TL}{k:Rat} (h:SzZ a b l) (hw:Mp.Wd n l) (hk:Bq q k) (hl:l.length≤64) (hn:n≤1000) (h1:a+q<p) (h2:b+q+7<p) (hp:p≤2048000000000) :
  Con Tryz.prog AN 76 [MZ l,qZ k] (MZ (Mp.growL [] (bV k l)))∧SzZ (a+q) (b+q+7) (Mp.growL [] (bV k l)):=by
 obtain⟨D,d1,d2,d3⟩:=h;have hkd:Db k.den (2^q) k:=(Db.of_self k).mono (Nat.le_of_lt hk.1);have hke:k.den≤2^q:=Nat.le_of_lt hk.2;have hDE:D*k.den≤2^(a+q):=by rw[z9p];exact z82 d2 hke
 have hX:(l.length+1)*(2^b*2^q)≤2^(b+q+7):=by
  rw[←z9p,z9p 2 (b+q) 7,z8U (2^(b+q)) (2^7)];exact z92 _ (z9E (by omega:_≤65) (by decide))
 refine⟨U8 l k hw d3 hkd (by omega) hn (z9K d2 (pw (by omega))) (pw (by omega)) (z9K hke (pw (by omega))) (pw (by omega)) (z9K hDE (pw h1)) (z9K hX (pw h2)) hp,D*k.den,Nat.mul_pos d1 k.den_pos,hDE,(fp (sL d3 hkd) (Dz.nil (X:=0))).mono ?_⟩;rw[z9o,kZ];exact z9E (z92 _ (Nat.le_succ _)) hX
section
variable {s:Sq}{n:Int} (hg:Gd s.2 n 0) (h8:s.2.length≤8)
include hg h8
theorem Tn:(sqP s).length≤8∧SzZ 32000 36004 (sqP s):=
 ⟨z9E (zcR hg) h8,(tB s.2 h8).P (c:=4) (by rw[lj];exact z9E h8 (by decide))⟩
theorem rU:Con Tryz.prog AN 20 [MZ (sqP s),MZ (sqP s)] (MZ (sqM s))∧SzZ 64000 72025 (sqM s)∧(sqM s).length≤64:=by
 obtain⟨l1,z1⟩:=Tn hg h8;have n4:=hg.n4;obtain⟨k1,k2⟩:=zar z1 z1 (jP hg) (jP hg) (by omega) (by omega) (by omega) (p:=1000000) (by decide) (by decide) (by decide) (by decide) (by decide) (by decide) (by decide) ((jQ hg).mono (by decide) (by decide)) ((jQ hg).mono (by decide) (by decide));refine⟨k1,k2,?_⟩;have h1:=Mp.growL_len (Mp.mulL (sqP s) (sqP s)) [];rw[pI] at h1;have h2:(sqP s).length*(sqP s).length≤8*8:=z82 l1 l1;simp only[List.length_nil,z9o] at h1;exact z9E h1 h2
theorem nI:Con Tryz.prog AN 76 [MZ (sqM s),qZ (qR s.1)] (MZ (sqZ s))∧SzZ 68000 76032 (sqZ s)∧(sqZ s).length≤64:=by
 obtain⟨-,z1,l1⟩:=rU hg h8;have n4:=hg.n4;obtain⟨k1,k2⟩:=Tl z1 (si hg) (iP s.1) l1 (by omega) (p:=1000000) (by decide) (by decide) (by decide);refine⟨k1,k2,?_⟩;have h1:=Mp.growL_len (bV (qR s.1) (sqM s)) [];rw[kZ] at h1;simp only[List.length_nil,z9o] at h1;exact z9E h1 l1
end
section
variable {l:List Sq}{n:Int} (hg:Gs l n) (hv:vsB l=false)
include hg hv
theorem kR:∀i,i≤l.length→SzZ (70000*i) (150000*i) (totZ l i)∧(totZ l i).length≤64*i
 |0,_=>⟨SzZ.nil,z95 0⟩
 |i+1,hi=>by
  obtain⟨h1,h2⟩:=kR i (by omega);obtain⟨v1,v2⟩:=jl hv;have hm:=dI (by omega:i<l.length);have hd:=(hg.ft _ hm).2.2;obtain⟨-,k1,k2⟩:=nI hd (v2 _ hm);have n4:=hg.n4;have h3:=(uy h1 k1 (gE hg i (by omega)).1 (nN hd) (by omega) (by omega) (by omega) (c:=150000*i+80000) (p:=10000000) (by omega) (by omega) (by omega) (by omega) (by decide)).2;refine⟨h3.mono (by omega) (by omega),?_⟩;have h4:=Mp.growL_len (sqZ (sq0 l i)) (totZ l i);rw[totZ];omega
theorem To {i:Nat} (hi:i<l.length):Con Tryz.prog AN 19 [MZ (totZ l i),MZ (sqZ (sq0 l i))] (MZ (totZ l (i+1))):=by
 obtain⟨h1,h2⟩:=kR hg hv i (by omega);obtain⟨v1,v2⟩:=jl hv;have hm:=dI hi;have hd:=(hg.ft _ hm).2.2;obtain⟨-,k1,k2⟩:=nI hd (v2 _ hm);have n4:=hg.n4;exact (uy h1 k1 (gE hg i (by omega)).1 (nN hd) (by omega) (by omega) (by omega) (c:=150000*i+80000) (p:=10000000) (by omega) (by omega) (by omega) (by omega) (by decide)).1
end
theorem Tp (V T U:Nat) (l:List Sq) (n:Int) (hs:∀s∈l,s.1.length≤140737488355328∧Ar s.2) (hg:Gs l n) (hv:vsB l=false):Con Tryz.prog AN 38 [LSq V T U l] (MZ (totZ l l.length)):=by
 obtain⟨v1,v2⟩:=jl hv;refine BS.con rfl (by simp) ?_;(repeat first|simp only[kV,simprocAttr,aa,ab,ac,ae,aP]|refine aN ?_);refine kp [0] ?_;(repeat first|simp only[kV,simprocAttr,aa,ab,ac,ae,aP]|refine aN ?_);refine kp [0,3] ?_;(repeat first|simp only[kV,simprocAttr,aa,ab,ac,ae,aP]|refine aN ?_);refine kp [0,3,4] ?_;(repeat first|simp only[kV,simprocAttr,aa,ab,ac,ae,aP]|refine aN ?_);refine aB (ι:=Nat) (fun i=>i≤l.length) (fun i=>⟨ar [(0,.p (LSq V T U l)),(3,.p (MZ (totZ l i))),(4,.p (J i))],au []⟩) (fun i=>l.length-i) 0 (z9O _) ((Sub.revG 3 (MZ []) (by rfl)).tr (Sub.toG [0,3,4] [5,6])) ?_;intro i hi;by_cases h:i<l.length
 ·have hI:(i:Int)<(l.length:Int):=by omega
  have g1:=jB (T:=T) (U:=U) h;have hm:=dI h;obtain⟨hst,hA⟩:=hs _ hm;have hG:=(hg.ft _ hm).2.2;have h8:=v2 _ hm;have k4:=To hg hv h;have k3:=(nI hG h8).1;have k2:=(rU hG h8).1;have k1:Con Tryz.prog AN 17 [LTa T U (sq0 l i).2] (MZ (sqP (sq0 l i))):=W3 T U (sq0 l i).2 hG hA.s9 (tB _ h8) (p:=1000000) (by decide) (by decide) (by decide);generalize sq0 l i=t at *;obtain⟨c,p⟩:=t;simp only at g1 hst hA k1 k2 k3;(repeat first|with_reducible refine kp [0,3,4,11] ?_|simp only[kV,simprocAttr,aa,ab,ac,ae,hI]|refine aN ?_);(try simp only[kV,simprocAttr,aa,ab,ac,ae,hI,g1,h]);refine ulk ?_;(repeat first|with_reducible refine kp [0,3,4] ?_|simp only[kV,simprocAttr,aa,ab,ac,ae,hI,g1,h]|refine aN ?_);refine⟨_,cx (jG c (by omega)),ulc ?_⟩;(repeat first|with_reducible refine kp [0,3,4,5] ?_|simp only[kV,simprocAttr,aa,ab,ac,ae,hI,g1,h]|refine aN ?_);refine⟨_,cx (k1),ulc ?_⟩;(repeat first|with_reducible refine kp [0,3,4,5,7] ?_|simp only[kV,simprocAttr,aa,ab,ac,ae]|refine aN ?_);refine⟨_,cx (k2),ulc ?_⟩;(repeat first|simp only[kV,simprocAttr,aa,ab,ac,ae]|refine aN ?_);refine⟨_,cx (k3),ulc ?_⟩;(repeat first|simp only[kV,simprocAttr,aa,ab,ac,ae]|refine aN ?_);refine⟨_,cx (k4),ulc ?_⟩;(repeat first|with_reducible refine kp [0,3,4] ?_|simp only[kV,simprocAttr,aa,ab,ac,ae]|refine aN ?_);exact⟨i+1,h,(Sub.toG [0,3,4] [5,6]),by omega⟩
 ·have hI:¬ (i:Int)<(l.length:Int):=by omega
  obtain rfl:i=l.length:=by omega
  (repeat first|with_reducible refine kp [0,3,4,11] ?_|simp only[kV,simprocAttr,aa,ab,ac,ae,hI]|refine aN ?_);refine ulk ?_;(repeat first|with_reducible refine kp [2,3] ?_|simp only[kV,simprocAttr,aa,ab,ac,ae,af,ai,aq,ah,hI]|refine aN ?_)
set_option linter.unusedSimpArgs false
set_option maxRecDepth 20000
set_option maxHeartbeats 1000000
open Go.RowKit
theorem pD:Bq 1 (1:Rat):=⟨by decide,by decide⟩
theorem vC {q:Nat}{x:Rat} (h:Bq q x):∀k:Nat,Bq (q*k+1) (x^k)
 |0=>by rw[Rat.pow_zero];exact pD.mono (by omega)
 |k+1=>by
  rw[Rat.pow_succ];exact (kH (vC h k) h).mono (by rw[Nat.mul_succ];omega)
theorem vD {q E:Nat}:∀(xs:List Rat) (e:Mp.Mo),(∀x∈xs,Bq q x)→(∀a∈e,a≤(E:Int))→Bq (xs.length*(q*E+1)+1) (Mp.pv xs e)
 |[],e,_,_=>by
  cases e<;>(unfold Mp.pv;exact pD.mono (by simp))
 |x::xs,[],h,_=>by
  unfold Mp.pv;exact pD.mono (by omega)
 |x::xs,a::e,h,he=>by
  have h1:=vD xs e (fun y hy=>h y (z9T _ hy)) (fun y hy=>he y (z9T _ hy));have h2:=vC (h x z9X) a.toNat;have h3:=he a z9X;have h4:q*a.toNat≤q*E:=z9d _ (by omega);rw[Mp.pv];refine (kH h2 h1).mono ?_;rw[List.length_cons,z8Z];omega
theorem vE {xs:List Rat}{a b q E:Nat} (hx:∀x∈xs,Bq q x) (hb:xs.length*(q*E+1)+1≤b):∀l:Mp.TL,(∀t∈l,Bq a t.1)→(∀t∈l,∀e∈t.2,e≤(E:Int))→Bq (l.length*(a+b+1)+1) (Mp.ev xs l)
 |[],_,_=>Bq.zero _ (by simp)
 |t::l,h,he=>by
  have h1:=vE hx hb l (fun y hy=>h y (z9T _ hy)) (fun y hy=>he y (z9T _ hy));have h2:=(vD xs t.2 hx (he t z9X)).mono hb;unfold Mp.ev at h1 ⊢;rw[Mp.Sf_cons];refine (rm (kH (h t z9X) h2) h1).mono ?_;rw[List.length_cons,z8Z];omega
abbrev uS (K:CC) (R:List (Nat×AV)) (M:List (Nat×AObj)):Prop:=cw [25] (ConX Tryz.prog AN) K (af (.bool true) [(6,none)]) ⟨ar R,au M⟩
section
variable (V T U W:Nat) (l:List Sq) (n:Int) (ts:List (List UInt8)) (hts:ts.length≤1048576) (hst:∀t∈ts,t.length≤9223372036854775807) (hg:Gs l n) (hv:vsB l=false)
include hts hst hg hv
abbrev u62 (Z:Mp.TL):List (Nat×AV):=[(1,.p (J n)),(2,.p (LSt W ts)),(11,.p (MZ Z))]
theorem zbQ:uS qD (u62 W n ts (totZ l l.length)) []:=by
 have k1:=Xi W ts hts hst;have k2:=UB W ts;obtain⟨z1,z2⟩:=kR hg hv l.length (z95 _);obtain⟨v1,v2⟩:=jl hv;obtain⟨w1,w2,w3,-⟩:=gE hg l.length (z95 _);have hev:=sj hg (ptL ts) l.length (z95 _);generalize totZ l l.length=Z at *;have hpl:=iX ts;have n1:=hg.n1;have n4:=hg.n4;by_cases h0:(pF 0 ts).1=0
 ·rw[if_pos h0] at k1;by_cases hn:(ts.length:Int)=n
  ·cases hb:decide (24<lnW ts 0)
   ·rw[hb] at k2;have hq:∀x∈ptL ts,Bq 4000 x:=fun x hx=>by
     obtain⟨y,hy,rfl⟩:=z9Q.1 hx;exact iP y
    have hc:∀t∈Z,Bq 4000000 t.1:=z1.bq (by omega) (by omega);have k3:=LR Z (ptL ts) (a:=4000000) (q:=4000) (p:=7000000000) (by rwa[show n.toNat=(ptL ts).length by omega] at w1) w2 hc hq (by omega) (by omega) (by decide) (by decide) (by decide);have key:∀a b q p:Nat,(ptL ts).length*(q*80+1)+1≤b→(∀x∈ptL ts,Bq q x)→(∀t∈Z,Bq a t.1)→1300*(a+b+1)+1≤p→Bq p (Mp.ev (ptL ts) Z):=fun a b q p g1 g2 g3 g4=>by
     refine (vE (E:=80) g2 g1 Z g3 (fun t ht e he=>(w2 t ht e he).2)).mono ?_;have:Z.length*(a+b+1)≤1300*(a+b+1):=z92 _ (by omega);omega
    have hbe:=key 4000000 2000000 4000 8000000000 (by omega) hq hc (by decide);have k4:=iN (Mp.ev (ptL ts) Z) 8000000000 hbe (by decide);have hs:(0:Int)≤d5 (Mp.ev (ptL ts) Z):=Int.not_lt.1 fun h=>Rat.not_lt.2 hev (jC.1 h)
    generalize Mp.ev (ptL ts) Z=y at *;generalize ptL ts=xs at *;generalize pF 0 ts=f at *;skip
    (repeat first|simp only[kV,simprocAttr,aa,aA,ac,ae,uS,u62]|refine aN ?_);refine⟨_,cx (k1),ulc ?_⟩;(repeat first|with_reducible refine kp [1,2,11,12,13] ?_|simp only[kV,simprocAttr,aa,aA,ac,ae,h0,hn]|refine aN ?_);refine⟨_,cx (k2),ulc ?_⟩;(repeat first|with_reducible refine kp [11,12,70] ?_|simp only[kV,simprocAttr,aa,aA,ac,ae,h0,hn]|refine aN ?_);refine ulk ?_;(repeat first|with_reducible refine kp [11,12] ?_|simp only[kV,simprocAttr,aa,aA,ac,ae,h0,hn]|refine aN ?_);refine⟨_,cx (k3),ulc ?_⟩;(repeat first|simp only[kV,simprocAttr,aa,aA,ac,ae]|refine aN ?_);refine⟨_,cx (k4),ulc ?_⟩;(repeat first|with_reducible refine kp [6] ?_|simp only[kV,simprocAttr,aa,aA,ac,ae,af,ai,aq,ah,hs]|refine aN ?_)
   ·rw[hb] at k2;generalize ptL ts=xs at *;generalize pF 0 ts=f at *;skip
    (repeat first|simp only[kV,simprocAttr,aa,aA,ac,ae,uS,u62]|refine aN ?_);refine⟨_,cx (k1),ulc ?_⟩;(repeat first|with_reducible refine kp [1,2,11,12,13] ?_|simp only[kV,simprocAttr,aa,aA,ac,ae,h0,hn]|refine aN ?_);refine⟨_,cx (k2),ulc ?_⟩;(repeat first|with_reducible refine kp [11,12,70] ?_|simp only[kV,simprocAttr,aa,aA,ac,ae,h0,hn]|refine aN ?_);refine ulk ?_;(repeat first|with_reducible refine kp [6] ?_|simp only[kV,simprocAttr,aa,aA,ac,ae,af,ai,aq,ah]|refine aN ?_)
  ·generalize ptL ts=xs at *;generalize pF 0 ts=f at *;skip
   (repeat first|simp only[kV,simprocAttr,aa,aA,ac,ae,uS,u62]|refine aN ?_);refine⟨_,cx (k1),ulc ?_⟩;(repeat first|with_reducible refine kp [1,2,11,12,13] ?_|simp only[kV,simprocAttr,aa,aA,ac,ae,h0,hn]|refine aN ?_);refine ulc ?_;(repeat first|with_reducible refine kp [11,12,70] ?_|simp only[kV,simprocAttr,aa,aA,ac,ae,h0,hn]|refine aN ?_);refine ulk ?_;(repeat first|with_reducible refine kp [6] ?_|simp only[kV,simprocAttr,aa,aA,ac,ae,af,ai,aq,ah]|refine aN ?_)
 ·rw[if_neg h0] at k1;generalize pF 0 ts=f at *;skip
  (repeat first|simp only[kV,simprocAttr,aa,aA,ac,ae,uS,u62]|refine aN ?_);refine⟨_,cx (k1),ulc ?_⟩;(repeat first|with_reducible refine kp [1,2,11,12,13] ?_|simp only[kV,simprocAttr,aa,aA,ac,ae,h0]|refine aN ?_);refine ulc ?_;(repeat first|with_reducible refine kp [11,12,70] ?_|simp only[kV,simprocAttr,aa,aA,ac,ae,h0]|refine aN ?_);refine ulk ?_;(repeat first|with_reducible refine kp [6] ?_|simp only[kV,simprocAttr,aa,aA,ac,ae,af,ai,aq,ah]|refine aN ?_)
end
section
variable (V T U W:Nat) (l:List Sq) (n:Int) (ts:List (List UInt8)) (hts:ts.length≤1048576) (hst:∀t∈ts,t.length≤9223372036854775807) (hs:∀s∈l,s.1.length≤140737488355328∧Ar s.2) (hg:Gs l n)
include hts hst hg hs
abbrev u65 (v:List At):List (Nat×AV):=[(0,.p (LSq V T U l)),(1,.p (J n)),(2,.p (LSt W ts)),(8,.p (LTa 83 3 v))]
theorem zbR:uS qE (u65 V T U W l n ts (WR n.toNat (bN l l.length))) []:=by
 have k1:=Xh V T U l n hg hs;cases hv:vsB l
 ·rw[hv] at k1;have k2:=Tp V T U l n hs hg hv;have h62:=zbQ W l n ts hts hst hg hv;obtain⟨z1,z2⟩:=kR hg hv l.length (z95 _);obtain⟨v1,v2⟩:=jl hv;obtain⟨w1,w2,w3,-⟩:=gE hg l.length (z95 _);have n4:=hg.n4;have eq:=Uu hg;have k3:=xg (totZ l l.length) 0 (by decide) w3 w1 (by omega) (by omega) (w2.mono (by decide) (by decide)) (z1.bq (p:=4000000) (by omega) (by omega)) (by decide);obtain⟨x1,y1⟩:=zas w1 (by omega) 0;rw[←eq] at k3 x1 y1;have k4:=xd AN 83 3 83 3 (WR n.toNat (bN l l.length)) (WR n.toNat (bN l l.length)) (by omega) (by omega) x1 x1;rw[decide_eq_true rfl] at k4;clear eq x1 y1 z1 w1 w2 w3 z2;unfold u62 at h62;generalize WR n.toNat (bN l l.length)=v at *;generalize totZ l l.length=Z at *;skip
  (repeat first|simp only[kV,simprocAttr,aa,aA,ac,ae,uS,u65]|refine aN ?_);refine⟨_,cx (k1),?_⟩;(repeat first|with_reducible refine kp [0,1,2,8,45] ?_|simp only[kV,simprocAttr,aa,aA,ac,ae]|refine aN ?_);refine ulk ?_;(repeat first|with_reducible refine kp [0,1,2,8] ?_|simp only[kV,simprocAttr,aa,aA,ac,ae]|refine aN ?_);refine⟨_,cx (k2),ulc ?_⟩;(repeat first|with_reducible refine kp [1,2,8,11] ?_|simp only[kV,simprocAttr,aa,aA,ac,ae]|refine aN ?_);refine⟨_,cx (k3),ulc ?_⟩;(repeat first|simp only[kV,simprocAttr,aa,aA,ac,ae]|refine aN ?_);refine⟨_,cx (k4),ulc ?_⟩;(repeat first|with_reducible refine kp [1,2,11,52] ?_|simp only[kV,simprocAttr,aa,aA,ac,ae]|refine aN ?_);refine ulk ?_;(repeat first|simp only[kV,simprocAttr,aa,aA,ac,ae]|refine aN ?_);exact⟨_,(Sub.toG [1,2,11] [7,9,10,13]),h62⟩
 ·rw[hv] at k1;skip
  (repeat first|simp only[kV,simprocAttr,aa,aA,ac,ae,uS,u65]|refine aN ?_);refine⟨_,cx (k1),?_⟩;(repeat first|with_reducible refine kp [0,1,2,8,45] ?_|simp only[kV,simprocAttr,aa,aA,ac,ae]|refine aN ?_);refine ulk ?_;(repeat first|with_reducible refine kp [6] ?_|simp only[kV,simprocAttr,aa,aA,ac,ae,af,ai,aq,ah]|refine aN ?_)
end
section
variable (V T U W:Nat) (l:List Sq) (n:Int) (ts:List (List UInt8)) (hts:ts.length≤1048576) (hst:∀t∈ts,t.length≤9223372036854775807) (hl:l.length≤9223372036854775807) (hs:∀s∈l,s.1.length≤140737488355328∧Ar s.2)
include hts hst hl hs
theorem zbS:Con Tryz.prog AN 7 [LSq V T U l,J n,LSt W ts] (.bool true):=by
 have hs9:∀s∈l,s.1.length≤9223372036854775807∧Ar s.2:=fun s h=>⟨by have:=(hs s h).1;omega,(hs s h).2⟩
 have k1:=uJ V T U l n hl hs9;have k2:=UX V T U l n hs hl;have k3:=xf V T U l n hl hs9;have k4:=Q.begun_con.mono (A':=AN) (by simp);by_cases h0:(sM l n).1=0
 ·obtain⟨hg,e⟩:=uG h0;have h65:=zbR V T U W l n ts hts hst hs hg;unfold u65 at h65;rw[show ji l n=WR n.toNat (bN l l.length) from if_pos h0] at k2;rw[e] at k1 k2 k3;generalize WR n.toNat (bN l l.length)=v at *;refine fn7.con rfl (by simp) ?_;(repeat first|with_reducible refine kp [0,1,2] ?_|simp only[kV,simprocAttr,aa,aA,ac,ae,ci]|refine aN ?_);refine⟨_,cx (k1),ulc ?_⟩;(repeat first|with_reducible refine kp [0,1,2,7] ?_|simp only[kV,simprocAttr,aa,aA,ac,ae]|refine aN ?_);refine⟨_,cx (k2),ulc ?_⟩;(repeat first|with_reducible refine kp [0,1,2,7,8,9] ?_|simp only[kV,simprocAttr,aa,aA,ac,ae]|refine aN ?_);refine⟨_,cx (k3),ulc ?_⟩;(repeat first|with_reducible refine kp [0,1,2,7,8,9,10] ?_|simp only[kV,simprocAttr,aa,aA,ac,ae]|refine aN ?_);refine⟨_,cx (k4),ulc ?_⟩;(repeat first|with_reducible refine kp [0,1,2,8,10,37] ?_|simp only[kV,simprocAttr,aa,aA,ac,ae]|refine aN ?_);refine ulk ?_;(repeat first|with_reducible refine kp [0,1,2,8,10,40] ?_|simp only[kV,simprocAttr,aa,aA,ac,ae]|refine aN ?_);refine ulk ?_;(repeat first|simp only[kV,simprocAttr,aa,aA,ac,ae]|refine aN ?_);exact⟨_,(Sub.toG [0,1,2,8] [7,9,10,13]),h65⟩
 ·rw[show ji l n=[] from if_neg h0] at k2;generalize sM l n=f at *;refine fn7.con rfl (by simp) ?_;(repeat first|with_reducible refine kp [0,1,2] ?_|simp only[kV,simprocAttr,aa,aA,ac,ae,ci]|refine aN ?_);refine⟨_,cx (k1),ulc ?_⟩;(repeat first|with_reducible refine kp [0,1,2,7] ?_|simp only[kV,simprocAttr,aa,aA,ac,ae]|refine aN ?_);refine⟨_,cx (k2),ulc ?_⟩;(repeat first|with_reducible refine kp [0,1,2,7,8,9] ?_|simp only[kV,simprocAttr,aa,aA,ac,ae]|refine aN ?_);refine⟨_,cx (k3),ulc ?_⟩;(repeat first|with_reducible refine kp [0,1,2,7,8,9,10] ?_|simp only[kV,simprocAttr,aa,aA,ac,ae]|refine aN ?_);refine⟨_,cx (k4),ulc ?_⟩;(repeat first|with_reducible refine kp [0,1,2,8,10,37] ?_|simp only[kV,simprocAttr,aa,aA,ac,ae]|refine aN ?_);refine ulk ?_;(repeat first|with_reducible refine kp [0,1,2,8,10,40] ?_|simp only[kV,simprocAttr,aa,aA,ac,ae]|refine aN ?_);(try simp only[kV,simprocAttr,aa,aA,ac,ae,h0]);refine ulk ?_;(repeat first|with_reducible refine kp [6] ?_|simp only[kV,simprocAttr,aa,aA,ac,ae,af,ai,aq,ah,h0]|refine aN ?_)
end
end Go.Proofs.YtbnhgnhgbhjkcaaGreat.M
