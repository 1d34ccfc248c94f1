/- Lemmas. -/
import Derived.Test.YtdchbabgopglcaaC16
namespace Go.Proofs.Ytdchbabgopglcaa
open Go.RowKit
set_option maxRecDepth 100000
set_option maxHeartbeats 4000000
def yr (w:World) (n m:Nat) (q r:Int) (e:Ending) (w':World):Prop:=
 ∃(s t:SV) (a b:List Int),e = .returned (.tuple #[.slice s.a s.len s.cap,.slice t.a t.len t.cap])∧IsL w' s .u32 a∧IsL w' t .u32 b∧a.length=n∧b.length=m∧valL a=q∧valL b=r∧Ext w w'
theorem yt {l b:List Int}{n s:Nat} (hd:Dig l) (hv:valL l=valL b*2^s) (h2:at_ b (n-1)*2^s≤4294967295) (h1:2147483648≤at_ b (n-1)*2^s) (db:Dig b) (hb:b.length=n) (hn:1≤n) (hs32:s<32) :
  valL (l.take n)=valL b*2^s∧2147483648≤at_ l (n-1):=by
 obtain⟨m,rfl⟩:∃m,n=m+1:=⟨n-1,by omega⟩
 simp only[Nat.add_sub_cancel] at *;have hs:=dK hs32;have eb:=valL_take_succ b m;rw[List.take_of_length_le (by omega)] at eb;have hlow:=fh db m;have hp:=pow_pos' m;have hx1:(at_ b m+1)*2^s≤4294967296:=by
  have h3:at_ b m<2^(32-s):=by
   refine Int.lt_of_mul_lt_mul_right (a:=2^s) ?_ (by omega);rw[Int.mul_comm (2^(32-s))];omega
  have h4:=Int.mul_le_mul_of_nonneg_right (show at_ b m+1≤2^(32-s) from h3) (show (0:Int)≤2^s by omega);rw[Int.mul_comm (2^(32-s))] at h4;omega
 have hval:valL l=valL (b.take m)*2^s+(at_ b m*2^s)*4294967296^m:=by rw[hv,eb];grind
 have h4:valL (b.take m)*2^s<4294967296^m*2^s:=Int.mul_lt_mul_of_pos_right hlow.2 (by omega);have h40:0≤valL (b.take m)*2^s:=Int.mul_nonneg hlow.1 (by omega);have hlt:valL l<4294967296^(m+1):=by
  have h5:=Int.mul_le_mul_of_nonneg_right hx1 (show (0:Int)≤4294967296^m by omega);have e:(at_ b m+1)*2^s*4294967296^m=(at_ b m*2^s)*4294967296^m+4294967296^m*2^s:=by grind
  rw[Int.pow_succ,hval];omega
 have hz:=qN hd hlt;have h6:=valL_take (l:=l) (k:=m+1) hz;refine⟨h6.trans hv,?_⟩;have h7:=valL_take_succ l m;have h8:=fh hd m;have h9:=Int.mul_le_mul_of_nonneg_right h1 (show (0:Int)≤4294967296^m by omega);have h10:2147483648*4294967296^m<(at_ l m+1)*4294967296^m:=by
  rw[Int.add_mul];omega
 have:=Int.lt_of_mul_lt_mul_right h10 (by omega);omega
theorem at_take {l:List Int}{n i:Nat} (h:i<n):at_ (l.take n) i=at_ l i:=by simp[at_,h]
theorem yu {L l:List Int}{j n:Nat} (dL:Dig L) (dl:Dig l) (hn:2≤n) (hl:n≤l.length) (ht:2147483648≤at_ l (n-1)) (hlt:valL L<valL (l.take n)*4294967296^(j+1)) :
  Places (at_ L (j+n)) (at_ L (j+n-1)) (at_ L (j+n-2)) (valL ((L.drop j).take (n-2))) (valL ((l.take n).take (n-2))) (at_ l (n-1)) (at_ l (n-2)) (4294967296^(n-2)) (valL (L.drop j)) (valL (l.take n)) ∧
  valL L=valL (L.take j)+4294967296^j*valL (L.drop j)∧(0≤valL (L.take j)∧valL (L.take j)<4294967296^j)∧(∀i,j+n+1≤i→at_ L i=0):=by
 have hV:=fh dl n;have hpj:=pow_pos' j;have hsp:=qM L j;have hlow:=fh dL j;have hz:∀i,j+n+1≤i→at_ L i=0:=by
  apply qN dL;have h1:valL (l.take n)*4294967296^(j+1)<4294967296^n*4294967296^(j+1):=Int.mul_lt_mul_of_pos_right hV.2 (pow_pos' _);rw[show j+n+1=n+(j+1) by omega,Int.pow_add];omega
 have h3:=qP (l:=L) (j:=j) (n:=n) hn hz;have h2:=QT (l:=l.take n) (n:=n) hn (by simp;omega);rw[at_take (by omega),at_take (by omega)] at h2;have hU:valL (L.drop j)<valL (l.take n)*4294967296:=by
  refine Int.lt_of_mul_lt_mul_left (a:=4294967296^j) ?_ (by omega);rw[Int.pow_succ] at hlt;have e:valL (l.take n)*(4294967296^j*4294967296)=4294967296^j*(valL (l.take n)*4294967296):=by grind
  omega
 have a1:=fh (dL.drop j) (n-2);have a2:=fh (dl.take n) (n-2);exact⟨⟨h3,h2,a1.1,a1.2,a2.1,a2.2,dL.at_ _,dL.at_ _,dL.at_ _,⟨ht,(dl.at_ _).2⟩,dl.at_ _,hU⟩,hsp,hlow,hz⟩
theorem kG {L L1:List Int}{j n:Nat}{V G c:Int} (dL1:Dig L1) (hsp:valL L=valL (L.take j)+4294967296^j*valL (L.drop j)) (hlow:0≤valL (L.take j)∧valL (L.take j)<4294967296^j) (hz:∀i,j+n+1≤i→at_ L i=0)
  (hsame:∀i,j+n<i→at_ L1 i=at_ L i) (hc:c=0∨c=1) (hv:valL L1=valL L-4294967296^j*(G*V)+4294967296^j*4294967296^(n+1)*c) :
  (c=0→G*V≤valL (L.drop j))∧(c=1→valL (L.drop j)<G*V):=by
 have h1:valL L1<4294967296^(j+(n+1)):=qO dL1 fun i hi=>by rw[hsame i (by omega)];exact hz i (by omega)
 rw[f6] at h1;rw[hsp] at hv;exact QU hlow hc hv ⟨valL_nonneg dL1,h1⟩
theorem kH {L L1 L2:List Int}{j n:Nat}{V G c:Int} (dL2:Dig L2) (hsp:valL L=valL (L.take j)+4294967296^j*valL (L.drop j)) (hlow:0≤valL (L.take j)∧valL (L.take j)<4294967296^j) (hz:∀i,j+n+1≤i→at_ L i=0)
  (hsame:∀i,j+n<i→at_ L1 i=at_ L i) (hsame2:∀i,j+n<i→at_ L2 i=at_ L1 i) (hc:c=0∨c=1) (hv:valL L1=valL L-4294967296^j*(G*V)+4294967296^j*4294967296^(n+1)*1)
  (hv2:valL L2=valL L1+4294967296^j*V-4294967296^j*4294967296^(n+1)*c) (hle:(G-1)*V≤valL (L.drop j)):valL L2=valL L-4294967296^j*((G-1)*V):=by
 have h1:valL L2<4294967296^(j+(n+1)):=qO dL2 fun i hi=>by rw[hsame2 i (by omega),hsame i (by omega)];exact hz i (by omega)
 rw[f6] at h1;rw[hsp,Int.mul_one] at hv;rw[hsp];exact QW hlow hc hv hv2 ⟨valL_nonneg dL2,h1⟩ hle
theorem gl {L L1 Q:List Int}{j:Nat}{V q A:Int} (hQ:j<Q.length) (hQz:at_ Q j=0) (hval:valL L+valL Q*V=A) (h:valL L1=valL L-4294967296^j*(q*V)):valL L1+valL (Q.set j q)*V=A:=by
 rw[valL_set_full hQ,hQz,h,←hval];grind
theorem gm {L L1:List Int}{j:Nat}{V q:Int} (hsp:valL L=valL (L.take j)+4294967296^j*valL (L.drop j)) (hlow:0≤valL (L.take j)∧valL (L.take j)<4294967296^j)
  (h:valL L1=valL L-4294967296^j*(q*V)) (hU:valL (L.drop j)<(q+1)*V):valL L1<V*4294967296^j:=by
 rw[h,hsp];exact QV hlow hU
theorem yv {A b Q r L0 p c:Int} (hp:0<p) (hval:L0+Q*(b*p)=A*p) (h0:0≤L0) (hlt:L0<b*p) (hr:p*r=L0-c) (hc0:0≤c) (hc:c<p):Q=A / b∧r=A % b:=by
 have e:L0=(A-Q*b)*p:=by
  have:(A-Q*b)*p=A*p-Q*(b*p):=by grind
  omega
 generalize hX:A-Q*b=X at *;have h1:(X-r)*p=c:=by
  have:(X-r)*p=X*p-p*r:=by grind
  omega
 have h2:X-r=0:=by
  rcases Int.lt_trichotomy (X-r) 0 with h | h | h
  ·have:=Int.mul_neg_of_neg_of_pos h hp;omega
  ·exact h
  ·have:=Int.mul_le_mul_of_nonneg_right (show 1≤X-r by omega) (show 0≤p by omega);omega
 have h3:X<b:=by
  refine Int.lt_of_mul_lt_mul_right (a:=p) ?_ (by omega);omega
 have h4:0≤X:=by
  refine Int.not_lt.1 fun h => ?_
  have:=Int.mul_neg_of_neg_of_pos h hp;omega
 exact rC (by omega) (by omega) (by omega)
theorem yw {a l u:List Int}{n s:Nat} (da:Dig a) (dl:Dig l) (hu:valL u=valL a*2^s) (hs:s<32) (hn:1≤n) (ht:2147483648≤at_ l (n-1)) (hba:n≤a.length):valL u<valL (l.take n)*4294967296^(a.length+1-n):=by
 have hs2:=dK hs;have h1:=valL_lt da;have h2:=valL_take_succ l (n-1);rw[show n-1+1=n by omega] at h2;have h3:=fh dl (n-1);have hp:=pow_pos' (n-1);have hp2:=pow_pos' (a.length+1-n);have hpa:=pow_pos' a.length;have h4:2147483648*4294967296^(n-1)≤valL (l.take n):=by
  have:=Int.mul_le_mul_of_nonneg_right ht (show (0:Int)≤4294967296^(n-1) by omega);omega
 have h5:=Int.mul_le_mul_of_nonneg_right h4 (show (0:Int)≤4294967296^(a.length+1-n) by omega);rw[Int.mul_assoc,←Int.pow_add,show n-1+(a.length+1-n)=a.length by omega] at h5;have h6:valL a*2^s<4294967296^a.length*2^s:=Int.mul_lt_mul_of_pos_right h1 (by omega);have h7:(4294967296:Int)^a.length*2^s≤4294967296^a.length*2147483648:=Int.mul_le_mul_of_nonneg_left hs2.2.1 (by omega);omega
theorem nn (s:SV) (a:List Int) (r:Nat) (w:World) (ha:IsL w s .u32 a) (hla:a.length≤1099511627776) (hr:r<32) :
  Calls Try.prog 72 #[.slice s.a s.len s.cap,.int .i64 r] w (rD w (a.length+1) (valL a*2^r)):=by
 have:=To s a r 0 r w ha hla (by omega) hr (by omega);rw[Int.pow_zero,Int.mul_one] at this;exact this
theorem yx (s t:SV) (a b:List Int) (w:World) (ha:IsL w s .u32 a) (hb:IsL w t .u32 b) (hla:a.length≤549755813888) (h2:2≤b.length) (hba:b.length≤a.length) (nb:Norm b) :
  Calls Try.prog 60 #[.slice s.a s.len s.cap,.slice t.a t.len t.cap] w (yr w (a.length+1-b.length) (a.length+1) (valL a / valL b) (valL a % valL b)):=by
 have HA:=hd_ ha;have HB:=hd_ hb;have da:Dig a:=ha.2;have db:Dig b:=hb.2;obtain⟨ao,ca,rfl,hca,hcam,hopa⟩:=ha.open_;obtain⟨bo,cb,rfl,hcb,hcbm,hopb⟩:=hb.open_;obtain⟨bb,ob,rfl,hbb,gb⟩:=hopb (by omega);have hbl:=hbb.lt;have gt:=gb (b.length-1) (by omega);have ft:=db.at_ (b.length-1);have ht0:0<at_ b (b.length-1):=by
  rcases nb with h | h
  ·rw[h] at h2;simp at h2
  ·omega
 obtain⟨sh,hs32,hse,hst,hst2⟩:=S5 ht0 ft.2;replace hst:=hd_ hst;replace hst2:=hd_ hst2;clear ha hb nb;have hb0:(0:Int)≤b.length:=by omega
 have hb1:(b.length:Int)≤b.length+1:=by omega
 go_enter Try.func60,Try.ntmps60;go_wp2_with fail;refine (S3 _ _ ft.1 ft.2).mono ?_;rintro e w' ⟨rfl,rfl⟩;go_wp2;go_region_held3 (fun w'=>Ext w w') (first | assumption | exact Ext.rf _ | exact (Ext.rf _).dr | exact Ext.tr (by assumption) hxl | exact Ext.dr (by assumption)) (first
  |(go_at_call 72;((with_reducible refine (nn ⟨ao,a.length,ca⟩ a sh _ (HA.out.keep (by assumption)) (by omega) hs32).mono ?_);rintro e w' ⟨bu,Lu,rfl,hownu,hlu,hdu,hvu,hbu,hxl⟩))
  |(go_at_call 72;((with_reducible refine (nn ⟨some ⟨bb,ob,none⟩,b.length,cb⟩ b sh _ (HB.out.keep (by assumption)) (by omega) hs32).mono ?_);rintro e w' ⟨bv,Lv,rfl,hownv,hlv,hdv,hvv,hbv,hxl⟩)))
 have hX0:Ext w w':=by assumption
 have hul:=hownu.lt;have hne:bv≠bu:=by omega
 have hU0:=hownu.keep hxl;have hbuw:w.heap.size≤bu:=hbu;have hbvw:w.heap.size≤bv:=by omega
 clear hownu hxl hbu hbv hul;generalize w'=w2 at *;have ftop:=hdv.at_ (b.length-1);have gvt:=hownv.cell (i:=b.length-1) (by omega);have hLv:=hd_ (yt (l:=Lv) (n:=b.length) hdv hvv hst2.out hst.out db rfl (by omega) hs32);go_wp2;go_quiet (fail);go_wp2_with (at_make;refine fg _ rfl _ _ 60 rfl 100 .u32 4 Try.underlying60 dZ _ _ _ _ (a.length+1-b.length) rfl rfl (by omega) (by omega) (by omega) (by omega) ?_;intro w3 hown3 hx3 hlt3);have hneq:w2.heap.size≠bu:=by have:=hU0.lt;omega
 have hneq2:w2.heap.size≠bv:=by have:=hownv.lt;omega
 have hx23:Ext w2 w3:=Ext.tr (below_drewN (Ext.rf w2) _) hx3;have hV0:=hownv.keep hx23;have hU1:=hU0.keep hx23;have hX3:=hX0.tr hx23;have hv2:=hdv.at_ (b.length-2);clear gvt hownv hU0;go_loopw [12] (fun jv wr => ∃(jj:Nat) (L Q:List Int),jv = .int .i64 ((jj:Int)-1)∧jj≤a.length+1-b.length∧Own wr bu 100 .u32 L∧L.length=a.length+1∧Dig L∧Own wr w2.heap.size 100 .u32 Q∧Q.length=a.length+1-b.length∧Dig Q ∧
   (∀i,i<jj→at_ Q i=0)∧valL L+valL Q*valL (Lv.take b.length)=valL a*2^sh∧valL L<valL (Lv.take b.length)*4294967296^jj∧Own wr bv 100 .u32 Lv∧Ext w wr) (fun jv _=>(intOf jv+1).toNat)
 case atStart =>
  refine⟨a.length+1-b.length,Lu,_,by congr 1;omega,Nat.le_refl _,hU1,hlu,hdu,hown3,by simp,eU _,fun i _=>i7 _ i,?_,?_,hV0,hX3⟩
  ·rw[valL_zero (fun j=>i7 _ j),hvu];simp
  ·exact yw da hdv hvu hs32 (by omega) hLv.out.2 hba
 case round =>
  clear hU1 hown3 hV0 hX3;obtain⟨jj,L,Q,rfl,hjj,hown,hLl,hdL,hownq,hQl,hdQ,hQz,hval,hlt,hownv,hx⟩:=hrel;replace hval:=hd_ hval;replace hQz:=hd_ hQz;replace hLl:=hd_ hLl;replace hQl:=hd_ hQl
  match jj,hjj,hQz,hlt with
  |0,hjj,hQz,hlt =>
   go_wp2_with fail;refine (yY ⟨some ⟨bu,0,none⟩,a.length+1,a.length+1⟩ L sh _ (by have:=hown.isL (k:=.u32) (by have:=hLl.out;omega) hdL;rw[hLl.out] at this;exact this) (by have:=hLl.out;omega) (by have:=hLl.out;omega) hs32).mono ?_;rintro e w4 ⟨sr,lr,br,rfl,hlr,hlrl,hvr,hx4⟩;go_wp2;go_ret2;refine⟨⟨some ⟨w2.heap.size,0,none⟩,a.length+1-b.length,a.length+1-b.length⟩,sr,Q,lr,rfl,?_,hlr,hQl.out,hlrl.trans hLl.out,?_⟩
   ·have:=(hownq.keep hx4).isL (k:=.u32) (by have:=hQl.out;omega) hdQ;rw[hQl.out] at this;exact this
   ·have h1:=Int.emod_nonneg (at_ L 0) (show (2:Int)^sh≠0 by have:=(dK hs32).1;omega);have h2:=Int.emod_lt_of_pos (at_ L 0) (show (0:Int)<2^sh by have:=(dK hs32).1;omega);have h3:=hval.out;rw[hLv.out.1] at h3 hlt;rw[Int.pow_zero,Int.mul_one] at hlt;obtain⟨e1,e2⟩:=yv (by have:=(dK hs32).1;omega) h3 (valL_nonneg hdL) hlt hvr h1 h2;exact⟨e1,e2,hx.tr hx4⟩
  |j+1,hjj,hQz,hlt =>
   have hPL:=yu hdL hdv h2 (by omega) hLv.out.2 hlt;obtain⟨PL,hsp,hlow,hz⟩:=hPL;have st:=PL.start;have hh:=PL.head;replace PL:=hd_ PL;replace hsp:=hd_ hsp;replace hlow:=hd_ hlow;replace hz:=hd_ hz;replace hlt:=hd_ hlt;have f0:=hdL.at_ (j+b.length);have f1:=hdL.at_ (j+b.length-1);have f2:=hdL.at_ (j+b.length-2);have c0:=hown.cell (i:=j+b.length) (by have:=hLl.out;omega);have c1:=hown.cell (i:=j+b.length-1) (by have:=hLl.out;omega);have o1:=mL f0 f1;rw[show ((j+1:Nat):Int)-1=(j:Int) by omega];have ij:(j:Int)+b.length≤a.length:=by omega
   go_wp2;go_quiet (fail);go_wp2;go_quiet (fail);go_wp2;replace hval:=hval;clear st;obtain⟨s1,s2,s3,s4,s5,s6⟩:=PL.out.start;have hst0:=hd_ s1;have hst6:=hd_ s6;clear s1 s6;have hxw:Ext wr ((wr.drewN _).drewN _):=below_drewN (below_drewN (Ext.rf wr) nq) nq;go_loopw [14,15] (fun gv rv wi => ∃g r:Int,gv = .int .u64 g∧rv = .int .u64 r∧g*at_ Lv (b.length-1)+r=at_ L (j+b.length)*4294967296+at_ L (j+b.length-1)∧(0≤r∧r≤4294967295)∧(0≤g∧g≤4294967297)∧valL (L.drop j)<(g+1)*valL (Lv.take b.length)∧Ext wr wi) (fun gv _ _=>(intOf gv).toNat)
   case atStart=>exact⟨_,_,rfl,rfl,hst0.out,⟨s2,by omega⟩,⟨s4,s5⟩,hst6.out,below_drewN (below_drewN (Ext.rf wr) _) _⟩
   case round =>
    clear s2 s3 s4 s5 hst0 hst6 hxw c0 c1 o1;obtain⟨g,r,rfl,rfl,hgr,hr,hg,hUg,hxi⟩:=hrel;replace hgr:=hd_ hgr;replace hUg:=hd_ hUg;have c2:=(hown.keep hxi).cell (i:=j+b.length-2) (by have:=hLl.out;omega);have cv:=(hownv.keep hxi).cell (i:=b.length-2) (by omega);have o2:=mL hr f2;have hro:0≤r*4294967296+at_ L (j+b.length-2)∧r*4294967296+at_ L (j+b.length-2)≤18446744073709551615:=by omega
    by_cases hgB:4294967296≤g
    ·have hgd:decide (4294967296≤g)=true:=by simpa using hgB
     obtain⟨hg1,hdec⟩:=PL.out.dec hg.1 hr.1 hgr.out (.inl hgB);have hUg2:Hd (valL (L.drop j)<(g-1+1)*valL (Lv.take b.length)):=hd_ (by rw[Int.sub_add_cancel];exact hdec);have hgr2:Hd ((g-1)*at_ Lv (b.length-1)+(r+at_ Lv (b.length-1))=at_ L (j+b.length)*4294967296+at_ L (j+b.length-1)):=hd_ (by rw[←hgr.out,Int.sub_mul];omega);clear hdec hUg;by_cases hbr:4294967296≤r+at_ Lv (b.length-1)
     ·obtain⟨hgb,hgl⟩:=PL.out.stop (g:=g-1) (rest:=r+at_ Lv (b.length-1)) (by omega) hgr2.out (.inl hbr);replace hgl:=hd_ hgl;have hg0:0≤g-1:=by omega
      clear hgr hgr2;go_wp2;go_quiet (fail);go_wp2_with fail;rw[show j+b.length+1-j=b.length+1 by omega];have hE:=below_drewN hxi nq;refine (lV bu j b.length bv _ _ L Lv (g-1) _ (hown.keep hE) hdL (by have:=hLl.out;omega) (by have:=hLl.out;omega) (by omega) (by omega) (hownv.keep hE) hdv (by omega) hne (by omega)).mono ?_;rintro e w5 ⟨L1,c,rfl,hc01,hown1,hL1l,hdL1,hsame,hval1,hO1⟩;have hat:=hd_ (kG hdL1 hsp.out hlow.out hz.out hsame hc01 hval1);have hq5:=(hownq.keep hE).only hO1 hneq;have hv5:=(hownv.keep hE).only hO1 hne;have hx5:=hO1.ext (hx.tr hE) hbuw;clear c2 cv o2 hro hgd;replace hsame:=hd_ hsame;replace hval1:=hd_ hval1;replace hL1l:=hd_ hL1l;rcases hc01 with rfl | rfl
      ·have gq:=hq5.cell (i:=j) (by have:=hQl.out;omega);have gfq:=hq5.frozen j;go_wp2;go_roundw
       case rel =>
        have hv1:valL L1=valL L-4294967296^j*((g-1)*valL (Lv.take b.length)):=by have:=hval1.out;rwa[Int.mul_zero,Int.add_zero] at this
        refine⟨j,L1,Q.set j (g-1),rfl,by omega,hown1.far (by show bu≠w2.heap.size;omega) _,by rw[hL1l.out];exact hLl.out,hdL1,hq5.set j _,by rw[List.length_set];exact hQl.out,hdQ.set j (by omega),fun i hi => ?_,gl (by have:=hQl.out;omega) (hQz.out j (by omega)) hval.out hv1,gm hsp.out hlow.out hv1 hUg2.out,hv5.far (by show bv≠w2.heap.size;omega) _,hx5.st (by show w.heap.size≤w2.heap.size;exact hX0.size) _⟩;rw[co (by omega)];exact hQz.out i (by omega)
       case measure=>first | (simp[intOf];done) | (simp[intOf];omega)
      ·go_wp2_with fail;rw[show j+b.length+1-j=b.length+1 by omega];refine (lW bu j b.length bv _ _ L1 Lv _ hown1 hdL1 (by rw[hL1l.out];have:=hLl.out;omega) (by rw[hL1l.out];have:=hLl.out;omega) (by omega) (by omega) hv5 hdv (by omega) hne).mono ?_;rintro e w6 ⟨L2,c2,rfl,hc02,hown2,hL2l,hdL2,hsame2,hval2,hO2⟩;have hq6:=hq5.only hO2 hneq;have hv6:=hv5.only hO2 hne;have hx6:=hO2.ext hx5 hbuw;have gq:=hq6.cell (i:=j) (by have:=hQl.out;omega);have gfq:=hq6.frozen j;have hag:=hd_ (kH hdL2 hsp.out hlow.out hz.out hsame.out hsame2 hc02 hval1.out hval2 hgl.out);have hG1:1≤(g-1):=by
        rcases Int.lt_or_le 0 (g-1) with h0 | h0
        ·omega
        ·have h1:=hat.out.2 (by trivial);have h2:(g-1)=0:=by omega
         rw[h2,Int.zero_mul] at h1;have h3:=valL_nonneg (hdL.drop j);omega
       clear hsame2 hval2;go_wp2;go_roundw
       case rel =>
        refine⟨j,L2,Q.set j ((g-1)-1),rfl,by omega,hown2.far (by show bu≠w2.heap.size;omega) _,by rw[hL2l,hL1l.out];exact hLl.out,hdL2,hq6.set j _,by rw[List.length_set];exact hQl.out,hdQ.set j (by omega),fun i hi => ?_,gl (by have:=hQl.out;omega) (hQz.out j (by omega)) hval.out hag.out,gm hsp.out hlow.out hag.out (by rw[Int.sub_add_cancel];exact hat.out.2 (by trivial)),hv6.far (by show bv≠w2.heap.size;omega) _,hx6.st (by show w.heap.size≤w2.heap.size;exact hX0.size) _⟩;rw[co (by omega)];exact hQz.out i (by omega)
       case measure=>first | (simp[intOf];done) | (simp[intOf];omega)
     ·go_wp2;go_quiet (fail);go_wp2;go_roundw
      case rel=>exact⟨g-1,r+at_ Lv (b.length-1),rfl,rfl,hgr2.out,by omega,by omega,hUg2.out,below_drewN hxi _⟩
      case measure=>first | (simp[intOf];done) | (simp[intOf];omega)
    ·have hgd:decide (4294967296≤g)=false:=by simpa using hgB
     have hgv:0≤g*at_ Lv (b.length-2)∧g*at_ Lv (b.length-2)≤18446744065119617025:=mul_bound ⟨hg.1,by omega⟩ hv2;by_cases hcm:r*4294967296+at_ L (j+b.length-2)<g*at_ Lv (b.length-2)
     ·obtain⟨hg1,hdec⟩:=PL.out.dec hg.1 hr.1 hgr.out (.inr hcm);have hUg2:Hd (valL (L.drop j)<(g-1+1)*valL (Lv.take b.length)):=hd_ (by rw[Int.sub_add_cancel];exact hdec);have hgr2:Hd ((g-1)*at_ Lv (b.length-1)+(r+at_ Lv (b.length-1))=at_ L (j+b.length)*4294967296+at_ L (j+b.length-1)):=hd_ (by rw[←hgr.out,Int.sub_mul];omega);clear hdec hUg;by_cases hbr:4294967296≤r+at_ Lv (b.length-1)
      ·obtain⟨hgb,hgl⟩:=PL.out.stop (g:=g-1) (rest:=r+at_ Lv (b.length-1)) (by omega) hgr2.out (.inl hbr);replace hgl:=hd_ hgl;have hg0:0≤g-1:=by omega
       clear hgr hgr2;go_wp2;go_quiet (fail);go_wp2_with fail;rw[show j+b.length+1-j=b.length+1 by omega];have hE:=below_drewN hxi nq;refine (lV bu j b.length bv _ _ L Lv (g-1) _ (hown.keep hE) hdL (by have:=hLl.out;omega) (by have:=hLl.out;omega) (by omega) (by omega) (hownv.keep hE) hdv (by omega) hne (by omega)).mono ?_;rintro e w5 ⟨L1,c,rfl,hc01,hown1,hL1l,hdL1,hsame,hval1,hO1⟩;have hat:=hd_ (kG hdL1 hsp.out hlow.out hz.out hsame hc01 hval1);have hq5:=(hownq.keep hE).only hO1 hneq;have hv5:=(hownv.keep hE).only hO1 hne;have hx5:=hO1.ext (hx.tr hE) hbuw;clear c2 cv o2 hro hgd;replace hsame:=hd_ hsame;replace hval1:=hd_ hval1;replace hL1l:=hd_ hL1l;rcases hc01 with rfl | rfl
       ·have gq:=hq5.cell (i:=j) (by have:=hQl.out;omega);have gfq:=hq5.frozen j;go_wp2;go_roundw
        case rel =>
         have hv1:valL L1=valL L-4294967296^j*((g-1)*valL (Lv.take b.length)):=by have:=hval1.out;rwa[Int.mul_zero,Int.add_zero] at this
         refine⟨j,L1,Q.set j (g-1),rfl,by omega,hown1.far (by show bu≠w2.heap.size;omega) _,by rw[hL1l.out];exact hLl.out,hdL1,hq5.set j _,by rw[List.length_set];exact hQl.out,hdQ.set j (by omega),fun i hi => ?_,gl (by have:=hQl.out;omega) (hQz.out j (by omega)) hval.out hv1,gm hsp.out hlow.out hv1 hUg2.out,hv5.far (by show bv≠w2.heap.size;omega) _,hx5.st (by show w.heap.size≤w2.heap.size;exact hX0.size) _⟩;rw[co (by omega)];exact hQz.out i (by omega)
        case measure=>first | (simp[intOf];done) | (simp[intOf];omega)
       ·go_wp2_with fail;rw[show j+b.length+1-j=b.length+1 by omega];refine (lW bu j b.length bv _ _ L1 Lv _ hown1 hdL1 (by rw[hL1l.out];have:=hLl.out;omega) (by rw[hL1l.out];have:=hLl.out;omega) (by omega) (by omega) hv5 hdv (by omega) hne).mono ?_;rintro e w6 ⟨L2,c2,rfl,hc02,hown2,hL2l,hdL2,hsame2,hval2,hO2⟩;have hq6:=hq5.only hO2 hneq;have hv6:=hv5.only hO2 hne;have hx6:=hO2.ext hx5 hbuw;have gq:=hq6.cell (i:=j) (by have:=hQl.out;omega);have gfq:=hq6.frozen j;have hag:=hd_ (kH hdL2 hsp.out hlow.out hz.out hsame.out hsame2 hc02 hval1.out hval2 hgl.out);have hG1:1≤(g-1):=by
         rcases Int.lt_or_le 0 (g-1) with h0 | h0
         ·omega
         ·have h1:=hat.out.2 (by trivial);have h2:(g-1)=0:=by omega
          rw[h2,Int.zero_mul] at h1;have h3:=valL_nonneg (hdL.drop j);omega
        clear hsame2 hval2;go_wp2;go_roundw
        case rel =>
         refine⟨j,L2,Q.set j ((g-1)-1),rfl,by omega,hown2.far (by show bu≠w2.heap.size;omega) _,by rw[hL2l,hL1l.out];exact hLl.out,hdL2,hq6.set j _,by rw[List.length_set];exact hQl.out,hdQ.set j (by omega),fun i hi => ?_,gl (by have:=hQl.out;omega) (hQz.out j (by omega)) hval.out hag.out,gm hsp.out hlow.out hag.out (by rw[Int.sub_add_cancel];exact hat.out.2 (by trivial)),hv6.far (by show bv≠w2.heap.size;omega) _,hx6.st (by show w.heap.size≤w2.heap.size;exact hX0.size) _⟩;rw[co (by omega)];exact hQz.out i (by omega)
        case measure=>first | (simp[intOf];done) | (simp[intOf];omega)
      ·go_wp2;go_quiet (fail);go_wp2;go_roundw
       case rel=>exact⟨g-1,r+at_ Lv (b.length-1),rfl,rfl,hgr2.out,by omega,by omega,hUg2.out,below_drewN hxi _⟩
       case measure=>first | (simp[intOf];done) | (simp[intOf];omega)
     ·obtain⟨hgb,hgl⟩:=PL.out.stop (g:=g) (rest:=r) hg.1 hgr.out (.inr ⟨by omega,by omega⟩);replace hgl:=hd_ hgl;have hg0:0≤g:=hg.1;clear hgr;go_wp2;go_quiet (fail);go_wp2_with fail;rw[show j+b.length+1-j=b.length+1 by omega];have hE:=below_drewN hxi nq;refine (lV bu j b.length bv _ _ L Lv g _ (hown.keep hE) hdL (by have:=hLl.out;omega) (by have:=hLl.out;omega) (by omega) (by omega) (hownv.keep hE) hdv (by omega) hne (by omega)).mono ?_;rintro e w5 ⟨L1,c,rfl,hc01,hown1,hL1l,hdL1,hsame,hval1,hO1⟩;have hat:=hd_ (kG hdL1 hsp.out hlow.out hz.out hsame hc01 hval1);have hq5:=(hownq.keep hE).only hO1 hneq;have hv5:=(hownv.keep hE).only hO1 hne;have hx5:=hO1.ext (hx.tr hE) hbuw;clear c2 cv o2 hro hgd;replace hsame:=hd_ hsame;replace hval1:=hd_ hval1;replace hL1l:=hd_ hL1l;rcases hc01 with rfl | rfl
      ·have gq:=hq5.cell (i:=j) (by have:=hQl.out;omega);have gfq:=hq5.frozen j;go_wp2;go_roundw
       case rel =>
        have hv1:valL L1=valL L-4294967296^j*(g*valL (Lv.take b.length)):=by have:=hval1.out;rwa[Int.mul_zero,Int.add_zero] at this
        refine⟨j,L1,Q.set j g,rfl,by omega,hown1.far (by show bu≠w2.heap.size;omega) _,by rw[hL1l.out];exact hLl.out,hdL1,hq5.set j _,by rw[List.length_set];exact hQl.out,hdQ.set j (by omega),fun i hi => ?_,gl (by have:=hQl.out;omega) (hQz.out j (by omega)) hval.out hv1,gm hsp.out hlow.out hv1 hUg.out,hv5.far (by show bv≠w2.heap.size;omega) _,hx5.st (by show w.heap.size≤w2.heap.size;exact hX0.size) _⟩;rw[co (by omega)];exact hQz.out i (by omega)
       case measure=>first | (simp[intOf];done) | (simp[intOf];omega)
      ·go_wp2_with fail;rw[show j+b.length+1-j=b.length+1 by omega];refine (lW bu j b.length bv _ _ L1 Lv _ hown1 hdL1 (by rw[hL1l.out];have:=hLl.out;omega) (by rw[hL1l.out];have:=hLl.out;omega) (by omega) (by omega) hv5 hdv (by omega) hne).mono ?_;rintro e w6 ⟨L2,c2,rfl,hc02,hown2,hL2l,hdL2,hsame2,hval2,hO2⟩;have hq6:=hq5.only hO2 hneq;have hv6:=hv5.only hO2 hne;have hx6:=hO2.ext hx5 hbuw;have gq:=hq6.cell (i:=j) (by have:=hQl.out;omega);have gfq:=hq6.frozen j;have hag:=hd_ (kH hdL2 hsp.out hlow.out hz.out hsame.out hsame2 hc02 hval1.out hval2 hgl.out);have hG1:1≤g:=by
        rcases Int.lt_or_le 0 g with h0 | h0
        ·omega
        ·have h1:=hat.out.2 (by trivial);have h2:g=0:=by omega
         rw[h2,Int.zero_mul] at h1;have h3:=valL_nonneg (hdL.drop j);omega
       clear hsame2 hval2;go_wp2;go_roundw
       case rel =>
        refine⟨j,L2,Q.set j (g-1),rfl,by omega,hown2.far (by show bu≠w2.heap.size;omega) _,by rw[hL2l,hL1l.out];exact hLl.out,hdL2,hq6.set j _,by rw[List.length_set];exact hQl.out,hdQ.set j (by omega),fun i hi => ?_,gl (by have:=hQl.out;omega) (hQz.out j (by omega)) hval.out hag.out,gm hsp.out hlow.out hag.out (by rw[Int.sub_add_cancel];exact hat.out.2 (by trivial)),hv6.far (by show bv≠w2.heap.size;omega) _,hx6.st (by show w.heap.size≤w2.heap.size;exact hX0.size) _⟩;rw[co (by omega)];exact hQz.out i (by omega)
       case measure=>first | (simp[intOf];done) | (simp[intOf];omega)
end Go.Proofs.Ytdchbabgopglcaa
