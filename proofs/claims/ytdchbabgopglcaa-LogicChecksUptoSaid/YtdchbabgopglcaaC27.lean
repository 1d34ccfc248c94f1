/- Lemmas. -/
import Derived.Test.YtdchbabgopglcaaC6
import Derived.Test.YtdchbabgopglcaaC25
namespace Go.Proofs.Ytdchbabgopglcaa.Z4
open Go.RowKit
set_option maxRecDepth 100000
set_option maxHeartbeats 1000000
def aE (d:Nat):List UInt8:=[dch (d / 1000),dch (d / 100 % 10),dch (d / 10 % 10),dch (d % 10)]
theorem qp {d q:Nat} (h:d<10000) (hq:0<q):aW (d+10000*q)=(aE d).reverse++aW q:=by
 rw[bJ (by omega),bJ (by omega),bJ (by omega),bJ (by omega)];unfold aE;simp only[List.reverse_cons,List.reverse_nil,List.nil_append,List.cons_append];rw[show (d+10000*q) % 10=d % 10 by omega,show (d+10000*q) / 10 % 10=d / 10 % 10 by omega,show (d+10000*q) / 10 / 10 % 10=d / 100 % 10 by omega,show (d+10000*q) / 10 / 10 / 10 % 10=d / 1000 by omega,show (d+10000*q) / 10 / 10 / 10 / 10=q by omega]
def bY (d:Nat):Nat:=if 1000≤d then 0 else if 100≤d then 1 else if 10≤d then 2 else 3
theorem qr {d:Nat} (h:d<10000) (h0:0<d):(aW d).reverse=(aE d).drop (bY d):=by
 unfold bY aE;split
 ·rw[bJ (by omega),bJ (by omega),bJ (by omega),bJ (by omega),show d / 10 / 10 / 10 / 10=0 by omega,bX,show d / 10 / 10 / 10 % 10=d / 1000 by omega,show d / 10 / 10 % 10=d / 100 % 10 by omega];rfl
 ·split
  ·rw[bJ (by omega),bJ (by omega),bJ (by omega),show d / 10 / 10 / 10=0 by omega,bX,show d / 10 / 10 % 10=d / 100 % 10 by omega];rfl
  ·split
   ·rw[bJ (by omega),bJ (by omega),show d / 10 / 10=0 by omega,bX];rfl
   ·rw[bJ (by omega),show d / 10=0 by omega,bX];rfl
theorem mc {d:Nat} (h:d<10000):byt (aE d) 0=48+d / 1000∧byt (aE d) 1=48+d / 100 % 10∧byt (aE d) 2=48+d / 10 % 10∧byt (aE d) 3=48+d % 10:=by
 unfold aE;refine⟨?_,?_,?_,?_⟩<;>simp only[eG,km]<;>exact d4 (by omega)
theorem qs (d:Nat):bY d≤3:=by unfold bY;(repeat' split)<;>omega
theorem qt {d j:Nat} (h:d<10000) (hj:j<bY d):byt (aE d) j=48:=by
 obtain⟨h0,h1,h2,h3⟩:=mc h;unfold bY at hj;split at hj
 ·omega
 ·split at hj
  ·obtain rfl:j=0:=by omega
   rw[h0];omega
  ·split at hj
   ·rcases (show j=0∨j=1 by omega) with rfl | rfl
    ·rw[h0];omega
    ·rw[h1];omega
   ·rcases (show j=0∨j=1∨j=2 by omega) with rfl | rfl | rfl
    ·rw[h0];omega
    ·rw[h1];omega
    ·rw[h2];omega
theorem qu {d:Nat} (h:d<10000) (hl:bY d<3):byt (aE d) (bY d)≠48:=by
 obtain⟨h0,h1,h2,h3⟩:=mc h;unfold bY at *;split
 ·rw[h0];omega
 ·split
  ·rw[h1];omega
  ·split
   ·rw[h2];omega
   ·rename_i h1 h2 h3;rw[if_neg h1,if_neg h2,if_neg h3] at hl;omega
theorem valL_drop {l:List Int}{k:Nat} (h:k<l.length):valL (l.drop k)=at_ l k+10000*valL (l.drop (k+1)):=by
 rw[List.drop_eq_getElem_cons h,valL,eu h]
theorem qv {d:Nat} (h:d<10000):IntKind.i64.wrap ((d:Int) / 1000)=(d:Int) / 1000∧IntKind.i64.wrap (48+(d:Int) / 1000)=48+(d:Int) / 1000∧IntKind.u8.wrap (48+(d:Int) / 1000)=((byt (aE d) 0:Nat):Int) ∧
  IntKind.i64.wrap ((d:Int) / 100)=(d:Int) / 100∧((d:Int) / 100).tmod 10=(d:Int) / 100 % 10∧IntKind.i64.wrap (48+(d:Int) / 100 % 10)=48+(d:Int) / 100 % 10∧IntKind.u8.wrap (48+(d:Int) / 100 % 10)=((byt (aE d) 1:Nat):Int) ∧
  IntKind.i64.wrap ((d:Int) / 10)=(d:Int) / 10∧((d:Int) / 10).tmod 10=(d:Int) / 10 % 10∧IntKind.i64.wrap (48+(d:Int) / 10 % 10)=48+(d:Int) / 10 % 10∧IntKind.u8.wrap (48+(d:Int) / 10 % 10)=((byt (aE d) 2:Nat):Int) ∧
  (d:Int).tmod 10=(d:Int) % 10∧IntKind.i64.wrap (48+(d:Int) % 10)=48+(d:Int) % 10∧IntKind.u8.wrap (48+(d:Int) % 10)=((byt (aE d) 3:Nat):Int):=by
 obtain⟨h0,h1,h2,h3⟩:=mc h;rw[h0,h1,h2,h3];rw[Int.tmod_eq_emod_of_nonneg (by omega),Int.tmod_eq_emod_of_nonneg (by omega),Int.tmod_eq_emod_of_nonneg (by omega)];refine⟨IntWalk.i64_in _ (by omega),IntWalk.i64_in _ (by omega),(IntWalk.u8_in _ (by omega)).trans (by omega),IntWalk.i64_in _ (by omega),rfl,IntWalk.i64_in _ (by omega),(IntWalk.u8_in _ (by omega)).trans (by omega),IntWalk.i64_in _ (by omega),rfl,IntWalk.i64_in _ (by omega),(IntWalk.u8_in _ (by omega)).trans (by omega),rfl,IntWalk.i64_in _ (by omega),(IntWalk.u8_in _ (by omega)).trans (by omega)⟩
theorem qw {d:Nat}:aS (aE d)=[((byt (aE d) 0:Nat):Int),((byt (aE d) 1:Nat):Int),((byt (aE d) 2:Nat):Int),((byt (aE d) 3:Nat):Int)]:=rfl
theorem dt (d:Nat):(aE d).length=4:=rfl
theorem j7 {P:Program}{w:World}{b d f:Nat}{src dst:TypeId} (h:Own w b (ET .u8) .u8 (aS (aE d))) (hf:f≤3) (hs:P.underlying src=some (.slice (ET .u8))) (he:P.underlying (ET .u8)=some (.int .u8)) (hd:P.underlying dst=some .string) (cap:Nat) :
  (convert src dst (.slice (some ⟨b,f,none⟩) (4-f) cap)).run P w = .ok (.string (bs ((aE d).drop f))) w:=by
 have:=run_convert_bytes_arg (P:=P) w src (ET .u8) hs he b f (4-f) cap (aS ((aE d).drop f)) (by simp[dt]) (fun i hi=>by
  rw[h.cell (i:=f+i) (by simp[dt];omega),iI,←ko,←iI];rfl) dst hd
 rw[oR] at this;exact this
theorem text_any (x:IV) (z:Int) (w:World) (h:IsZ w x z) :
  Calls Try.prog 56 #[.agg #[.bool x.n,.slice x.s.a x.s.len x.s.cap]] w (fun e w'=>e = .returned (.string (bs (dec z)))∧Ext w w'):=by
 obtain⟨la,hla,na,da,hlea,hza,h0a,hsa⟩:=h.open_;obtain⟨nx,sx⟩:=x;have he0:=(Ext.rf w).al (Obj.cells #[Value.bool nx,Value.slice sx.a sx.len sx.cap] 68);obtain⟨ao,cap,rfl,hcap,hcm,hop⟩:=hla.open_;by_cases hl0:la.length=0
 ·have HD:Hd (dec z=[48]):=hd_ (by
   have e:=List.eq_nil_of_length_eq_zero hl0;have:=h0a e;simp only at this;subst this;rw[hza,e]
   rfl)
  have hlb:((la.length:Int) == 0)=true:=by rw[beq_iff_eq];omega
  clear hla na da hlea hza h0a hsa hl0 hop;go_enter Try.func56,Try.ntmps56;go_wp2;go_ret;exact⟨by rw[HD.out];rfl,(Ext.rf _).al _⟩
 ·have hlb:((la.length:Int) == 0)=false:=by rw[beq_eq_false_iff_ne];omega
  have htop:Hd (at_ la (la.length-1)≠0):=hd_ (na.resolve_left (fun e=>hl0 (by rw[e];rfl)));have hvp:0<valL la:=valL_pos' da na (fun e=>hl0 (by rw[e];rfl));obtain⟨N,hN⟩:=Int.eq_ofNat_of_zero_le (Int.le_of_lt hvp);have hNp:0<N:=by omega
  have HD:Hd (dec z=(if nx then [45] else [])++(aW N).reverse):=hd_ (by
   rw[hza,hN];unfold dec cr sg;cases nx
   ·simp only[Bool.false_eq_true,if_false];rw[if_neg (by omega),if_neg (by omega)];simp
   ·simp only[if_true];rw[if_pos (by omega),if_neg (by omega)];simp)
  replace hN:=hd_ hN;have hlp:0<la.length:=by omega
  clear hla na hza h0a hsa hl0 hvp;cases nx
  ·go_enter Try.func56,Try.ntmps56;go_wp2;go_loopw [3,4] (fun tv i wr => ∃(k:Nat) (L:List UInt8) (q:Nat),tv = .string (bs (([]:List UInt8)++L))∧i = .int .i64 ((k:Int)-1)∧k≤la.length∧L=(aW q).reverse∧valL (la.drop k)=q∧L.length≤4*(la.length-k)∧Ext (w.alloc (Obj.cells #[Value.bool false,Value.slice ao la.length cap] 68)) wr) (fun _ i _=>(intOf i+1).toNat)
   case atStart=>exact⟨la.length,[],0,rfl,rfl,Nat.le_refl _,by rw[bX];rfl,by simp[valL],by simp,Ext.rf _⟩
   case round =>
    obtain⟨k,L,q,rfl,rfl,hk,hL,hq,hLl,hx⟩:=hrel;replace hL:=hd_ hL;replace hq:=hd_ hq
    match k,hk,hq,hLl with
    |0,hk,hq,hLl =>
     have hfin:Hd (L=(aW N).reverse):=hd_ (by
      have h1:=hq.out;rw[List.drop_zero,hN.out] at h1;rw[hL.out,show N=q by omega])
     clear hq;go_wp2;go_ret;exact⟨gB (by rw[HD.out,hfin.out];rfl),he0.tr hx⟩
    |k+1,hk,hq,hLl =>
     rw[show ((k+1:Nat):Int)-1=(k:Int) by omega];obtain⟨ba,oa,rfl,hba,ga⟩:=hop hlp;have hbl:=hba.lt;have ga:=(hx.cell (p:=⟨ba,oa+k,none⟩) (by simp;omega)).trans ((he0.cell (p:=⟨ba,oa+k,none⟩) hbl).trans (ga k hk));have fa:=da.at_ k;obtain⟨d,hd⟩:=Int.eq_ofNat_of_zero_le fa.1;rw[hd] at ga fa;have hd4:d<10000:=by omega
     have hkl:(k:Int)<la.length:=by omega
     clear fa;replace hd:=hd_ hd;obtain⟨hc1,hf1⟩:=cU hx;have hsz:=hx.size;simp only[World.size_alloc] at hsz;have hb1:wr.cell? ⟨w.heap.size,1,none⟩=some (Value.slice (some ⟨ba,oa,none⟩) la.length cap):=(hc1 _ _ (by simp)).trans (by simp);clear hc1 hf1;go_wp2;go_region_held3 (fun w'=>w'.cell? ⟨w.heap.size,1,none⟩=some (Value.slice (some ⟨ba,oa,none⟩) la.length cap)∧w'.cell? ⟨ba,oa+k,none⟩=some (.int .i64 (d:Int))) (go_keep) (fail);go_wp2;obtain⟨e0,e1,e2,e3,e4,e5,e6,e7,e8,e9,e10,e11,e12,e13⟩:=qv hd4;simp only[e0,e1,e2,e3,e4,e5,e6,e7,e8,e9,e10,e11,e12,e13];clear e0 e1 e2 e3 e4 e5 e6 e7 e8 e9 e10 e11 e12 e13;have hOw:Own (wr.alloc (Obj.cells #[Value.int .u8 ((byt (aE d) 0:Nat):Int),Value.int .u8 ((byt (aE d) 1:Nat):Int),Value.int .u8 ((byt (aE d) 2:Nat):Int),Value.int .u8 ((byt (aE d) 3:Nat):Int)] 5)).drew wr.heap.size (ET .u8) .u8 (aS (aE d)):=(Own.new rfl (by rw[qw];rfl)).dr;have hE4:Ext wr (wr.alloc (Obj.cells #[Value.int .u8 ((byt (aE d) 0:Nat):Int),Value.int .u8 ((byt (aE d) 1:Nat):Int),Value.int .u8 ((byt (aE d) 2:Nat):Int),Value.int .u8 ((byt (aE d) 3:Nat):Int)] 5)).drew:=((Ext.rf wr).al _).dr;have hb2:=(hE4.cell (p:=⟨w.heap.size,1,none⟩) (by show w.heap.size<_;omega)).trans hb1;generalize (wr.alloc (Obj.cells #[Value.int .u8 ((byt (aE d) 0:Nat):Int),Value.int .u8 ((byt (aE d) 1:Nat):Int),Value.int .u8 ((byt (aE d) 2:Nat):Int),Value.int .u8 ((byt (aE d) 3:Nat):Int)] 5)).drew=w4 at *;replace hx:=hx.tr hE4;clear ga hb1;have hq2:Hd (valL (la.drop k)=((d+10000*q:Nat):Int)):=hd_ (by rw[valL_drop hk,hd.out,hq.out];omega);have hl4:=qs d;have hp4:=dt d;by_cases hkt:k+1=la.length
     ·have hkb:((k:Int) == (la.length:Int)-1)=true:=by rw[beq_iff_eq];omega
      have hq0:q=0:=by have:=hq.out;rw[List.drop_of_length_le (by omega)] at this;simp[valL] at this;omega
      have hdp:0<d:=by have h1:=htop.out;rw[show la.length-1=k by omega,hd.out] at h1;omega
      have hLf:Hd (L++(aE d).drop (bY d)=(aW (d+10000*q)).reverse):=hd_ (by rw[hL.out,hq0,bX,←qr hd4 hdp];rfl);replace hkt:=hd_ hkt;replace hq0:=hd_ hq0;go_loop [6] (fun fr => ∃f:Nat,fr = .int .i64 f∧f≤bY d) (fun fr=>bY d-(intOf fr).toNat)
      case atStart=>exact⟨0,rfl,Nat.zero_le _⟩
      case round =>
       obtain⟨f,rfl,hf⟩:=hrel;have gc:=hOw.cell (i:=f) (by simp[dt];omega);rw[iI] at gc;by_cases hfl:f<bY d
       ·have hbf:((byt (aE d) f:Int) == 48)=true:=by rw[beq_iff_eq];have:=qt hd4 hfl;omega
        have hf3:f<3:=by omega
        go_wp2;go_round
        case rel=>exact⟨f+1,by go_num,by omega⟩
        case measure=>first | (simp[intOf];done) | (simp[intOf];omega)
       ·have hfe:f=bY d:=by omega
        have hcv:=j7 (P:=Try.prog) (f:=f) (src:=101) (dst:=9) hOw (by omega) Try.underlying101 Try.underlying5 Try.underlying9 (4-f);rw[←hfe] at hLf;by_cases hf3:f<3
        ·have hbf:((byt (aE d) f:Int) == 48)=false:=by rw[beq_eq_false_iff_ne];have:=qu hd4 (by omega);rw[←hfe] at this;omega
         replace hfe:=hd_ hfe;clear hfl;go_wp2;go_roundw
         case rel=>exact⟨k,L++(aE d).drop f,d+10000*q,by simp,rfl,by omega,hLf.out,hq2.out,by rw[List.length_append,List.length_drop,dt];omega,hx⟩
         case measure=>first | (simp[intOf];done) | (simp[intOf];omega)
        ·obtain rfl:f=3:=by omega
         replace hfe:=hd_ hfe;clear hfl;go_wp2;go_roundw
         case rel=>exact⟨k,L++(aE d).drop 3,d+10000*q,by simp,rfl,by omega,hLf.out,hq2.out,by rw[List.length_append,List.length_drop,dt];omega,hx⟩
         case measure=>first | (simp[intOf];done) | (simp[intOf];omega)
     ·have hkb:((k:Int) == (la.length:Int)-1)=false:=by rw[beq_eq_false_iff_ne];omega
      have hqp:0<q:=by
       have h1:=valL_pos (l:=la.drop (k+1)) (fun x hx=>da x (List.mem_of_mem_drop hx)) (i:=la.length-1-(k+1)) (by
        have h2:=htop.out;simp only[at_,List.getD_eq_getElem?_getD,List.getElem?_drop] at h2 ⊢;rw[show k+1+(la.length-1-(k+1))=la.length-1 by omega];exact h2)
       rw[hq.out] at h1;omega
      have hLf:Hd (L++(aE d).drop 0=(aW (d+10000*q)).reverse):=hd_ (by rw[hL.out,qp hd4 hqp];simp);have hcv:=j7 (P:=Try.prog) (f:=0) (src:=101) (dst:=9) hOw (by omega) Try.underlying101 Try.underlying5 Try.underlying9 4;replace hqp:=hd_ hqp;go_loop [6] (fun fr=>fr = .int .i64 0) (fun _=>0)
      case atStart=>rfl
      case round =>
       subst hrel;go_wp2;go_roundw
       case rel=>exact⟨k,L++(aE d).drop 0,d+10000*q,by simp,rfl,by omega,hLf.out,hq2.out,by rw[List.length_append,List.length_drop,dt];omega,hx⟩
       case measure=>first | (simp[intOf];done) | (simp[intOf];omega)
  ·go_enter Try.func56,Try.ntmps56;go_wp2;go_loopw [3,4] (fun tv i wr => ∃(k:Nat) (L:List UInt8) (q:Nat),tv = .string (bs (([45]:List UInt8)++L))∧i = .int .i64 ((k:Int)-1)∧k≤la.length∧L=(aW q).reverse∧valL (la.drop k)=q∧L.length≤4*(la.length-k)∧Ext (w.alloc (Obj.cells #[Value.bool true,Value.slice ao la.length cap] 68)) wr) (fun _ i _=>(intOf i+1).toNat)
   case atStart=>exact⟨la.length,[],0,rfl,rfl,Nat.le_refl _,by rw[bX];rfl,by simp[valL],by simp,Ext.rf _⟩
   case round =>
    obtain⟨k,L,q,rfl,rfl,hk,hL,hq,hLl,hx⟩:=hrel;replace hL:=hd_ hL;replace hq:=hd_ hq
    match k,hk,hq,hLl with
    |0,hk,hq,hLl =>
     have hfin:Hd (L=(aW N).reverse):=hd_ (by
      have h1:=hq.out;rw[List.drop_zero,hN.out] at h1;rw[hL.out,show N=q by omega])
     clear hq;go_wp2;go_ret;exact⟨gB (by rw[HD.out,hfin.out];rfl),he0.tr hx⟩
    |k+1,hk,hq,hLl =>
     rw[show ((k+1:Nat):Int)-1=(k:Int) by omega];obtain⟨ba,oa,rfl,hba,ga⟩:=hop hlp;have hbl:=hba.lt;have ga:=(hx.cell (p:=⟨ba,oa+k,none⟩) (by simp;omega)).trans ((he0.cell (p:=⟨ba,oa+k,none⟩) hbl).trans (ga k hk));have fa:=da.at_ k;obtain⟨d,hd⟩:=Int.eq_ofNat_of_zero_le fa.1;rw[hd] at ga fa;have hd4:d<10000:=by omega
     have hkl:(k:Int)<la.length:=by omega
     clear fa;replace hd:=hd_ hd;obtain⟨hc1,hf1⟩:=cU hx;have hsz:=hx.size;simp only[World.size_alloc] at hsz;have hb1:wr.cell? ⟨w.heap.size,1,none⟩=some (Value.slice (some ⟨ba,oa,none⟩) la.length cap):=(hc1 _ _ (by simp)).trans (by simp);clear hc1 hf1;go_wp2;go_region_held3 (fun w'=>w'.cell? ⟨w.heap.size,1,none⟩=some (Value.slice (some ⟨ba,oa,none⟩) la.length cap)∧w'.cell? ⟨ba,oa+k,none⟩=some (.int .i64 (d:Int))) (go_keep) (fail);go_wp2;obtain⟨e0,e1,e2,e3,e4,e5,e6,e7,e8,e9,e10,e11,e12,e13⟩:=qv hd4;simp only[e0,e1,e2,e3,e4,e5,e6,e7,e8,e9,e10,e11,e12,e13];clear e0 e1 e2 e3 e4 e5 e6 e7 e8 e9 e10 e11 e12 e13;have hOw:Own (wr.alloc (Obj.cells #[Value.int .u8 ((byt (aE d) 0:Nat):Int),Value.int .u8 ((byt (aE d) 1:Nat):Int),Value.int .u8 ((byt (aE d) 2:Nat):Int),Value.int .u8 ((byt (aE d) 3:Nat):Int)] 5)).drew wr.heap.size (ET .u8) .u8 (aS (aE d)):=(Own.new rfl (by rw[qw];rfl)).dr;have hE4:Ext wr (wr.alloc (Obj.cells #[Value.int .u8 ((byt (aE d) 0:Nat):Int),Value.int .u8 ((byt (aE d) 1:Nat):Int),Value.int .u8 ((byt (aE d) 2:Nat):Int),Value.int .u8 ((byt (aE d) 3:Nat):Int)] 5)).drew:=((Ext.rf wr).al _).dr;have hb2:=(hE4.cell (p:=⟨w.heap.size,1,none⟩) (by show w.heap.size<_;omega)).trans hb1;generalize (wr.alloc (Obj.cells #[Value.int .u8 ((byt (aE d) 0:Nat):Int),Value.int .u8 ((byt (aE d) 1:Nat):Int),Value.int .u8 ((byt (aE d) 2:Nat):Int),Value.int .u8 ((byt (aE d) 3:Nat):Int)] 5)).drew=w4 at *;replace hx:=hx.tr hE4;clear ga hb1;have hq2:Hd (valL (la.drop k)=((d+10000*q:Nat):Int)):=hd_ (by rw[valL_drop hk,hd.out,hq.out];omega);have hl4:=qs d;have hp4:=dt d;by_cases hkt:k+1=la.length
     ·have hkb:((k:Int) == (la.length:Int)-1)=true:=by rw[beq_iff_eq];omega
      have hq0:q=0:=by have:=hq.out;rw[List.drop_of_length_le (by omega)] at this;simp[valL] at this;omega
      have hdp:0<d:=by have h1:=htop.out;rw[show la.length-1=k by omega,hd.out] at h1;omega
      have hLf:Hd (L++(aE d).drop (bY d)=(aW (d+10000*q)).reverse):=hd_ (by rw[hL.out,hq0,bX,←qr hd4 hdp];rfl);replace hkt:=hd_ hkt;replace hq0:=hd_ hq0;go_loop [6] (fun fr => ∃f:Nat,fr = .int .i64 f∧f≤bY d) (fun fr=>bY d-(intOf fr).toNat)
      case atStart=>exact⟨0,rfl,Nat.zero_le _⟩
      case round =>
       obtain⟨f,rfl,hf⟩:=hrel;have gc:=hOw.cell (i:=f) (by simp[dt];omega);rw[iI] at gc;by_cases hfl:f<bY d
       ·have hbf:((byt (aE d) f:Int) == 48)=true:=by rw[beq_iff_eq];have:=qt hd4 hfl;omega
        have hf3:f<3:=by omega
        go_wp2;go_round
        case rel=>exact⟨f+1,by go_num,by omega⟩
        case measure=>first | (simp[intOf];done) | (simp[intOf];omega)
       ·have hfe:f=bY d:=by omega
        have hcv:=j7 (P:=Try.prog) (f:=f) (src:=101) (dst:=9) hOw (by omega) Try.underlying101 Try.underlying5 Try.underlying9 (4-f);rw[←hfe] at hLf;by_cases hf3:f<3
        ·have hbf:((byt (aE d) f:Int) == 48)=false:=by rw[beq_eq_false_iff_ne];have:=qu hd4 (by omega);rw[←hfe] at this;omega
         replace hfe:=hd_ hfe;clear hfl;go_wp2;go_roundw
         case rel=>exact⟨k,L++(aE d).drop f,d+10000*q,by simp,rfl,by omega,hLf.out,hq2.out,by rw[List.length_append,List.length_drop,dt];omega,hx⟩
         case measure=>first | (simp[intOf];done) | (simp[intOf];omega)
        ·obtain rfl:f=3:=by omega
         replace hfe:=hd_ hfe;clear hfl;go_wp2;go_roundw
         case rel=>exact⟨k,L++(aE d).drop 3,d+10000*q,by simp,rfl,by omega,hLf.out,hq2.out,by rw[List.length_append,List.length_drop,dt];omega,hx⟩
         case measure=>first | (simp[intOf];done) | (simp[intOf];omega)
     ·have hkb:((k:Int) == (la.length:Int)-1)=false:=by rw[beq_eq_false_iff_ne];omega
      have hqp:0<q:=by
       have h1:=valL_pos (l:=la.drop (k+1)) (fun x hx=>da x (List.mem_of_mem_drop hx)) (i:=la.length-1-(k+1)) (by
        have h2:=htop.out;simp only[at_,List.getD_eq_getElem?_getD,List.getElem?_drop] at h2 ⊢;rw[show k+1+(la.length-1-(k+1))=la.length-1 by omega];exact h2)
       rw[hq.out] at h1;omega
      have hLf:Hd (L++(aE d).drop 0=(aW (d+10000*q)).reverse):=hd_ (by rw[hL.out,qp hd4 hqp];simp);have hcv:=j7 (P:=Try.prog) (f:=0) (src:=101) (dst:=9) hOw (by omega) Try.underlying101 Try.underlying5 Try.underlying9 4;replace hqp:=hd_ hqp;go_loop [6] (fun fr=>fr = .int .i64 0) (fun _=>0)
      case atStart=>rfl
      case round =>
       subst hrel;go_wp2;go_roundw
       case rel=>exact⟨k,L++(aE d).drop 0,d+10000*q,by simp,rfl,by omega,hLf.out,hq2.out,by rw[List.length_append,List.length_drop,dt];omega,hx⟩
       case measure=>first | (simp[intOf];done) | (simp[intOf];omega)
end Go.Proofs.Ytdchbabgopglcaa.Z4
