/- Lemmas. -/
import Derived.Test.YtdchbabgopglcaaC4
namespace Go.Proofs.Ytdchbabgopglcaa
open Go.RowKit
set_option maxHeartbeats 1000000
theorem lj (s t:SV) (a b:List Int) (w:World) (ha:IsL w s .u32 a) (hb:IsL w t .u32 b) (na:Norm a) (nb:Norm b) :
  Calls Try.prog 58 #[.slice s.a s.len s.cap,.slice t.a t.len t.cap] w (fun e w'=>e = .returned (.int .i64 (cmpZ (valL a) (valL b)))∧Ext w w'):=by
 have da:Dig a:=ha.2;have db:Dig b:=hb.2;obtain⟨ao,ca,rfl,hca,hcam,hopa⟩:=ha.open_;obtain⟨bo,cb,rfl,hcb,hcbm,hopb⟩:=hb.open_;rcases Nat.lt_trichotomy a.length b.length with hl | hl | hl
 ·have H:=hd_ (ei (valL_lt_of_len da db nb hl));have H2:cmpZ (a.length:Int) b.length = -1:=ei (by omega);go_enter Try.func58,Try.ntmps58;go_wp2_with (go_at_call 68;refine (lP _ _ _).mono ?_;rintro e w' ⟨rfl,rfl⟩);go_ret;exact⟨by rw[H.out];rfl,Ext.rf _⟩
 ·have H2:cmpZ (a.length:Int) b.length=0:=gT (by omega);go_enter Try.func58,Try.ntmps58;have Hl:=hd_ hl;clear hl;go_wp2_with (go_at_call 68;refine (lP _ _ _).mono ?_;rintro e w' ⟨rfl,rfl⟩);go_loopw [6] (fun i wr=>((i = .int .i64 (-1)∧∀j,at_ a j=at_ b j)∨∃k:Nat,i = .int .i64 k∧k<a.length∧∀j,k<j→at_ a j=at_ b j)∧Ext w wr) (fun i _=>(intOf i+1).toNat)
  case atStart =>
   refine⟨?_,Ext.rf _⟩;have Hl:=Hl.out;rcases Nat.eq_zero_or_pos a.length with h0 | h0
   ·exact .inl ⟨by rw[h0];rfl,fun j=>by rw[a8 (by omega),a8 (by omega)]⟩
   ·refine .inr ⟨a.length-1,?_,by omega,fun j hj=>by rw[a8 (by omega),a8 (by omega)]⟩;congr 1;omega
  case round =>
   obtain⟨hrel,hx⟩:=hrel;rcases hrel with⟨rfl,heq⟩ | ⟨k,rfl,hk,heq⟩
   ·have H:=hd_ (gT (congrArg valL (gS Hl.out heq)));clear heq;go_wp2;go_ret;exact⟨by rw[H.out];rfl,hx⟩
   ·replace heq:=hd_ heq;have hkb:k<b.length:=by have:=Hl.out;omega
    obtain⟨ba,oa,rfl,hba,ga⟩:=hopa (by omega);obtain⟨bb,ob,rfl,hbb,gb⟩:=hopb (by omega);have ga:=(hx.cell (p:=⟨ba,oa+k,none⟩) hba.lt).trans (ga k hk);have gb:=(hx.cell (p:=⟨bb,ob+k,none⟩) hbb.lt).trans (gb k hkb);rcases Int.lt_trichotomy (at_ a k) (at_ b k) with h | h | h
    ·have H:=hd_ (ei (valL_lt_of_at da db Hl.out hk heq.out h));have H2:=ei h;clear h;go_wp2;go_quiet ((go_at_call 69;exact Calls.quiet_of_same ((lQ _ _ _).mono fun _ _ h=>⟨h.1,h.2.symm⟩)));go_wp2;go_ret;exact⟨by rw[H.out,←H2];rfl,below_drewN hx _⟩
    ·have H2:=gT h;have H:=hd_ h;clear h;go_wp2;go_quiet ((go_at_call 69;exact Calls.quiet_of_same ((lQ _ _ _).mono fun _ _ h=>⟨h.1,h.2.symm⟩)));go_wp2;go_roundw
     case rel =>
      refine⟨?_,below_drewN hx _⟩;rcases Nat.eq_zero_or_pos k with h0 | h0
      ·exact .inl ⟨by rw[h0];rfl,fun j=>by
        rcases Nat.eq_zero_or_pos j with h1 | h1
        ·subst h1;subst h0;exact H.out
        ·exact heq.out j (by omega)⟩
      ·exact .inr ⟨k-1,by congr 1;omega,by omega,fun j hj=>if e:j=k then by rw[e];exact H.out else heq.out j (by omega)⟩
     case measure=>first | (simp[intOf];done) | (simp[intOf];omega)
    ·have H:=hd_ (fq (valL_lt_of_at db da Hl.out.symm hkb (fun j hj=>(heq.out j hj).symm) h));have H2:=fq h;clear h;go_wp2;go_quiet ((go_at_call 69;exact Calls.quiet_of_same ((lQ _ _ _).mono fun _ _ h=>⟨h.1,h.2.symm⟩)));go_wp2;go_ret;exact⟨by rw[H.out,←H2];rfl,below_drewN hx _⟩
 ·have H:=hd_ (fq (valL_lt_of_len db da na hl));have H2:cmpZ (a.length:Int) b.length=1:=fq (by omega);go_enter Try.func58,Try.ntmps58;go_wp2_with (go_at_call 68;refine (lP _ _ _).mono ?_;rintro e w' ⟨rfl,rfl⟩);go_ret;exact⟨by rw[H.out];rfl,Ext.rf _⟩
def oZ (w:World) (n:Nat) (z:Int) (e:Ending) (w':World):Prop:=
 ∃(s:SV) (l:List Int),e = .returned (.slice s.a s.len s.cap)∧IsL w' s .u32 l∧l.length=n∧valL l=z∧Ext w w'
theorem eU (n:Nat):Dig (List.replicate n 0):=by
 intro x hx;have:=List.eq_of_mem_replicate hx;omega
def FA (w:World) (z:Int) (e:Ending) (w':World):Prop:=
 ∃(s:SV) (l:List Int),e = .returned (.slice s.a s.len s.cap)∧IsL w' s .u32 l∧valL l=z∧Ext w w'
theorem jA {va vb vo c p x y q:Int} (h:vo+c*p=va+vb) (hq:p*4294967296=q):vo+(x+y+c) % 4294967296*p+(x+y+c) / 4294967296*q=va+x*p+(vb+y*p):=by
 have h1:(x+y+c) % 4294967296=(x+y+c)-4294967296*((x+y+c) / 4294967296):=by omega
 rw[h1,←hq];generalize (x+y+c) / 4294967296=d;grind
theorem FB (s t:SV) (a b:List Int) (w:World) (ha:IsL w s .u32 a) (hb:IsL w t .u32 b) (hla:a.length≤1099511627776) (hlb:b.length≤1099511627776) :
  Calls Try.prog 76 #[.slice s.a s.len s.cap,.slice t.a t.len t.cap] w (oZ w (max a.length b.length+1) (valL a+valL b)):=by
 have da:Dig a:=ha.2;have db:Dig b:=hb.2;obtain⟨ao,ca,rfl,hca,hcam,hopa⟩:=ha.open_;obtain⟨bo,cb,rfl,hcb,hcbm,hopb⟩:=hb.open_;by_cases hl:a.length<b.length
 ·have hm:=hd_ (show max a.length b.length+1=b.length+1 by omega);have hv:=hd_ (Int.add_comm (valL a) (valL b));go_enter Try.func76,Try.ntmps76;go_wp2_with (at_make;refine fg _ rfl _ _ 60 rfl 100 .u32 4 Try.underlying60 dZ _ _ _ _ (b.length+1) rfl rfl (by omega) (by omega) (by omega) (by omega) ?_;intro w1 hown1 hx1 hlt1);go_loopw [6,23] (fun c i wr => ∃(k:Nat) (cc:Int) (o:List Int),c = .int .u32 cc∧i = .int .i64 k∧k≤b.length∧Own wr w.heap.size 100 .u32 o∧o.length=b.length+1∧Dig o∧(0≤cc∧cc≤1) ∧
    valL (o.take k)+cc*4294967296^k=valL (b.take k)+valL (a.take k)∧Ext w wr) (fun _ i _=>b.length-(intOf i).toNat)
  case atStart=>exact⟨0,0,_,rfl,rfl,Nat.zero_le _,hown1,by simp,eU _,by omega,by simp[valL],hx1⟩
  case round =>
   obtain⟨k,cc,o,rfl,rfl,hk,hown,hol,hdo,hcc,hval,hx⟩:=hrel;clear hown1;replace hval:=hd_ hval;replace hol:=hd_ hol;by_cases hlt:k<b.length
   ·obtain⟨bb,ob,rfl,hbb,gb⟩:=hopb (by omega);have gb:=(hx.cell (p:=⟨bb,ob+k,none⟩) hbb.lt).trans (gb k hlt);have go:=hown.cell (i:=k) (by have:=hol.out;omega);have gf:=hown.frozen k;have fa:=da.at_ k;have fb:=db.at_ k;by_cases hlt2:k<a.length
    ·obtain⟨ba,oa,rfl,hba,ga⟩:=hopa (by omega);have ga:=(hx.cell (p:=⟨ba,oa+k,none⟩) hba.lt).trans (ga k hlt2);go_wp2_with (go_at_call 86;refine (iD _ _ _ _ fb fa hcc).mono ?_;rintro e w' ⟨rfl,rfl⟩);go_roundw
     case rel =>
      refine⟨k+1,_,o.set k _,rfl,by go_num,by omega,hown.set k _,by rw[List.length_set];exact hol.out,hdo.set k (by omega),by omega,?_,hx.st (Nat.le_refl _) _⟩;rw[valL_set (by have:=hol.out;omega),valL_take_succ,valL_take_succ];exact jA hval.out (Int.pow_succ ..).symm
     case measure=>first | (simp[intOf];done) | (simp[intOf];omega)
    ·have h0:at_ a k=0:=a8 (by omega);replace h0:=hd_ h0;go_wp2_with (go_at_call 86;refine (iD _ _ _ _ fb (by omega) hcc).mono ?_;rintro e w' ⟨rfl,rfl⟩);go_roundw
     case rel =>
      refine⟨k+1,_,o.set k _,rfl,by go_num,by omega,hown.set k _,by rw[List.length_set];exact hol.out,hdo.set k (by omega),by omega,?_,hx.st (Nat.le_refl _) _⟩;rw[valL_set (by have:=hol.out;omega),valL_take_succ,valL_take_succ,h0.out];have S:=jA (x:=at_ b k) (y:=0) hval.out (Int.pow_succ 4294967296 k).symm;rw[Int.add_zero] at S;exact S
     case measure=>first | (simp[intOf];done) | (simp[intOf];omega)
   ·obtain rfl:k=b.length:=by omega
    have go:=hown.cell (i:=b.length) (by have:=hol.out;omega);have gf:=hown.frozen b.length;go_wp2;go_ret;refine⟨⟨some ⟨w.heap.size,0,none⟩,b.length+1,b.length+1⟩,o.set b.length cc,rfl,?_,by rw[List.length_set,hol.out,hm.out],?_,hx.st (Nat.le_refl _) _⟩
    ·have:=(hown.set b.length cc).isL (by rw[List.length_set,hol.out];omega) (hdo.set _ (by omega));rw[List.length_set,hol.out] at this;exact this
    ·have h1:=valL_set (l:=o) (i:=b.length) (by have:=hol.out;omega) cc;rw[List.take_of_length_le (by rw[List.length_set];have:=hol.out;omega)] at h1;exact (h1.trans (by rw[hval.out,List.take_of_length_le (Nat.le_refl _),List.take_of_length_le (by omega)])).trans (by first | exact hv.out.symm | rfl)
 ·have hm:=hd_ (show max a.length b.length+1=a.length+1 by omega);have hv:=hd_ (rfl:valL a+valL b=valL a+valL b);go_enter Try.func76,Try.ntmps76;go_wp2_with (at_make;refine fg _ rfl _ _ 60 rfl 100 .u32 4 Try.underlying60 dZ _ _ _ _ (a.length+1) rfl rfl (by omega) (by omega) (by omega) (by omega) ?_;intro w1 hown1 hx1 hlt1);go_loopw [6,23] (fun c i wr => ∃(k:Nat) (cc:Int) (o:List Int),c = .int .u32 cc∧i = .int .i64 k∧k≤a.length∧Own wr w.heap.size 100 .u32 o∧o.length=a.length+1∧Dig o∧(0≤cc∧cc≤1) ∧
    valL (o.take k)+cc*4294967296^k=valL (a.take k)+valL (b.take k)∧Ext w wr) (fun _ i _=>a.length-(intOf i).toNat)
  case atStart=>exact⟨0,0,_,rfl,rfl,Nat.zero_le _,hown1,by simp,eU _,by omega,by simp[valL],hx1⟩
  case round =>
   obtain⟨k,cc,o,rfl,rfl,hk,hown,hol,hdo,hcc,hval,hx⟩:=hrel;clear hown1;replace hval:=hd_ hval;replace hol:=hd_ hol;by_cases hlt:k<a.length
   ·obtain⟨ba,oa,rfl,hbb,gb⟩:=hopa (by omega);have gb:=(hx.cell (p:=⟨ba,oa+k,none⟩) hbb.lt).trans (gb k hlt);have go:=hown.cell (i:=k) (by have:=hol.out;omega);have gf:=hown.frozen k;have fa:=db.at_ k;have fb:=da.at_ k;by_cases hlt2:k<b.length
    ·obtain⟨bb,ob,rfl,hba,ga⟩:=hopb (by omega);have ga:=(hx.cell (p:=⟨bb,ob+k,none⟩) hba.lt).trans (ga k hlt2);go_wp2_with (go_at_call 86;refine (iD _ _ _ _ fb fa hcc).mono ?_;rintro e w' ⟨rfl,rfl⟩);go_roundw
     case rel =>
      refine⟨k+1,_,o.set k _,rfl,by go_num,by omega,hown.set k _,by rw[List.length_set];exact hol.out,hdo.set k (by omega),by omega,?_,hx.st (Nat.le_refl _) _⟩;rw[valL_set (by have:=hol.out;omega),valL_take_succ,valL_take_succ];exact jA hval.out (Int.pow_succ ..).symm
     case measure=>first | (simp[intOf];done) | (simp[intOf];omega)
    ·have h0:at_ b k=0:=a8 (by omega);replace h0:=hd_ h0;go_wp2_with (go_at_call 86;refine (iD _ _ _ _ fb (by omega) hcc).mono ?_;rintro e w' ⟨rfl,rfl⟩);go_roundw
     case rel =>
      refine⟨k+1,_,o.set k _,rfl,by go_num,by omega,hown.set k _,by rw[List.length_set];exact hol.out,hdo.set k (by omega),by omega,?_,hx.st (Nat.le_refl _) _⟩;rw[valL_set (by have:=hol.out;omega),valL_take_succ,valL_take_succ,h0.out];have S:=jA (x:=at_ a k) (y:=0) hval.out (Int.pow_succ 4294967296 k).symm;rw[Int.add_zero] at S;exact S
     case measure=>first | (simp[intOf];done) | (simp[intOf];omega)
   ·obtain rfl:k=a.length:=by omega
    have go:=hown.cell (i:=a.length) (by have:=hol.out;omega);have gf:=hown.frozen a.length;go_wp2;go_ret;refine⟨⟨some ⟨w.heap.size,0,none⟩,a.length+1,a.length+1⟩,o.set a.length cc,rfl,?_,by rw[List.length_set,hol.out,hm.out],?_,hx.st (Nat.le_refl _) _⟩
    ·have:=(hown.set a.length cc).isL (by rw[List.length_set,hol.out];omega) (hdo.set _ (by omega));rw[List.length_set,hol.out] at this;exact this
    ·have h1:=valL_set (l:=o) (i:=a.length) (by have:=hol.out;omega) cc;rw[List.take_of_length_le (by rw[List.length_set];have:=hol.out;omega)] at h1;exact (h1.trans (by rw[hval.out,List.take_of_length_le (Nat.le_refl _),List.take_of_length_le (by omega)])).trans (by first | exact hv.out.symm | rfl)
theorem o6 {va vb vo c p x y q:Int} (h:vo-c*p=va-vb) (hq:p*4294967296=q):vo+(x-y-c) % 4294967296*p-bor x y c*q=va+x*p-(vb+y*p)∨¬ (0≤x∧x≤4294967295∧0≤y∧y≤4294967295∧0≤c∧c≤1):=by
 by_cases hh:0≤x∧x≤4294967295∧0≤y∧y≤4294967295∧0≤c∧c≤1
 ·left
  have h1:(x-y-c) % 4294967296=(x-y-c)+4294967296*bor x y c:=by unfold bor;split<;>omega
  rw[h1,←hq];generalize bor x y c=d;grind
 ·exact .inr hh
theorem lk (x y c:Int):0≤bor x y c∧bor x y c≤1:=by unfold bor;split<;>omega
theorem ln (s t:SV) (a b:List Int) (w:World) (ha:IsL w s .u32 a) (hb:IsL w t .u32 b) (hla:a.length≤1099511627776) (hlb:b.length≤a.length) (hge:valL b≤valL a) :
  Calls Try.prog 62 #[.slice s.a s.len s.cap,.slice t.a t.len t.cap] w (oZ w a.length (valL a-valL b)):=by
 have da:Dig a:=ha.2;have db:Dig b:=hb.2;replace hge:=hd_ hge;obtain⟨ao,ca,rfl,hca,hcam,hopa⟩:=ha.open_;obtain⟨bo,cb,rfl,hcb,hcbm,hopb⟩:=hb.open_;go_enter Try.func62,Try.ntmps62;go_wp2_with (at_make;refine fg _ rfl _ _ 60 rfl 100 .u32 4 Try.underlying60 dZ _ _ _ _ a.length rfl rfl (by omega) (by omega) (by omega) (by omega) ?_;intro w1 hown1 hx1 hlt1);go_loopw [6,15] (fun c i wr => ∃(k:Nat) (cc:Int) (o:List Int),c = .int .u32 cc∧i = .int .i64 k∧k≤a.length∧Own wr w.heap.size 100 .u32 o∧o.length=a.length∧Dig o∧(0≤cc∧cc≤1) ∧
   valL (o.take k)-cc*4294967296^k=valL (a.take k)-valL (b.take k)∧Ext w wr) (fun _ i _=>a.length-(intOf i).toNat)
 case atStart=>exact⟨0,0,_,rfl,rfl,Nat.zero_le _,hown1,by simp,eU _,by omega,by simp[valL],hx1⟩
 case round =>
  obtain⟨k,cc,o,rfl,rfl,hk,hown,hol,hdo,hcc,hval,hx⟩:=hrel;clear hown1;replace hval:=hd_ hval;replace hol:=hd_ hol;by_cases hlt:k<a.length
  ·obtain⟨ba,oa,rfl,hba,ga⟩:=hopa (by omega);have ga:=(hx.cell (p:=⟨ba,oa+k,none⟩) hba.lt).trans (ga k hlt);have go:=hown.cell (i:=k) (by have:=hol.out;omega);have gf:=hown.frozen k;have fa:=da.at_ k;have fb:=db.at_ k;by_cases hlt2:k<b.length
   ·obtain⟨bb,ob,rfl,hbb,gb⟩:=hopb (by omega);have gb:=(hx.cell (p:=⟨bb,ob+k,none⟩) hbb.lt).trans (gb k hlt2);have hb01:=lk (at_ a k) (at_ b k) cc;go_wp2_with (go_at_call 77;refine (pU _ _ _ _ fa fb hcc).mono ?_;rintro e w' ⟨rfl,rfl⟩);go_roundw
    case rel =>
     refine⟨k+1,_,o.set k _,rfl,by go_num,by omega,hown.set k _,by rw[List.length_set];exact hol.out,hdo.set k (by omega),hb01,?_,hx.st (Nat.le_refl _) _⟩;rw[valL_set (by have:=hol.out;omega),valL_take_succ,valL_take_succ];exact (o6 hval.out (Int.pow_succ ..).symm).resolve_right (by omega)
    case measure=>first | (simp[intOf];done) | (simp[intOf];omega)
   ·have h0:at_ b k=0:=a8 (by omega);replace h0:=hd_ h0;have hb01:=lk (at_ a k) 0 cc;go_wp2_with (go_at_call 77;refine (pU _ _ _ _ fa (by omega) hcc).mono ?_;rintro e w' ⟨rfl,rfl⟩);go_roundw
    case rel =>
     refine⟨k+1,bor (at_ a k) 0 cc,o.set k ((at_ a k-cc) % 4294967296),rfl,by go_num,by omega,hown.set k _,by rw[List.length_set];exact hol.out,hdo.set k (by omega),hb01,?_,hx.st (Nat.le_refl _) _⟩;rw[valL_set (by have:=hol.out;omega),valL_take_succ,valL_take_succ,h0.out];have S:=(o6 (x:=at_ a k) (y:=0) hval.out (Int.pow_succ 4294967296 k).symm).resolve_right (by omega);rw[Int.sub_zero] at S;exact S
    case measure=>first | (simp[intOf];done) | (simp[intOf];omega)
  ·obtain rfl:k=a.length:=by omega
   go_wp2;go_ret;refine⟨⟨some ⟨w.heap.size,0,none⟩,a.length,a.length⟩,o,rfl,?_,hol.out,?_,hx⟩
   ·have:=hown.isL (by have:=hol.out;omega) hdo;rw[hol.out] at this;exact this
   ·have h1:=hval.out;have h2:=valL_lt hdo;have h3:=valL_nonneg hdo;have h4:=hge.out;rw[List.take_of_length_le (by have:=hol.out;omega),List.take_of_length_le (Nat.le_refl _),List.take_of_length_le (by omega)] at h1;rw[hol.out] at h2;have hc:cc=0:=by
     rcases (show cc=0∨cc=1 by omega) with h | h
     ·exact h
     ·rw[h,Int.one_mul] at h1;omega
    rw[hc,Int.zero_mul] at h1;omega
end Go.Proofs.Ytdchbabgopglcaa
namespace Go.Proofs.Ytdchbabgopglcaa.M
open Go.RowKit
def opd (P:Program) (T:Option TypeId):Operand→Opd
 |.tmp t => .t t
 |.const (.bool b) => .k (.p (.bool b))
 |.const (.int k n) => .k (.p (.int k n))
 |.const (.string s) => .k (.p (.str s.data.toList))
 |.const (.pointer none) => .k (.p .nilp)
 |.const (.slice none 0 0)=>match T.bind P.underlying with
  |some (.slice e) => .k (.nils e (P.cellsOf e))
  |_ => .k .und
 |.func f => .k (.p (.fn (.func f) [] []))
 |_ => .k .und
theorem RP (P:Program) (T:Option TypeId) (x:Operand){w:World}{N:Nat→Prop}{loc:aU}{a:Act}{r:Nat→AV} (h:∀t,RV w N loc (a.tmps.getD t undef) (r t)) :
  RV w N loc (a.eval x) ((opd P T x).ev r):=by
 unfold opd;split
 ·exact h _
 ·exact .p _ _ (.bool _)
 ·exact .p _ _ (.int _ _)
 ·exact .p _ _ (.str _)
 ·exact .p _ _ .nilp
 ·split
  ·exact .nils _ _
  ·exact .und _
 ·exact .p _ _ (.fn _ _ _ [] [] rfl rfl (fun i d h=>by simp at h) (fun i d h=>by simp at h))
 ·exact .und _
def cP (P:Program) (T:TypeId):Option (Bool×Nat):=match P.underlying T,P.info? T with
 |some d,some i=>some (pX d,i.size)
 |_,_=>none
theorem dv {P:Program}{T:TypeId}{ag:Bool}{sz:Nat} (h:cP P T=some (ag,sz)):bM P T ag sz:=by
 unfold cP at h;split at h
 ·rename_i d i h1 h2;simp only[Option.some.injEq,Prod.mk.injEq] at h;exact⟨d,i,h1,h.1,h2,h.2⟩
 ·cases h
def my (P:Program):Nat→TypeId→Option (List D)
 |0,_=>none
 |n+1,T=>match P.underlying T with
  |some .bool=>some [.bool false]
  |some (.int k)=>some [.int k 0]
  |some .string=>some [.str []]
  |some (.pointer _)=>some [.nilp]
  |some (.slice e)=>some [.list e (P.cellsOf e) []]
  |some (.struct fs)=>(fs.toList.mapM fun f=>my P n f.type).map List.flatten
  |some (.array k e)=>(my P n e).map fun l=>(List.replicate k l).flatten
  |_=>none
def i6:Value→D→Bool
 |.bool a,.bool b=>a == b
 |.int k a,.int k' b=>k == k'&&a == b
 |.string s,.str l=>s.data.toList == l
 |.pointer none,.nilp=>true
 |.slice none 0 0,.list _ _ []=>true
 |_,_=>false
def fy:List Value→List D→Bool
 |[],[]=>true
 |v::vs,d::ds=>i6 v d&&fy vs ds
 |_,_=>false
theorem rb {v:Value}{d:D} (h:i6 v d=true) (w:World) (N:Nat→Prop):V w N v d∧d.one=true:=by
 unfold i6 at h;split at h
 ·have:=eq_of_beq h;subst this;exact⟨.bool _,rfl⟩
 ·simp only[Bool.and_eq_true,beq_iff_eq] at h;obtain⟨rfl,rfl⟩:=h;exact⟨.int _ _,rfl⟩
 ·simp only[beq_iff_eq] at h;subst h;exact⟨.str _,rfl⟩
 ·exact⟨.nilp,rfl⟩
 ·exact⟨.empty _ _ _ _ (by omega),rfl⟩
 ·cases h
theorem gX:∀{vs:List Value}{ds:List D},fy vs ds=true→vs.length=ds.length∧∀i d,ds[i]? = some d→d.one=true∧∀(w:World) (N:Nat→Prop),V w N (vs.getD i undef) d
 |[],[],_=>⟨rfl,fun i d h=>by simp at h⟩
 |v::vs,d::ds,h=>by
  simp only[fy,Bool.and_eq_true] at h;obtain⟨g1,g2⟩:=gX h.2;refine⟨by simp[g1],fun i d' hi => ?_⟩
  match i,hi with
  |0,hi=>simp at hi;subst hi;exact⟨(rb h.1 default (fun _=>True)).2,fun w N=>(rb h.1 w N).1⟩
  |i+1,hi=>simpa using g2 i d' (by simpa using hi)
 |[],_::_,h=>by simp[fy] at h
 |_::_,[],h=>by simp[fy] at h
def eI (P:Program) (T:TypeId):Option (List D×Bool×Nat):=match P.info? T,cP P T,my P 20 T with
 |some i,some (ag,sz),some l=>match i.zero with
  |some z=>if fy z.cells.toList l&&l.length == sz&&(ag||sz == 1) then some (l,ag,sz) else none
  |none=>none
 |_,_,_=>none
def ZOk (P:Program) (T:TypeId) (l:List D) (ag:Bool) (sz:Nat):Prop:=∃i z,P.info? T=some i∧i.zero=some z∧bM P T ag sz∧fy z.cells.toList l=true∧l.length=sz∧(ag=false→sz=1)
theorem fA {P:Program}{T:TypeId}{l:List D}{ag:Bool}{sz:Nat} (h:eI P T=some (l,ag,sz)):ZOk P T l ag sz:=by
 unfold eI at h;split at h
 ·rename_i i ag' sz' l' h1 h2 h3;split at h
  ·rename_i z hz;split at h
   ·rename_i hc;simp only[Bool.and_eq_true,Bool.or_eq_true,beq_iff_eq] at hc;simp only[Option.some.injEq,Prod.mk.injEq] at h;obtain⟨rfl,rfl,rfl⟩:=h;exact⟨i,z,h1,hz,dv h2,hc.1.1,hc.1.2,fun e=>hc.2.resolve_left (by simp[e])⟩
   ·cases h
  ·cases h
 ·cases h
def ej (l:List D) (ag:Bool):AV:=if ag then .p (.agg l) else match l with
 |[.list T sz []] => .nils T sz
 |[d] => .p d
 |_ => .und
def re (v:AV) (sz:Nat):Bool:=v.cells.length == sz&&v.cells.all AV.one
def kq (P:Program) (T:TypeId):Bool:=match P.underlying T with
 |some (.struct fs) => !P.stoodInHeld T && !P.eqGuardType P.depth T && fs.toList.zipIdx.all fun (f, i) => f.offset == i && f.name != "_" && (match P.underlying f.type with | some (.int _) => true | _ => false)
 |_=>false
def mz (P:Program) (T e:TypeId):Bool:=!P.eqGuardType P.depth T&&(P.cellsOf e == 1)&&(P.info? e).isSome&&(match P.underlying e with | some (.int _)=>true | _=>false)
def gY (e sz b:Nat) (x y:Opd):AOp:=match x with
 |.k (.nils e2 sz2)=>if sz2 == sz&&e2 == e then .copyS e sz b y else .append e sz b x y
 |_ => .append e sz b x y
theorem rg (e sz b:Nat) (x y:Opd):gY e sz b x y = .append e sz b x y∨(gY e sz b x y = .copyS e sz b y∧x = .k (.nils e sz)):=by
 unfold gY;split
 ·rename_i e2 sz2;split
  ·rename_i hh;simp only[Bool.and_eq_true,beq_iff_eq] at hh;obtain⟨rfl,rfl⟩:=hh;exact .inr ⟨rfl,rfl⟩
  ·exact .inl rfl
 ·exact .inl rfl
theorem cQ {e sz b:Nat}{x y:Opd}{z:AOp} (h:gY e sz b x y=z):(∃T sz b x y,z = .append T sz b x y)∨∃T sz b y,z = .copyS T sz b y:=by
 rcases rg e sz b x y with h1 | ⟨h1,-⟩<;>rw[h1] at h<;>subst h
 ·exact .inl ⟨_,_,_,_,_,rfl⟩
 ·exact .inr ⟨_,_,_,_,rfl⟩
def aop (P:Program) (o:Oper):Option AOp:=
 match o.op with
 |.move x=>some (.mov (opd P (some o.type) x))
 |.assign x=>some (.mov (opd P (some o.type) x))
 |.nilCheck x=>some (.nilCheck (opd P none x))
 |.pick c a b=>some (.pick (opd P none c) (opd P (some o.type) a) (opd P (some o.type) b))
 |.alloc T=>match eI P T with
  |some (l,ag,sz)=>if re (ej l ag) sz then some (.alloc T sz (ej l ag)) else none
  |none=>none
 |.box T x=>match cP P T with
  |some (_,sz)=>some (.box T sz (opd P (some T) x))
  |none=>none
 |.build T parts=>match eI P T,P.underlying T with
  |some (l,true,_),some (.struct fs)=>match fs.toList.mapM (fun f=>(P.info? f.type).map fun i=>(f.offset,i.size)) with
   |some places=>match parts.toList.mapM (fun p:Nat×Operand=>match places[p.1]?,fs[p.1]? with
     |some (off,sz),some f=>some (off,sz,opd P (some f.type) p.2)
     |_,_=>none) with
    |some ps=>some (.build (l.map .p) ps)
    |none=>none
   |none=>none
  |some (l,true,_),some (.array _ e)=>match P.info? e with
   |some i=>some (.build (l.map .p) (parts.toList.map fun p:Nat×Operand=>(p.1*i.size,i.size,opd P (some e) p.2)))
   |none=>none
  |_,_=>none
 |.buildSlice T n parts=>match P.underlying T with
  |some (.slice e)=>match eI P e with
   |some (l,ag,sz)=>if n*sz≤16777216∧n≤9223372036854775807 then some (.buildSlice e sz (if ag then .agg l else l.headD default) n (parts.toList.map fun (i,x)=>(i,opd P (some e) x))) else none
   |none=>none
  |_=>none
 |.load T x=>match cP P T with
  |some (ag,sz)=>if ag||sz == 1 then some (.load ag sz (opd P none x)) else none
  |none=>none
 |.store T x v=>match cP P T with
  |some (_,sz)=>some (.store sz (opd P none x) (opd P (some T) v))
  |none=>none
 |.binOp op T x y _=>match P.underlying T with
  |some (.int _)=>some (.bin false op (opd P none x) (opd P none y))
  |some .string=>some (.bin false op (opd P none x) (opd P none y))
  |some .bool=>some (.bin true op (opd P none x) (opd P none y))
  |some (.struct fs)=>if kq P T then match op with
    |.eql=>some (.eqs fs.size false (opd P none x) (opd P none y))
    |.neq=>some (.eqs fs.size true (opd P none x) (opd P none y))
    |_=>none else none
  |some (.slice _)=>match op,y with
   |.eql,.const (.slice none 0 0)=>some (.isNil false (opd P none x))
   |.neq,.const (.slice none 0 0)=>some (.isNil true (opd P none x))
   |_,_=>none
  |some (.array n e)=>if mz P T e then match op with
    |.eql=>some (.eqs n false (opd P none x) (opd P none y))
    |.neq=>some (.eqs n true (opd P none x) (opd P none y))
    |_=>none else none
  |_=>none
 |.unOp op _ x=>some (.un op (opd P none x))
 |.convert S T x=>match P.underlying S,P.underlying T with
  |some _,some (.int k)=>some (.conv k (opd P none x))
  |some (.slice e),some .string=>match P.underlying e with
   |some (.int .u8)=>some (.strB (opd P none x))
   |_=>none
  |some .string,some (.slice e)=>match P.underlying e with
   |some (.int .u8)=>some (.bytS e (opd P none x))
   |_=>none
  |_,_=>none
 |.makeSlice T l c=>match P.underlying T with
  |some (.slice e)=>match eI P e,P.info? e with
   |some (z,ag,sz),some i=>some (.makeSlice e sz i.bytes (if ag then .agg z else z.headD default) (opd P none l) (opd P none c))
   |_,_=>none
  |_=>none
 |.slice T x lo hi mx=>match P.underlying T with
  |some .string=>if mx.isSome then none else some (.sliceS (opd P none x) (lo.map (opd P none)) (hi.map (opd P none)))
  |some (.slice e)=>match cP P e with
   |some (_,sz)=>if mx.isSome&&hi.isNone then none else some (.slice sz (opd P none x) (lo.map (opd P none)) (hi.map (opd P none)) (mx.map (opd P none)))
   |none=>none
  |some (.array n e)=>match cP P e with
   |some (_,1)=>if mx.isSome&&hi.isNone then none else some (.sliceA n (opd P none x) (lo.map (opd P none)) (hi.map (opd P none)) (mx.map (opd P none)))
   |_=>none
  |_=>none
 |.fieldAddr S x f=>match P.underlying S with
  |some (.struct fs)=>match fs[f]? with
   |some g=>match cP P g.type with
    |some (ag,sz)=>if sz == 0 then none else some (.fieldAddr g.offset sz ag (opd P none x))
    |none=>none
   |none=>none
  |_=>none
 |.field S x f=>match P.underlying S with
  |some (.struct fs)=>match fs[f]? with
   |some g=>match cP P g.type with
    |some (ag,sz)=>some (.field g.offset sz ag (opd P none x))
    |none=>none
   |none=>none
  |_=>none
 |.indexAddr T x i=>match P.underlying T with
  |some (.slice e)=>match cP P e with
   |some (_,sz)=>some (.indexAddr sz (opd P none x) (opd P none i))
   |none=>none
  |some (.array n e)=>match cP P e with
   |some (ag,sz)=>some (.indexAddrA n sz ag (opd P none x) (opd P none i))
   |none=>none
  |_=>none
 |.index T x i=>match P.underlying T with
  |some .string=>some (.index (opd P none x) (opd P none i))
  |some (.array n e)=>match cP P e with
   |some (ag,sz)=>some (.indexA n sz ag (opd P none x) (opd P none i))
   |none=>none
  |_=>none
 |.makeFunc fn x y=>some (.fnv fn (x.toList.map (opd P none)) (y.toList.map (opd P none)))
 |.panic _=>some .bad
 |.makeInterface _ _=>some .bad
 |.extract x i=>some (.extract (opd P none x) i)
 |.call c=>match c.callee with
  |.value (.func f)=>some (.call f (c.args.toList.zipIdx.map fun (x,i)=>opd P c.argTypes[i]? x))
  |.value (.tmp n)=>some (.callv [] (.t n) (c.args.toList.zipIdx.map fun (x,i)=>opd P c.argTypes[i]? x))
  |.builtin .len=>match c.args.toList,c.argTypes.toList with
   |[x],[T]=>match P.underlying T with
    |some .string=>some (.lenS (opd P none x))
    |some (.slice _)=>some (.len (opd P none x))
    |_=>none
   |_,_=>none
  |.builtin .cap=>match c.args.toList,c.argTypes.toList with
   |[x],[T]=>match P.underlying T with
    |some (.slice _)=>some (.cap (opd P none x))
    |_=>none
   |_,_=>none
  |.builtin .max=>match c.args.toList with
   |[x,y]=>some (.mm true (opd P none x) (opd P none y))
   |_=>none
  |.builtin .min=>match c.args.toList with
   |[x,y]=>some (.mm false (opd P none x) (opd P none y))
   |_=>none
  |.builtin .append=>match c.args.toList,c.argTypes.toList with
   |[x,y],[T,U]=>match P.underlying T,P.underlying U with
    |some (.slice e),some (.slice e')=>match eI P e,P.info? e with
     |some (_,_,sz),some i=>if e == e'&&T == U then some (gY e sz i.bytes (opd P (some T) x) (opd P (some U) y)) else none
     |_,_=>none
    |some (.slice e),some (.int _)=>match eI P e,P.info? e with
     |some (l,ag,sz),some i=>some (.appZ e sz i.bytes (if ag then .agg l else l.headD default) (opd P (some T) x) (opd P none y))
     |_,_=>none
    |_,_=>none
   |_,_=>none
  |.builtin .copy=>match c.args.toList,c.argTypes.toList with
   |[x,y],[T,U]=>match P.underlying T,P.underlying U with
    |some (.slice e),some (.slice _)=>match cP P e with
     |some (_,1)=>some (.copyA (opd P none x) (opd P none y))
     |_=>none
    |_,_=>none
   |_,_=>none
  |.builtin .clear=>match c.args.toList,c.argTypes.toList with
   |[x],[T]=>match P.underlying T with
    |some (.slice e)=>match eI P e with
     |some (l,ag,sz)=>some (.clearS sz (if ag then .agg l else l.headD default) (opd P none x))
     |none=>none
    |_=>none
   |_,_=>none
  |_=>none
 |_=>none
end Go.Proofs.Ytdchbabgopglcaa.M
namespace Go.Proofs.Ytdchbabgopglcaa
open Go.RowKit
set_option maxHeartbeats 400000
theorem yl (x:IV) (z:Int) (w:World) (h:IsI w x z) :
  Calls Try.prog 48 #[.agg #[.bool x.n,.slice x.s.a x.s.len x.s.cap]] w (fun e w'=>e = .returned (.int .i64 (bR z))∧Ext w w'):=by
 obtain⟨l,hl,hn,hd,hle,hz,h0,hs⟩:=h.open_;have hneg:=neg_iff hd hn h0;obtain⟨n,s⟩:=x;obtain⟨ao,cap,rfl,hcap,hcm,hop⟩:=hl.open_;simp only at hz h0 hneg;rw[←hz] at hneg;have hz0:z=0↔l=[]:=by
  rw[hz,←valL_eq_zero hd hn];unfold sg;split<;>omega
 by_cases hl0:l=[]
 ·subst hl0;have H:=hd_ (hz0.2 rfl);clear hz0 hz h0 hneg;go_enter Try.func48,Try.ntmps48;go_wp2;go_ret;exact⟨by rw[H.out];rfl,(Ext.rf _).al _⟩
 ·have hlen:0<l.length:=by
   rcases Nat.eq_zero_or_pos l.length with h | h
   ·exact absurd (List.eq_nil_of_length_eq_zero h) hl0
   ·exact h
  cases n
  ·have H:Hd (bR z=1):=hd_ (by
    have:¬ z<0:=by simpa using hneg
    have:¬ z=0:=fun e=>hl0 (hz0.1 e)
    unfold bR;rw[if_neg (by omega),if_neg (by omega)])
   clear hz0 hz h0 hneg hl0;go_enter Try.func48,Try.ntmps48;go_wp2;go_ret;exact⟨by rw[H.out];rfl,(Ext.rf _).al _⟩
  ·have H:Hd (bR z = -1):=hd_ (by
    have:z<0:=by simpa using hneg
    unfold bR;rw[if_pos (by omega)])
   clear hz0 hz h0 hneg hl0;go_enter Try.func48,Try.ntmps48;go_wp2;go_ret;exact⟨by rw[H.out];rfl,(Ext.rf _).al _⟩
theorem nk {n:Bool}{z:Int}:sg (!n) z = - sg n z:=by cases n<;>simp[sg]
theorem nl (x:IV) (z:Int) (w:World) (h:IsI w x z) :
  Calls Try.prog 49 #[.agg #[.bool x.n,.slice x.s.a x.s.len x.s.cap]] w (ia w (-z)):=by
 obtain⟨l,hl,hn,hd,hle,hz,h0,hs⟩:=h.open_;replace hz:=hd_ hz;replace h0:=hd_ h0;go_enter Try.func49,Try.ntmps49;go_wp2_with fail;refine (made_any _ x.s l _ (hl.keep (((Ext.rf _).al _).al _)) (by rw[nk,←hz.out];exact hs.neg)).mono ?_;rintro e w1 ⟨y,rfl,hy,hx⟩;have hz1:=hx.size;obtain⟨hc1,hf1⟩:=cU hx;go_wp2;refine bodyPost_ret (v:=.agg #[.bool y.n,.slice y.s.a y.s.len y.s.cap]) (by simp[results,Try.results49,go_sem,hc1]) rfl ⟨y,rfl,?_,?_⟩
 ·rw[hz.out,←nk];exact hy.kept ((aZ.rf _ _).st2 ((Ty.new' (by simp)).keep hx) (by decide) _ _)
 ·exact (((Ext.rf w).al _).al _ |>.tr hx).st2 (by simp) _ _
theorem nm (x y:Int):valL [x,y]=x+4294967296*y:=by simp[valL]
theorem ym {n:Int} (h:-9223372036854775808≤n∧n≤9223372036854775807):Bt n 64:=by
 unfold Bt;have:(2:Nat)^64=18446744073709551616:=by decide
 omega
theorem yo {n:Int} (h:-9223372036854775808≤n∧n<0):sg true (valL [IntKind.u64.wrap (-IntKind.u64.wrap n) % 4294967296,IntKind.u64.wrap (-IntKind.u64.wrap n) / 4294967296 % 4294967296])=n:=by
 have e:IntKind.u64.wrap (-IntKind.u64.wrap n) = -n:=by
  rw[IntKind.wrap_u64,IntKind.wrap_u64];omega
 rw[e,nm];simp only[sg,if_true];omega
theorem yp {n:Int}:sg false (valL [n % 4294967296,n / 4294967296])=n:=by
 rw[nm];simp only[sg,Bool.false_eq_true,if_false];omega
theorem yq (n:Int) (w:World) (h:-9223372036854775808≤n∧n≤9223372036854775807) :
  Calls Try.prog 51 #[.int .i64 n] w (ia w n):=by
 have hb:=(ym h).sm (by omega);by_cases hn:n<0
 ·have hv:=hd_ (yo ⟨h.1,hn⟩);go_enter Try.func51,Try.ntmps51;go_wp2_with fail;refine (made_any _ ⟨some ⟨w.heap.size+1,0,none⟩,2,2⟩ [IntKind.u64.wrap (-IntKind.u64.wrap n) % 4294967296,IntKind.u64.wrap (-IntKind.u64.wrap n) / 4294967296 % 4294967296] _ ?_ (by rw[hv.out];exact hb)).mono ?_
  ·refine qL (by simp) rfl rfl (by simp) ?_;intro x hx;simp only[List.mem_cons,List.not_mem_nil,or_false] at hx;rcases hx with rfl | rfl<;>(show 0≤_∧_≤_)<;>omega
  rintro e w1 ⟨y,rfl,hy,hx⟩;obtain⟨hc1,hf1⟩:=cU hx;have hz1:=hx.size;have k0:w1.cell? ⟨w.heap.size,0,none⟩=some (Value.bool false):=cell_later hx (by simp[go_sem]);have k1:w1.cell? ⟨w.heap.size,1,none⟩=some (Value.slice none 0 0):=cell_later hx (by simp[go_sem]);go_wp2;refine bodyPost_ret (v:=.agg #[.bool y.n,.slice y.s.a y.s.len y.s.cap]) (by simp[results,Try.results51,go_sem,k0,k1]) rfl ⟨y,rfl,?_,?_⟩
  ·rw[hv.out] at hy;exact hy.kept ((aZ.rf _ _).st2 (T':=62) ((Ty.keep (by first | exact Ty.new' (by simp) | exact (Ty.new' (by simp)).al _) hx)) (by decide) _ _)
  ·exact (((Ext.rf w).al _).al _ |>.tr hx).st2 (by simp) _ _
 ·have hv:=hd_ (yp (n:=n));go_enter Try.func51,Try.ntmps51;go_wp2_with fail;refine (made_any _ ⟨some ⟨w.heap.size+1,0,none⟩,2,2⟩ [n % 4294967296,n / 4294967296] _ ?_ (by rw[hv.out];exact hb)).mono ?_
  ·refine qL (by simp) rfl rfl (by simp) ?_;intro x hx;simp only[List.mem_cons,List.not_mem_nil,or_false] at hx;rcases hx with rfl | rfl<;>(show 0≤_∧_≤_)<;>omega
  rintro e w1 ⟨y,rfl,hy,hx⟩;obtain⟨hc1,hf1⟩:=cU hx;have hz1:=hx.size;have k0:w1.cell? ⟨w.heap.size,0,none⟩=some (Value.bool false):=cell_later hx (by simp[go_sem]);have k1:w1.cell? ⟨w.heap.size,1,none⟩=some (Value.slice none 0 0):=cell_later hx (by simp[go_sem]);go_wp2;refine bodyPost_ret (v:=.agg #[.bool y.n,.slice y.s.a y.s.len y.s.cap]) (by simp[results,Try.results51,go_sem,k0,k1]) rfl ⟨y,rfl,?_,?_⟩
  ·rw[hv.out] at hy;exact hy.kept ((aZ.rf _ _).st2 (T':=62) ((Ty.keep (by first | exact Ty.new' (by simp) | exact (Ty.new' (by simp)).al _) hx)) (by decide) _ _)
  ·exact (((Ext.rf w).al _).al _ |>.tr hx).st2 (by simp) _ _
end Go.Proofs.Ytdchbabgopglcaa
namespace Go.Proofs.Ytdchbabgopglcaa.M
open Go.RowKit
def aK (P:Program) (w0:World) (base:Bs) (nt:Nat) (o:Oper) (a:Act) (w:World) (t:St) (d:AV):Prop:=
 ∃v w' loc',((execOp a.eval o).run P w = .ok (.value v) w'∨((execOp a.eval o).run P w = .ok .skip w'∧v=undef))∧Rel w0 base nt loc' t a w'∧RV w' (NB base t.m loc' w') loc' v d
section
variable {P:Program}{w0:World}{base:Bs}{nt:Nat}{loc:aU}{s t:St}{a:Act}{w:World}{o:Oper}{id:Nat}{d:AV}
theorem Rel.opd (h:Rel w0 base nt loc s a w) (T:Option TypeId) (x:Operand):RV w (NB base s.m loc w) loc (a.eval x) ((opd P T x).ev s.r):=RP P T x h.tmps
theorem aP (h:Rel w0 base nt loc s a w){v:Value} (hr:(execOp a.eval o).run P w = .ok (.value v) w) (hv:RV w (NB base s.m loc w) loc v d):aK P w0 base nt o a w s d:=
 ⟨v,w,loc,.inl hr,h,hv⟩
theorem eo {s:Sem Value}{v:Value}{w':World} (h:s.run P w = .ok v w'):(do pure (Next.value (← s)):Sem Next).run P w = .ok (.value v) w':=by
 simp[h]
theorem np {x:Operand} (h:Rel w0 base nt loc s a w) (ho:o.op = .move x∨o.op = .assign x){T:Option TypeId} (he:ev (.mov (opd P T x)) id s=some (true,d,t)):aK P w0 base nt o a w t d:=by
 simp only[ev,Option.some.injEq,Prod.mk.injEq,true_and] at he;obtain⟨rfl,rfl⟩:=he;refine aP h (v:=a.eval x) ?_ (h.opd T x);rcases ho with ho | ho<;>simp[execOp,ho]
theorem yz {x:Operand} (h:Rel w0 base nt loc s a w) (ho:o.op = .nilCheck x){T:Option TypeId} (he:ev (.nilCheck (opd P T x)) id s=some (true,d,t)):aK P w0 base nt o a w t d:=by
 have hx:=h.opd (P:=P) T x;simp only[ev] at he;split at he
 ·rename_i i j k hk;simp only[Option.some.injEq,Prod.mk.injEq,true_and] at he;obtain⟨rfl,rfl⟩:=he;rw[hk] at hx;refine aP h (v:=a.eval x) ?_ hx;generalize hv:a.eval x=v at hx;cases hx;simp[execOp,ho,hv]
 ·rename_i e hk;simp only[Option.some.injEq,Prod.mk.injEq,true_and] at he;obtain⟨rfl,rfl⟩:=he;rw[hk] at hx;refine aP h (v:=a.eval x) ?_ hx;have hx:=hx.inv;generalize hv:a.eval x=v at hx;cases hx;simp[execOp,ho,hv]
 ·cases he
theorem yA {c x y:Operand} (h:Rel w0 base nt loc s a w) (ho:o.op = .pick c x y){T U W:Option TypeId} (he:ev (.pick (opd P T c) (opd P U x) (opd P W y)) id s=some (true,d,t)):aK P w0 base nt o a w t d:=by
 have hc:=h.opd (P:=P) T c;simp only[ev] at he;split at he
 ·rename_i hk;simp only[Option.some.injEq,Prod.mk.injEq,true_and] at he;obtain⟨rfl,rfl⟩:=he;rw[hk] at hc;have hc:=hc.inv;refine aP h (v:=a.eval x) ?_ (h.opd U x);generalize hcv:a.eval c=v at hc;cases hc;simp[execOp,ho,hcv,asBool]
 ·rename_i hk;simp only[Option.some.injEq,Prod.mk.injEq,true_and] at he;obtain⟨rfl,rfl⟩:=he;rw[hk] at hc;have hc:=hc.inv;refine aP h (v:=a.eval y) ?_ (h.opd W y);generalize hcv:a.eval c=v at hc;cases hc;simp[execOp,ho,hcv,asBool]
 ·cases he
theorem yC {T:TypeId}{x:Operand}{ag:Bool}{sz:Nat} (h:Rel w0 base nt loc s a w) (ho:o.op = .load T x) (hT:bM P T ag sz) (hs:ag=false→sz=1){U:Option TypeId}
  (he:ev (.load ag sz (opd P U x)) id s=some (true,d,t)):aK P w0 base nt o a w t d:=by
 have hx:=h.opd (P:=P) U x;simp only[ev] at he;split at he
 ·rename_i i j off hk;rw[hk] at hx;generalize hxv:a.eval x=v at hx;cases hx with
  |ptr L _ _ _ hL hn =>
  have goal:∀osz (u z:AV) (T':TypeId) (k:Cont) (frz:Bool),s.m i=some ⟨T',osz,k,frz⟩→u.get off sz osz ag=some z →
    (∀c fr,w.heap[L.b]? = some (.cells c T' fr)→bf w (NB base s.m loc w) loc c L.o osz k→L.o+j*osz+osz≤c.size∧u.cells.length=osz∧(∀e∈u.cells,e.one=true)∧(∀p e,u.cells[p]? = some e→RV w (NB base s.m loc w) loc (c.getD (L.o+j*osz+p) undef) e)) →
    aK P w0 base nt o a w s z:=by
   intro osz u z T' k frz hm hg hcc;obtain⟨L',hL',hok⟩:=h.objs i _ hm;rw[hL] at hL';cases hL';obtain⟨c,fr,h1,h2,h3,-⟩:=hok.at_ hn;obtain⟨g1,g2,g3,g4⟩:=hcc c fr h1 h3;obtain⟨v,hv1,hv2⟩:=pP (P:=P) (T':=T) h1 g1 g2 g3 g4 hg hT hs;refine aP h (v:=v) ?_ hv2;have hsz:L.sz=osz:=hok.sz;rw[show L.o+(j*L.sz+off)=L.o+j*osz+off by rw[hsz];omega] at hxv;simp[execOp,ho,hxv,hv1]
  split at he
  ·rename_i T' osz l frz hm;split at he
   ·rename_i z hz;simp only[Option.some.injEq,Prod.mk.injEq,decide_eq_true_eq] at he;obtain⟨hj,rfl,rfl⟩:=he;refine goal osz _ z T' _ frz hm hz ?_;intro c fr _ hcont;obtain⟨k1,k2,k3⟩:=hcont;have he':l[j]? = some (l.getD j default):=by simp[hj]
    have hmul:j*osz+osz≤l.length*osz:=by
     have:=Nat.mul_le_mul_right osz (show j+1≤l.length by omega);rw[Nat.add_mul] at this;omega
    refine⟨by omega,by simpa[AV.cells] using k2 _ (List.mem_of_getElem? he'),fun e hem => ?_,fun p e hp => ?_⟩
    ·simp only[AV.cells,List.mem_map] at hem;obtain⟨q,hq,rfl⟩:=hem;obtain⟨n,hn'⟩:=List.getElem?_of_mem hq;exact (k3 j _ n q he' hn').1
    ·simp only[AV.cells,List.getElem?_map,Option.map_eq_some_iff] at hp;obtain⟨q,hq,rfl⟩:=hp;have:=(k3 j _ p q he' hq).2;rw[←Nat.add_assoc] at this;exact .p _ _ this
   ·cases he
  ·rename_i T' osz u frz hm;split at he
   ·rename_i hj;subst hj;split at he
    ·rename_i z hz;simp only[Option.some.injEq,Prod.mk.injEq,true_and] at he;obtain⟨rfl,rfl⟩:=he;refine goal osz u z T' _ frz hm hz ?_;intro c fr _ hcont;obtain⟨k1,k2,k3,k4⟩:=hcont;simp only[Nat.zero_mul,Nat.add_zero];exact⟨k1,k2,k3,k4⟩
    ·cases he
   ·cases he
  ·cases he
 ·rename_i e hk;rw[hk] at hx;have hx:=hx.inv;split at he
  ·rename_i hag;simp only[Option.some.injEq,Prod.mk.injEq,decide_eq_true_eq] at he;obtain⟨⟨hlen,hpos⟩,rfl,rfl⟩:=he;generalize hxv:a.eval x=v at hx;cases hx with
   |ref b p T' _ c fr g1 g2 g0 g3 g4 =>
   have hl:∀i,i<e.cells.length→p+i<c.size:=fun i hi=>g3 i e.cells[i] (by simp[hi])
   cases ag with
   |true =>
    cases e with
    |agg l =>
     have hlen':l.length=sz:=by simpa[D.cells] using hlen
     have hfit:p+sz≤c.size:=by
      have:=hl (sz-1) (by rw[hlen];omega);omega
     refine aP h (v:=.agg (rd c p sz)) ?_ (.p _ _ (.agg _ _ (by simp[hlen']) (fun q hq=>g0 q hq) (fun i q hi => ?_)))
     ·have:=jW (P:=P) hT g1 hfit;simp[execOp,ho,hxv,Instr.loadAt,Instr.sureAddr,this]
     ·have hlt:i<sz:=by have:=(List.getElem?_eq_some_iff.1 hi).1;omega
      rw[d7 _ _ _ _ hlt];exact g4 i q hi
    |_=>simp[D.isAgg] at hag
   |false =>
    have:=hs rfl;subst this;have h0:e.cells[0]? = some e:=by cases e<;>simp[D.isAgg] at hag<;>rfl
    refine aP h (v:=c.getD p undef) ?_ (.p _ _ ?_)
    ·have:=jX (P:=P) hT g1 (by have:=hl 0 (by omega);rwa[Nat.add_zero] at this);simp[execOp,ho,hxv,Instr.loadAt,Instr.sureAddr,this]
    ·have:=g4 0 e h0
     rwa[Nat.add_zero] at this
  ·cases he
 ·cases he
end
end Go.Proofs.Ytdchbabgopglcaa.M
