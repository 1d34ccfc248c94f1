/- order, sum, less. -/
import Derived.Test.YtdjbfgfbpimakaaK1
namespace Go.Proofs.Ytdjbfgfbpimakaa
open Go.RowKit
set_option maxHeartbeats 400000 in
theorem order_any (s t:SV) (a b:List Int) (w:World) (ha:IsL w s .u32 a) (hb:IsL w t .u32 b) (na:Norm a) (nb:Norm b) :
  Calls Try.prog 93 #[.slice s.a s.len s.cap,.slice t.a t.len t.cap] w (fun e w'=>e = .returned (.int .i64 (cmpZ (valL a) (valL b)))∧Ext w w'):=by
 have da:Dig a:=ha.2
 have db:Dig b:=hb.2
 obtain⟨ao,ca,rfl,hca,hcam,hopa⟩:=ha.open_
 obtain⟨bo,cb,rfl,hcb,hcbm,hopb⟩:=hb.open_
 rcases Nat.lt_trichotomy a.length b.length with hl | hl | hl
 ·have H:=hd_ (cmpZ_lt (valL_lt_of_len da db nb hl))
  have H2:cmpZ (a.length:Int) b.length = -1:=cmpZ_lt (by omega)
  go_enter Try.func93,Try.ntmps93
  go_wp2_with (go_at_call 92;refine (cmpI _ _ _).mono ?_;rintro e w' ⟨rfl,rfl⟩)
  go_ret
  exact⟨by rw[H.out];rfl,Ext.rf _⟩
 ·have H2:cmpZ (a.length:Int) b.length=0:=cmpZ_eq (by omega)
  go_enter Try.func93,Try.ntmps93
  have Hl:=hd_ hl
  clear hl
  go_wp2_with (go_at_call 92;refine (cmpI _ _ _).mono ?_;rintro e w' ⟨rfl,rfl⟩)
  go_loopw [6] (fun i wr=>((i = .int .i64 (-1)∧∀ j,at_ a j=at_ b j)∨∃ k:Nat,i = .int .i64 k∧k<a.length∧∀ j,k<j→at_ a j=at_ b j)∧Ext w wr) (fun i _=>(intOf i+1).toNat)
  case atStart =>
   refine⟨?_,Ext.rf _⟩
   have Hl:=Hl.out
   rcases Nat.eq_zero_or_pos a.length with h0 | h0
   ·exact .inl ⟨by rw[h0];rfl,fun j=>by rw[at_ge (by omega),at_ge (by omega)]⟩
   ·refine .inr ⟨a.length-1,?_,by omega,fun j hj=>by rw[at_ge (by omega),at_ge (by omega)]⟩
    congr 1;omega
  case round =>
   obtain⟨hrel,hx⟩:=hrel
   rcases hrel with⟨rfl,heq⟩ | ⟨k,rfl,hk,heq⟩
   ·have H:=hd_ (cmpZ_eq (congrArg valL (list_ext_at Hl.out heq)))
    clear heq
    go_wp2
    go_ret
    exact⟨by rw[H.out];rfl,hx⟩
   ·replace heq:=hd_ heq
    have hkb:k<b.length:=by have:=Hl.out;omega
    obtain⟨ba,oa,rfl,hba,ga⟩:=hopa (by omega)
    obtain⟨bb,ob,rfl,hbb,gb⟩:=hopb (by omega)
    have ga:=(hx.cell (p:=⟨ba,oa+k,none⟩) hba.lt).trans (ga k hk)
    have gb:=(hx.cell (p:=⟨bb,ob+k,none⟩) hbb.lt).trans (gb k hkb)
    rcases Int.lt_trichotomy (at_ a k) (at_ b k) with h | h | h
    ·have H:=hd_ (cmpZ_lt (valL_lt_of_at da db Hl.out hk heq.out h))
     have H2:=cmpZ_lt h
     clear h
     go_wp2
     go_quiet ((go_at_call 104;exact Calls.quiet_of_same ((cmpU _ _ _).mono fun _ _ h=>⟨h.1,h.2.symm⟩)))
     go_wp2
     go_ret
     exact⟨by rw[H.out,←H2];rfl,below_drewN hx _⟩
    ·have H2:=cmpZ_eq h
     have H:=hd_ h
     clear h
     go_wp2
     go_quiet ((go_at_call 104;exact Calls.quiet_of_same ((cmpU _ _ _).mono fun _ _ h=>⟨h.1,h.2.symm⟩)))
     go_wp2
     go_roundw
     case rel =>
      refine⟨?_,below_drewN hx _⟩
      rcases Nat.eq_zero_or_pos k with h0 | h0
      ·exact .inl ⟨by rw[h0];rfl,fun j=>by
        rcases Nat.eq_zero_or_pos j with h1 | h1
        ·subst h1;subst h0;exact H.out
        ·exact heq.out j (by omega)⟩
      ·exact .inr ⟨k-1,by congr 1;omega,by omega,fun j hj=>if e:j=k then by rw[e];exact H.out else heq.out j (by omega)⟩
     case measure=>first | (simp[intOf];done) | (simp[intOf];omega)
    ·have H:=hd_ (cmpZ_gt (valL_lt_of_at db da Hl.out.symm hkb (fun j hj=>(heq.out j hj).symm) h))
     have H2:=cmpZ_gt h
     clear h
     go_wp2
     go_quiet ((go_at_call 104;exact Calls.quiet_of_same ((cmpU _ _ _).mono fun _ _ h=>⟨h.1,h.2.symm⟩)))
     go_wp2
     go_ret
     exact⟨by rw[H.out,←H2];rfl,below_drewN hx _⟩
 ·have H:=hd_ (cmpZ_gt (valL_lt_of_len db da na hl))
  have H2:cmpZ (a.length:Int) b.length=1:=cmpZ_gt (by omega)
  go_enter Try.func93,Try.ntmps93
  go_wp2_with (go_at_call 92;refine (cmpI _ _ _).mono ?_;rintro e w' ⟨rfl,rfl⟩)
  go_ret
  exact⟨by rw[H.out];rfl,Ext.rf _⟩
def RetLn (w:World) (n:Nat) (z:Int) (e:Ending) (w':World):Prop:=
 ∃ (s:SV) (l:List Int),e = .returned (.slice s.a s.len s.cap)∧IsL w' s .u32 l∧l.length=n∧valL l=z∧Ext w w'
theorem dig_zeros (n:Nat):Dig (List.replicate n 0):=by
 intro x hx
 have:=List.eq_of_mem_replicate hx
 omega
def RetL (w:World) (z:Int) (e:Ending) (w':World):Prop:=
 ∃ (s:SV) (l:List Int),e = .returned (.slice s.a s.len s.cap)∧IsL w' s .u32 l∧valL l=z∧Ext w w'
theorem sum_step {va vb vo c p x y q:Int} (h:vo+c*p=va+vb) (hq:p*4294967296=q):vo+(x+y+c) % 4294967296*p+(x+y+c) / 4294967296*q=va+x*p+(vb+y*p):=by
 have h1:(x+y+c) % 4294967296=(x+y+c)-4294967296*((x+y+c) / 4294967296):=by omega
 rw[h1,←hq]
 generalize (x+y+c) / 4294967296=d
 grind
set_option maxHeartbeats 1000000 in
theorem sum_any (s t:SV) (a b:List Int) (w:World) (ha:IsL w s .u32 a) (hb:IsL w t .u32 b) (hla:a.length≤13000000000000) (hlb:b.length≤13000000000000) :
  Calls Try.prog 97 #[.slice s.a s.len s.cap,.slice t.a t.len t.cap] w (RetLn w (max a.length b.length+1) (valL a+valL b)):=by
 have da:Dig a:=ha.2
 have db:Dig b:=hb.2
 obtain⟨ao,ca,rfl,hca,hcam,hopa⟩:=ha.open_
 obtain⟨bo,cb,rfl,hcb,hcbm,hopb⟩:=hb.open_
 by_cases hl:a.length<b.length
 ·have hm:=hd_ (show max a.length b.length+1=b.length+1 by omega)
  have hv:=hd_ (Int.add_comm (valL a) (valL b))
  go_enter Try.func97,Try.ntmps97
  go_wp2_with (at_make;refine wpL_make _ rfl _ _ 35 rfl 116 .u32 4 Try.underlying35 infoU32 _ _ _ _ (b.length+1) rfl rfl (by omega) (by omega) (by omega) (by omega) ?_;intro w1 hown1 hx1 hlt1)
  go_loopw [6,23] (fun c i wr => ∃ (k:Nat) (cc:Int) (o:List Int),c = .int .u32 cc∧i = .int .i64 k∧k≤b.length∧Own wr w.heap.size 116 .u32 o∧o.length=b.length+1∧Dig o∧(0≤cc∧cc≤1) ∧
    valL (o.take k)+cc*4294967296^k=valL (b.take k)+valL (a.take k)∧Ext w wr) (fun _ i _=>b.length-(intOf i).toNat)
  case atStart=>exact⟨0,0,_,rfl,rfl,Nat.zero_le _,hown1,by simp,dig_zeros _,by omega,by simp[valL],hx1⟩
  case round =>
   obtain⟨k,cc,o,rfl,rfl,hk,hown,hol,hdo,hcc,hval,hx⟩:=hrel
   clear hown1
   replace hval:=hd_ hval
   replace hol:=hd_ hol
   by_cases hlt:k<b.length
   ·obtain⟨bb,ob,rfl,hbb,gb⟩:=hopb (by omega)
    have gb:=(hx.cell (p:=⟨bb,ob+k,none⟩) hbb.lt).trans (gb k hlt)
    have go:=hown.cell (i:=k) (by have:=hol.out;omega)
    have gf:=hown.frozen k
    have fa:=da.at_ k
    have fb:=db.at_ k
    by_cases hlt2:k<a.length
    ·obtain⟨ba,oa,rfl,hba,ga⟩:=hopa (by omega)
     have ga:=(hx.cell (p:=⟨ba,oa+k,none⟩) hba.lt).trans (ga k hlt2)
     go_wp2_with (go_at_call 112;refine (add32 _ _ _ _ fb fa hcc).mono ?_;rintro e w' ⟨rfl,rfl⟩)
     go_roundw
     case rel =>
      refine⟨k+1,_,o.set k _,rfl,by go_num,by omega,hown.set k _,by rw[List.length_set];exact hol.out,hdo.set k (by omega),by omega,?_,hx.st (Nat.le_refl _) _⟩
      rw[valL_set (by have:=hol.out;omega),valL_take_succ,valL_take_succ]
      exact sum_step hval.out (Int.pow_succ ..).symm
     case measure=>first | (simp[intOf];done) | (simp[intOf];omega)
    ·have h0:at_ a k=0:=at_ge (by omega)
     replace h0:=hd_ h0
     go_wp2_with (go_at_call 112;refine (add32 _ _ _ _ fb (by omega) hcc).mono ?_;rintro e w' ⟨rfl,rfl⟩)
     go_roundw
     case rel =>
      refine⟨k+1,_,o.set k _,rfl,by go_num,by omega,hown.set k _,by rw[List.length_set];exact hol.out,hdo.set k (by omega),by omega,?_,hx.st (Nat.le_refl _) _⟩
      rw[valL_set (by have:=hol.out;omega),valL_take_succ,valL_take_succ,h0.out]
      have S:=sum_step (x:=at_ b k) (y:=0) hval.out (Int.pow_succ 4294967296 k).symm
      rw[Int.add_zero] at S
      exact S
     case measure=>first | (simp[intOf];done) | (simp[intOf];omega)
   ·obtain rfl:k=b.length:=by omega
    have go:=hown.cell (i:=b.length) (by have:=hol.out;omega)
    have gf:=hown.frozen b.length
    go_wp2
    go_ret
    refine⟨⟨some ⟨w.heap.size,0,none⟩,b.length+1,b.length+1⟩,o.set b.length cc,rfl,?_,by rw[List.length_set,hol.out,hm.out],?_,hx.st (Nat.le_refl _) _⟩
    ·have:=(hown.set b.length cc).isL (by rw[List.length_set,hol.out];omega) (hdo.set _ (by omega))
     rw[List.length_set,hol.out] at this
     exact this
    ·have h1:=valL_set (l:=o) (i:=b.length) (by have:=hol.out;omega) cc
     rw[List.take_of_length_le (by rw[List.length_set];have:=hol.out;omega)] at h1
     exact (h1.trans (by rw[hval.out,List.take_of_length_le (Nat.le_refl _),List.take_of_length_le (by omega)])).trans (by first | exact hv.out.symm | rfl)
 ·have hm:=hd_ (show max a.length b.length+1=a.length+1 by omega)
  have hv:=hd_ (rfl:valL a+valL b=valL a+valL b)
  go_enter Try.func97,Try.ntmps97
  go_wp2_with (at_make;refine wpL_make _ rfl _ _ 35 rfl 116 .u32 4 Try.underlying35 infoU32 _ _ _ _ (a.length+1) rfl rfl (by omega) (by omega) (by omega) (by omega) ?_;intro w1 hown1 hx1 hlt1)
  go_loopw [6,23] (fun c i wr => ∃ (k:Nat) (cc:Int) (o:List Int),c = .int .u32 cc∧i = .int .i64 k∧k≤a.length∧Own wr w.heap.size 116 .u32 o∧o.length=a.length+1∧Dig o∧(0≤cc∧cc≤1) ∧
    valL (o.take k)+cc*4294967296^k=valL (a.take k)+valL (b.take k)∧Ext w wr) (fun _ i _=>a.length-(intOf i).toNat)
  case atStart=>exact⟨0,0,_,rfl,rfl,Nat.zero_le _,hown1,by simp,dig_zeros _,by omega,by simp[valL],hx1⟩
  case round =>
   obtain⟨k,cc,o,rfl,rfl,hk,hown,hol,hdo,hcc,hval,hx⟩:=hrel
   clear hown1
   replace hval:=hd_ hval
   replace hol:=hd_ hol
   by_cases hlt:k<a.length
   ·obtain⟨ba,oa,rfl,hbb,gb⟩:=hopa (by omega)
    have gb:=(hx.cell (p:=⟨ba,oa+k,none⟩) hbb.lt).trans (gb k hlt)
    have go:=hown.cell (i:=k) (by have:=hol.out;omega)
    have gf:=hown.frozen k
    have fa:=db.at_ k
    have fb:=da.at_ k
    by_cases hlt2:k<b.length
    ·obtain⟨bb,ob,rfl,hba,ga⟩:=hopb (by omega)
     have ga:=(hx.cell (p:=⟨bb,ob+k,none⟩) hba.lt).trans (ga k hlt2)
     go_wp2_with (go_at_call 112;refine (add32 _ _ _ _ fb fa hcc).mono ?_;rintro e w' ⟨rfl,rfl⟩)
     go_roundw
     case rel =>
      refine⟨k+1,_,o.set k _,rfl,by go_num,by omega,hown.set k _,by rw[List.length_set];exact hol.out,hdo.set k (by omega),by omega,?_,hx.st (Nat.le_refl _) _⟩
      rw[valL_set (by have:=hol.out;omega),valL_take_succ,valL_take_succ]
      exact sum_step hval.out (Int.pow_succ ..).symm
     case measure=>first | (simp[intOf];done) | (simp[intOf];omega)
    ·have h0:at_ b k=0:=at_ge (by omega)
     replace h0:=hd_ h0
     go_wp2_with (go_at_call 112;refine (add32 _ _ _ _ fb (by omega) hcc).mono ?_;rintro e w' ⟨rfl,rfl⟩)
     go_roundw
     case rel =>
      refine⟨k+1,_,o.set k _,rfl,by go_num,by omega,hown.set k _,by rw[List.length_set];exact hol.out,hdo.set k (by omega),by omega,?_,hx.st (Nat.le_refl _) _⟩
      rw[valL_set (by have:=hol.out;omega),valL_take_succ,valL_take_succ,h0.out]
      have S:=sum_step (x:=at_ a k) (y:=0) hval.out (Int.pow_succ 4294967296 k).symm
      rw[Int.add_zero] at S
      exact S
     case measure=>first | (simp[intOf];done) | (simp[intOf];omega)
   ·obtain rfl:k=a.length:=by omega
    have go:=hown.cell (i:=a.length) (by have:=hol.out;omega)
    have gf:=hown.frozen a.length
    go_wp2
    go_ret
    refine⟨⟨some ⟨w.heap.size,0,none⟩,a.length+1,a.length+1⟩,o.set a.length cc,rfl,?_,by rw[List.length_set,hol.out,hm.out],?_,hx.st (Nat.le_refl _) _⟩
    ·have:=(hown.set a.length cc).isL (by rw[List.length_set,hol.out];omega) (hdo.set _ (by omega))
     rw[List.length_set,hol.out] at this
     exact this
    ·have h1:=valL_set (l:=o) (i:=a.length) (by have:=hol.out;omega) cc
     rw[List.take_of_length_le (by rw[List.length_set];have:=hol.out;omega)] at h1
     exact (h1.trans (by rw[hval.out,List.take_of_length_le (Nat.le_refl _),List.take_of_length_le (by omega)])).trans (by first | exact hv.out.symm | rfl)
theorem less_step {va vb vo c p x y q:Int} (h:vo-c*p=va-vb) (hq:p*4294967296=q):vo+(x-y-c) % 4294967296*p-bor x y c*q=va+x*p-(vb+y*p)∨¬ (0≤x∧x≤4294967295∧0≤y∧y≤4294967295∧0≤c∧c≤1):=by
 by_cases hh:0≤x∧x≤4294967295∧0≤y∧y≤4294967295∧0≤c∧c≤1
 ·left
  have h1:(x-y-c) % 4294967296=(x-y-c)+4294967296*bor x y c:=by unfold bor;split<;>omega
  rw[h1,←hq]
  generalize bor x y c=d
  grind
 ·exact .inr hh
theorem bor_01 (x y c:Int):0≤bor x y c∧bor x y c≤1:=by unfold bor;split<;>omega
set_option maxHeartbeats 1000000 in
theorem less_any (s t:SV) (a b:List Int) (w:World) (ha:IsL w s .u32 a) (hb:IsL w t .u32 b) (hla:a.length≤13000000000000) (hlb:b.length≤a.length) (hge:valL b≤valL a) :
  Calls Try.prog 96 #[.slice s.a s.len s.cap,.slice t.a t.len t.cap] w (RetLn w a.length (valL a-valL b)):=by
 have da:Dig a:=ha.2
 have db:Dig b:=hb.2
 replace hge:=hd_ hge
 obtain⟨ao,ca,rfl,hca,hcam,hopa⟩:=ha.open_
 obtain⟨bo,cb,rfl,hcb,hcbm,hopb⟩:=hb.open_
 go_enter Try.func96,Try.ntmps96
 go_wp2_with (at_make;refine wpL_make _ rfl _ _ 35 rfl 116 .u32 4 Try.underlying35 infoU32 _ _ _ _ a.length rfl rfl (by omega) (by omega) (by omega) (by omega) ?_;intro w1 hown1 hx1 hlt1)
 go_loopw [6,15] (fun c i wr => ∃ (k:Nat) (cc:Int) (o:List Int),c = .int .u32 cc∧i = .int .i64 k∧k≤a.length∧Own wr w.heap.size 116 .u32 o∧o.length=a.length∧Dig o∧(0≤cc∧cc≤1) ∧
   valL (o.take k)-cc*4294967296^k=valL (a.take k)-valL (b.take k)∧Ext w wr) (fun _ i _=>a.length-(intOf i).toNat)
 case atStart=>exact⟨0,0,_,rfl,rfl,Nat.zero_le _,hown1,by simp,dig_zeros _,by omega,by simp[valL],hx1⟩
 case round =>
  obtain⟨k,cc,o,rfl,rfl,hk,hown,hol,hdo,hcc,hval,hx⟩:=hrel
  clear hown1
  replace hval:=hd_ hval
  replace hol:=hd_ hol
  by_cases hlt:k<a.length
  ·obtain⟨ba,oa,rfl,hba,ga⟩:=hopa (by omega)
   have ga:=(hx.cell (p:=⟨ba,oa+k,none⟩) hba.lt).trans (ga k hlt)
   have go:=hown.cell (i:=k) (by have:=hol.out;omega)
   have gf:=hown.frozen k
   have fa:=da.at_ k
   have fb:=db.at_ k
   by_cases hlt2:k<b.length
   ·obtain⟨bb,ob,rfl,hbb,gb⟩:=hopb (by omega)
    have gb:=(hx.cell (p:=⟨bb,ob+k,none⟩) hbb.lt).trans (gb k hlt2)
    have hb01:=bor_01 (at_ a k) (at_ b k) cc
    go_wp2_with (go_at_call 111;refine (sub32 _ _ _ _ fa fb hcc).mono ?_;rintro e w' ⟨rfl,rfl⟩)
    go_roundw
    case rel =>
     refine⟨k+1,_,o.set k _,rfl,by go_num,by omega,hown.set k _,by rw[List.length_set];exact hol.out,hdo.set k (by omega),hb01,?_,hx.st (Nat.le_refl _) _⟩
     rw[valL_set (by have:=hol.out;omega),valL_take_succ,valL_take_succ]
     exact (less_step hval.out (Int.pow_succ ..).symm).resolve_right (by omega)
    case measure=>first | (simp[intOf];done) | (simp[intOf];omega)
   ·have h0:at_ b k=0:=at_ge (by omega)
    replace h0:=hd_ h0
    have hb01:=bor_01 (at_ a k) 0 cc
    go_wp2_with (go_at_call 111;refine (sub32 _ _ _ _ fa (by omega) hcc).mono ?_;rintro e w' ⟨rfl,rfl⟩)
    go_roundw
    case rel =>
     refine⟨k+1,bor (at_ a k) 0 cc,o.set k ((at_ a k-cc) % 4294967296),rfl,by go_num,by omega,hown.set k _,by rw[List.length_set];exact hol.out,hdo.set k (by omega),hb01,?_,hx.st (Nat.le_refl _) _⟩
     rw[valL_set (by have:=hol.out;omega),valL_take_succ,valL_take_succ,h0.out]
     have S:=(less_step (x:=at_ a k) (y:=0) hval.out (Int.pow_succ 4294967296 k).symm).resolve_right (by omega)
     rw[Int.sub_zero] at S
     exact S
    case measure=>first | (simp[intOf];done) | (simp[intOf];omega)
  ·obtain rfl:k=a.length:=by omega
   go_wp2
   go_ret
   refine⟨⟨some ⟨w.heap.size,0,none⟩,a.length,a.length⟩,o,rfl,?_,hol.out,?_,hx⟩
   ·have:=hown.isL (by have:=hol.out;omega) hdo
    rw[hol.out] at this
    exact this
   ·have h1:=hval.out
    have h2:=valL_lt hdo
    have h3:=valL_nonneg hdo
    have h4:=hge.out
    rw[List.take_of_length_le (by have:=hol.out;omega),List.take_of_length_le (Nat.le_refl _),List.take_of_length_le (by omega)] at h1
    rw[hol.out] at h2
    have hc:cc=0:=by
     rcases (show cc=0∨cc=1 by omega) with h | h
     ·exact h
     ·rw[h,Int.one_mul] at h1;omega
    rw[hc,Int.zero_mul] at h1
    omega
end Go.Proofs.Ytdjbfgfbpimakaa
