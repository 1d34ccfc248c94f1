/- The reference's places: dcmp, dadd, dsub. -/
import Derived.Test.YtdjbfgfbpimakaaK3
namespace Go.Proofs.Ytdjbfgfbpimakaa.Z4
open Go.RowKit
theorem infoI64:(Try.prog.info? (ET .i64)).map (fun i=>(i.zero,i.size,i.bytes))=some (some (.int .i64 0),1,8):=by kernel_rfl
set_option maxHeartbeats 400000 in
theorem dcmp_any (s t:SV) (a b:List Int) (w:World) (ha:IsL w s .i64 a) (hb:IsL w t .i64 b) (da:Dig a) (db:Dig b) (na:Norm a) (nb:Norm b) :
  Calls Try.prog 99 #[.slice s.a s.len s.cap,.slice t.a t.len t.cap] w (fun e w'=>e = .returned (.int .i64 (cmpZ (valL a) (valL b)))∧Ext w w'):=by
 obtain⟨ao,ca,rfl,hca,hcam,hopa⟩:=ha.open_
 obtain⟨bo,cb,rfl,hcb,hcbm,hopb⟩:=hb.open_
 rcases Nat.lt_trichotomy a.length b.length with hl | hl | hl
 ·have H:=hd_ (cmpZ_lt (valL_lt_of_len da db nb hl))
  go_enter Try.func99,Try.ntmps99
  go_wp2
  go_ret
  exact⟨by rw[H.out];rfl,Ext.rf _⟩
 ·go_enter Try.func99,Try.ntmps99
  have hb0:((a.length:Int) != b.length)=false:=by rw[bne_eq_false_iff_eq];omega
  have Hl:=hd_ hl
  clear hl
  go_wp2
  go_loopw [5] (fun i wr=>((i = .int .i64 (-1)∧∀ j,at_ a j=at_ b j)∨∃ k:Nat,i = .int .i64 k∧k<a.length∧∀ j,k<j→at_ a j=at_ b j)∧Ext w wr) (fun i _=>(intOf i+1).toNat)
  case atStart =>
   refine⟨?_,Ext.rf _⟩
   have Hl:=Hl.out
   rcases Nat.eq_zero_or_pos a.length with h0 | h0
   ·exact .inl ⟨by rw[h0];rfl,fun j=>by rw[at_ge (by omega),at_ge (by omega)]⟩
   ·refine .inr ⟨a.length-1,?_,by omega,fun j hj=>by rw[at_ge (by omega),at_ge (by omega)]⟩
    congr 1;omega
  case round =>
   obtain⟨hrel,hx⟩:=hrel
   rcases hrel with⟨rfl,heq⟩ | ⟨k,rfl,hk,heq⟩
   ·have H:=hd_ (cmpZ_eq (congrArg valL (list_ext_at Hl.out heq)))
    clear heq
    go_wp2
    go_ret
    exact⟨by rw[H.out];rfl,hx⟩
   ·replace heq:=hd_ heq
    have hkb:k<b.length:=by have:=Hl.out;omega
    obtain⟨ba,oa,rfl,hba,ga⟩:=hopa (by omega)
    obtain⟨bb,ob,rfl,hbb,gb⟩:=hopb (by omega)
    have ga:=(hx.cell (p:=⟨ba,oa+k,none⟩) hba.lt).trans (ga k hk)
    have gb:=(hx.cell (p:=⟨bb,ob+k,none⟩) hbb.lt).trans (gb k hkb)
    rcases Int.lt_trichotomy (at_ a k) (at_ b k) with h | h | h
    ·have H:=hd_ (cmpZ_lt (valL_lt_of_at da db Hl.out hk heq.out h))
     go_wp2
     go_quiet (fail)
     go_wp2
     go_ret
     exact⟨by rw[H.out];rfl,below_drewN hx _⟩
    ·have H:=hd_ h
     have h1:¬ at_ a k<at_ b k:=by omega
     have h2:¬ at_ b k<at_ a k:=by omega
     clear h
     go_wp2
     go_quiet (fail)
     go_wp2
     go_quiet (fail)
     go_wp2
     go_roundw
     case rel =>
      refine⟨?_,below_drewN hx _⟩
      rcases Nat.eq_zero_or_pos k with h0 | h0
      ·exact .inl ⟨by rw[h0];rfl,fun j=>by
        rcases Nat.eq_zero_or_pos j with h1 | h1
        ·subst h1;subst h0;exact H.out
        ·exact heq.out j (by omega)⟩
      ·exact .inr ⟨k-1,by congr 1;omega,by omega,fun j hj=>if e:j=k then by rw[e];exact H.out else heq.out j (by omega)⟩
     case measure=>first | (simp[intOf];done) | (simp[intOf];omega)
    ·have H:=hd_ (cmpZ_gt (valL_lt_of_at db da Hl.out.symm hkb (fun j hj=>(heq.out j hj).symm) h))
     have h1:¬ at_ a k<at_ b k:=by omega
     go_wp2
     go_quiet (fail)
     go_wp2
     go_quiet (fail)
     go_wp2
     go_ret
     exact⟨by rw[H.out];rfl,by first | exact below_drewN (below_drewN hx _) _ | exact below_drewN hx _⟩
 ·have H:=hd_ (cmpZ_gt (valL_lt_of_len db da na hl))
  go_enter Try.func99,Try.ntmps99
  go_wp2
  go_ret
  exact⟨by rw[H.out];rfl,Ext.rf _⟩
def RetD (w:World) (m:Nat) (z:Int) (e:Ending) (w':World):Prop:=
 ∃ (s:SV) (l:List Int),e = .returned (.slice s.a s.len s.cap)∧IsL w' s .i64 l∧Dig l∧l.length≤m∧valL l=z∧Ext w w'∧Av w [] s
theorem dadd_step {va vb vo c p x y q:Int} (h:vo+c*p=va+vb) (hq:p*10000=q):vo+(c+x+y) % 10000*p+(c+x+y) / 10000*q=va+x*p+(vb+y*p):=by
 have h1:(c+x+y) % 10000=(c+x+y)-10000*((c+x+y) / 10000):=by omega
 rw[h1,←hq]
 generalize (c+x+y) / 10000=d
 grind
set_option maxRecDepth 100000 in
set_option maxHeartbeats 1000000 in
theorem dadd_any (s t:SV) (a b:List Int) (w:World) (ha:IsL w s .i64 a) (hb:IsL w t .i64 b) (da:Dig a) (db:Dig b) (hla:a.length≤13000000000000) (hlb:b.length≤13000000000000) :
  Calls Try.prog 113 #[.slice s.a s.len s.cap,.slice t.a t.len t.cap] w (RetD w (max a.length b.length+1) (valL a+valL b)):=by
 obtain⟨ao,ca,rfl,hca,hcam,hopa⟩:=ha.open_
 obtain⟨bo,cb,rfl,hcb,hcbm,hopb⟩:=hb.open_
 go_enter Try.func113,Try.ntmps113
 go_wp2
 go_loopw [6,5,7] (fun c ov i wr => ∃ (k:Nat) (cc:Int) (so:SV) (o:List Int),c = .int .i64 cc∧ov = .slice so.a so.len so.cap∧i = .int .i64 k∧k≤max a.length b.length+1∧Rw wr w.heap.size .i64 so o∧o.length=k∧Dig o∧(0≤cc∧cc≤1) ∧
   valL o+cc*10000^k=valL (a.take k)+valL (b.take k)∧(k=max a.length b.length+1→cc=0)∧Ext w wr) (fun _ _ i _=>max a.length b.length+1-(intOf i).toNat)
 case atStart=>exact⟨0,0,⟨none,0,0⟩,[],rfl,rfl,rfl,Nat.zero_le _,Rw.nil_ _ _ _,rfl,(fun x hx=>by cases hx),by omega,by simp[valL],fun _=>rfl,Ext.rf _⟩
 case round =>
  obtain⟨k,cc,so,o,rfl,rfl,rfl,hk,hown,hol,hdo,hcc,hval,hcz,hx⟩:=hrel
  have hsl:=hown.len
  obtain⟨oa,on,oc⟩:=so
  simp only at hsl
  subst hsl
  have fa:=da.at_ k
  have fb:=db.at_ k
  have holb:o.length≤max a.length b.length+1:=by omega
  replace hval:=hd_ hval
  replace hol:=hd_ hol
  by_cases h1:k<a.length
  ·obtain⟨ba,oa',rfl,hba,ga⟩:=hopa (by omega)
   have ga:=(hx.cell (p:=⟨ba,oa'+k,none⟩) hba.lt).trans (ga k h1)
   by_cases h2:k<b.length
   ·obtain⟨bb,ob',rfl,hbb,gb⟩:=hopb (by omega)
    have gb:=(hx.cell (p:=⟨bb,ob'+k,none⟩) hbb.lt).trans (gb k h2)
    go_wp2_with ((refine wpL_app1 _ rfl _ _ 43 rfl .i64 8 Try.underlying43 infoI64 w ⟨oa,o.length,oc⟩ o _ rfl rfl (by simpa using hown) hx (by omega) (by omega) ?_);intro s5 w5 hrw5 hx5 hk5)
    go_roundw
    case rel =>
     refine⟨k+1,_,s5,o++[(cc+at_ a k+at_ b k) % 10000],rfl,rfl,by go_num,by omega,hrw5,by simp[hol.out],hdo.snoc (by omega),by omega,?_,by omega,hx5⟩
     rw[valL_snoc,hol.out,valL_take_succ,valL_take_succ]
     exact dadd_step hval.out (Int.pow_succ ..).symm
    case measure=>first | (simp[intOf];done) | (simp[intOf];omega)
   ·go_wp2_with ((refine wpL_app1 _ rfl _ _ 43 rfl .i64 8 Try.underlying43 infoI64 w ⟨oa,o.length,oc⟩ o _ rfl rfl (by simpa using hown) hx (by omega) (by omega) ?_);intro s5 w5 hrw5 hx5 hk5)
    go_roundw
    case rel =>
     refine⟨k+1,_,s5,o++[(cc+at_ a k) % 10000],rfl,rfl,by go_num,by omega,hrw5,by simp[hol.out],hdo.snoc (by omega),by omega,?_,by omega,hx5⟩
     rw[valL_snoc,hol.out,valL_take_succ,valL_take_succ]
     have S:=dadd_step (x:=at_ a k) (y:=0) hval.out (Int.pow_succ 10000 k).symm
     rw[Int.add_zero] at S
     rw[at_ge (l:=b) (by omega)]
     exact S
    case measure=>first | (simp[intOf];done) | (simp[intOf];omega)
  ·by_cases h2:k<b.length
   ·obtain⟨bb,ob',rfl,hbb,gb⟩:=hopb (by omega)
    have gb:=(hx.cell (p:=⟨bb,ob'+k,none⟩) hbb.lt).trans (gb k h2)
    go_wp2_with ((refine wpL_app1 _ rfl _ _ 43 rfl .i64 8 Try.underlying43 infoI64 w ⟨oa,o.length,oc⟩ o _ rfl rfl (by simpa using hown) hx (by omega) (by omega) ?_);intro s5 w5 hrw5 hx5 hk5)
    go_roundw
    case rel =>
     refine⟨k+1,_,s5,o++[(cc+at_ b k) % 10000],rfl,rfl,by go_num,by omega,hrw5,by simp[hol.out],hdo.snoc (by omega),by omega,?_,by omega,hx5⟩
     rw[valL_snoc,hol.out,valL_take_succ,valL_take_succ]
     have S:=dadd_step (x:=0) (y:=at_ b k) hval.out (Int.pow_succ 10000 k).symm
     rw[Int.add_zero] at S
     rw[at_ge (l:=a) (by omega)]
     exact S
    case measure=>first | (simp[intOf];done) | (simp[intOf];omega)
   ·by_cases h3:0<cc
    ·have hkk:k≤max a.length b.length:=by
      rcases Nat.lt_or_ge k (max a.length b.length+1) with h | h
      ·omega
      ·have:=hcz (by omega);omega
     clear hcz
     go_wp2_with ((refine wpL_app1 _ rfl _ _ 43 rfl .i64 8 Try.underlying43 infoI64 w ⟨oa,o.length,oc⟩ o _ rfl rfl (by simpa using hown) hx (by omega) (by omega) ?_);intro s5 w5 hrw5 hx5 hk5)
     go_roundw
     case rel =>
      refine⟨k+1,_,s5,o++[(cc) % 10000],rfl,rfl,by go_num,by omega,hrw5,by simp[hol.out],hdo.snoc (by omega),by omega,?_,by omega,hx5⟩
      rw[valL_snoc,hol.out,valL_take_succ,valL_take_succ]
      have S:=dadd_step (x:=0) (y:=0) hval.out (Int.pow_succ 10000 k).symm
      rw[Int.add_zero,Int.add_zero] at S
      rw[at_ge (l:=a) (by omega),at_ge (l:=b) (by omega)]
      exact S
     case measure=>first | (simp[intOf];done) | (simp[intOf];omega)
    ·obtain rfl:cc=0:=by omega
     clear hcz
     go_wp2
     go_ret
     have hv:=hval.out
     rw[Int.zero_mul,Int.add_zero,List.take_of_length_le (by omega),List.take_of_length_le (by omega)] at hv
     exact⟨⟨oa,o.length,oc⟩,o,rfl,hown.isL hdo.fit,hdo,holb,hv,hx,Av.row hown (Nat.le_refl _)⟩
end Go.Proofs.Ytdjbfgfbpimakaa.Z4
