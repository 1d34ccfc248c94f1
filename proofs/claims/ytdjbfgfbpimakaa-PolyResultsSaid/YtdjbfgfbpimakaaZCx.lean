/- The reference's dsub, ZAdd, ZSub, ZCmp. -/
import Derived.Test.YtdjbfgfbpimakaaZBx
import Derived.Test.YtdjbfgfbpimakaaNumEx
namespace Go.Proofs.Ytdjbfgfbpimakaa.Z4
open Go.RowKit
theorem dsub_step1 {va vb vo c p x y q:Int} (h:vo-c*p=va-vb) (hq:p*10000=q):vo+(x-c-y+10000)*p-1*q=va+x*p-(vb+y*p):=by
 rw[←hq];grind
theorem dsub_step0 {va vb vo c p x y q:Int} (h:vo-c*p=va-vb):vo+(x-c-y)*p-0*q=va+x*p-(vb+y*p):=by grind
set_option maxRecDepth 100000 in
set_option maxHeartbeats 1000000 in
theorem dsub_any (s t:SV) (a b:List Int) (w:World) (ha:IsL w s .i64 a) (hb:IsL w t .i64 b) (da:Dig a) (db:Dig b) (hla:a.length≤13000000000000) (hlb:b.length≤a.length) (hge:valL b≤valL a) :
  Calls Try.prog 114 #[.slice s.a s.len s.cap,.slice t.a t.len t.cap] w (RetD w a.length (valL a-valL b)):=by
 obtain⟨ao,ca,rfl,hca,hcam,hopa⟩:=ha.open_
 obtain⟨bo,cb,rfl,hcb,hcbm,hopb⟩:=hb.open_
 replace hge:=hd_ hge
 go_enter Try.func114,Try.ntmps114
 go_wp2
 go_loopw [6,5,7] (fun c ov i wr => ∃ (k:Nat) (cc:Int) (so:SV) (o:List Int),c = .int .i64 cc∧ov = .slice so.a so.len so.cap∧i = .int .i64 k∧k≤a.length∧Rw wr w.heap.size .i64 so o∧o.length=k∧Dig o∧(0≤cc∧cc≤1) ∧
   valL o-cc*10000^k=valL (a.take k)-valL (b.take k)∧Ext w wr) (fun _ _ i _=>a.length-(intOf i).toNat)
 case atStart=>exact⟨0,0,⟨none,0,0⟩,[],rfl,rfl,rfl,Nat.zero_le _,Rw.nil_ _ _ _,rfl,(fun x hx=>by cases hx),by omega,by simp[valL],Ext.rf _⟩
 case round =>
  obtain⟨k,cc,so,o,rfl,rfl,rfl,hk,hown,hol,hdo,hcc,hval,hx⟩:=hrel
  have hsl:=hown.len
  obtain⟨oa,on,oc⟩:=so
  simp only at hsl
  subst hsl
  have fa:=da.at_ k
  have fb:=db.at_ k
  have holb:o.length≤a.length:=by omega
  replace hval:=hd_ hval
  replace hol:=hd_ hol
  by_cases h1:k<a.length
  ·obtain⟨ba,oa',rfl,hba,ga⟩:=hopa (by omega)
   have ga:=(hx.cell (p:=⟨ba,oa'+k,none⟩) hba.lt).trans (ga k h1)
   by_cases h2:k<b.length
   ·obtain⟨bb,ob',rfl,hbb,gb⟩:=hopb (by omega)
    have gb:=(hx.cell (p:=⟨bb,ob'+k,none⟩) hbb.lt).trans (gb k h2)
    by_cases h3:at_ a k-cc-at_ b k<0
    ·go_wp2_with ((refine wpL_app1 _ rfl _ _ 43 rfl .i64 8 Try.underlying43 infoI64 w ⟨oa,o.length,oc⟩ o _ rfl rfl (by simpa using hown) hx (by omega) (by omega) ?_);intro s5 w5 hrw5 hx5 hk5)
     go_roundw
     case rel =>
      refine⟨k+1,_,s5,o++[at_ a k-cc-at_ b k+10000],rfl,rfl,by go_num,by omega,hrw5,by simp[hol.out],hdo.snoc (by omega),by omega,?_,hx5⟩
      rw[valL_snoc,hol.out,valL_take_succ,valL_take_succ]
      exact dsub_step1 hval.out (Int.pow_succ ..).symm
     case measure=>first | (simp[intOf];done) | (simp[intOf];omega)
    ·go_wp2_with ((refine wpL_app1 _ rfl _ _ 43 rfl .i64 8 Try.underlying43 infoI64 w ⟨oa,o.length,oc⟩ o _ rfl rfl (by simpa using hown) hx (by omega) (by omega) ?_);intro s5 w5 hrw5 hx5 hk5)
     go_roundw
     case rel =>
      refine⟨k+1,_,s5,o++[at_ a k-cc-at_ b k],rfl,rfl,by go_num,by omega,hrw5,by simp[hol.out],hdo.snoc (by omega),by omega,?_,hx5⟩
      rw[valL_snoc,hol.out,valL_take_succ,valL_take_succ]
      exact dsub_step0 hval.out
     case measure=>first | (simp[intOf];done) | (simp[intOf];omega)
   ·have hb0:Hd (at_ b k=0):=hd_ (at_ge (by omega))
    by_cases h3:at_ a k-cc<0
    ·go_wp2_with ((refine wpL_app1 _ rfl _ _ 43 rfl .i64 8 Try.underlying43 infoI64 w ⟨oa,o.length,oc⟩ o _ rfl rfl (by simpa using hown) hx (by omega) (by omega) ?_);intro s5 w5 hrw5 hx5 hk5)
     go_roundw
     case rel =>
      refine⟨k+1,_,s5,o++[at_ a k-cc+10000],rfl,rfl,by go_num,by omega,hrw5,by simp[hol.out],hdo.snoc (by omega),by omega,?_,hx5⟩
      rw[valL_snoc,hol.out,valL_take_succ,valL_take_succ]
      have S:=dsub_step1 (x:=at_ a k) (y:=0) hval.out (Int.pow_succ 10000 k).symm
      rw[Int.sub_zero] at S
      rw[hb0.out]
      exact S
     case measure=>first | (simp[intOf];done) | (simp[intOf];omega)
    ·go_wp2_with ((refine wpL_app1 _ rfl _ _ 43 rfl .i64 8 Try.underlying43 infoI64 w ⟨oa,o.length,oc⟩ o _ rfl rfl (by simpa using hown) hx (by omega) (by omega) ?_);intro s5 w5 hrw5 hx5 hk5)
     go_roundw
     case rel =>
      refine⟨k+1,_,s5,o++[at_ a k-cc],rfl,rfl,by go_num,by omega,hrw5,by simp[hol.out],hdo.snoc (by omega),by omega,?_,hx5⟩
      rw[valL_snoc,hol.out,valL_take_succ,valL_take_succ]
      have S:=dsub_step0 (x:=at_ a k) (y:=0) (q:=10000^(k+1)) hval.out
      rw[Int.sub_zero] at S
      rw[hb0.out]
      exact S
     case measure=>first | (simp[intOf];done) | (simp[intOf];omega)
  ·have hka:Hd (k=a.length):=hd_ (by omega)
   go_wp2
   go_ret
   refine⟨⟨oa,o.length,oc⟩,o,rfl,hown.isL hdo.fit,hdo,holb,?_,hx,Av.row hown (Nat.le_refl _)⟩
   have h1:=hval.out
   have h2:=valL_lt hdo
   have h3:=valL_nonneg hdo
   have h4:=hge.out
   rw[hka.out,List.take_of_length_le (Nat.le_refl _),List.take_of_length_le (by omega)] at h1
   rw[hol.out,hka.out] at h2
   have hc:cc=0:=by
    rcases (show cc=0∨cc=1 by omega) with h | h
    ·exact h
    ·rw[h,Int.one_mul] at h1;omega
   rw[hc,Int.zero_mul] at h1
   omega
end Go.Proofs.Ytdjbfgfbpimakaa.Z4
