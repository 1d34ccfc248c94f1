/- The reference's ZMul. -/
import Derived.Test.YtkidkimjdiichaaGreatK3w
import Derived.Test.YtkidkimjdiichaaGreatK2w
namespace Go.Proofs.YtkidkimjdiichaaGreat.Z4
open Go.RowKit
theorem pow_add4 (i j:Nat):(10000:Int)^(i+j)=10000^i*10000^j:=Int.pow_add ..
theorem zmul_step {V c V0 x vb y ok p q bi Y:Int} (h:V+c*p=V0+x*vb*bi) (hq:p*10000=q) (hp:y*p=Y*bi) :
  V+((c+ok+x*y) % 10000-ok)*p+(c+ok+x*y) / 10000*q=V0+x*(vb+Y)*bi:=by
 have h1:(c+ok+x*y) % 10000=(c+ok+x*y)-10000*((c+ok+x*y) / 10000):=by omega
 rw[h1,←hq]
 generalize (c+ok+x*y) / 10000=d
 grind
set_option maxRecDepth 100000 in
set_option maxHeartbeats 2000000 in
theorem mul_av (x y:IV) (a b:Int) (w:World) (hx:IsZ w x a) (hy:IsZ w y b) (hs:Sm (a*b)) :
  Calls Tryz.prog 137 #[.agg #[.bool x.n,.slice x.s.a x.s.len x.s.cap],.agg #[.bool y.n,.slice y.s.a y.s.len y.s.cap]] w (RetZA w [] (a*b)):=by
 obtain⟨la,hla,na,da,hlea,hza,h0a,hsa⟩:=hx.open_
 obtain⟨lb,hlb,nb,db,hleb,hzb,h0b,hsb⟩:=hy.open_
 obtain⟨nx,sx⟩:=x
 obtain⟨ny,sy⟩:=y
 obtain⟨ao,ca,rfl,hca,hcam,hopa⟩:=hla.open_
 obtain⟨bo,cb,rfl,hcb,hcbm,hopb⟩:=hlb.open_
 have hv:=hd_ ((sg_mul (m:=nx) (n:=ny) (p:=valL la) (q:=valL lb)).trans (show _=a*b by rw[hza,hzb]))
 replace hs:=hd_ hs
 have he0:=(((Ext.rf w).al (Obj.cells #[Value.bool nx,Value.slice ao la.length ca] 58)).al (Obj.cells #[Value.bool ny,Value.slice bo lb.length cb] 58)).al (Obj.cells #[Value.bool false,Value.slice none 0 0] 58)
 clear hx hy hza hzb h0a h0b hsa hsb na nb
 go_enter Tryz.func137,Tryz.ntmps137
 go_wp2_with (at_make;refine wpL_make _ rfl _ _ 56 rfl 3 .i64 8 Tryz.underlying56 infoI64 _ _ _ _ (la.length+lb.length+1) rfl rfl (by omega) (by omega) (by omega) (by omega) ?_;intro w1 hown1 hx1 hlt1;obtain⟨hc1,hf1⟩:=bcell hx1)
 go_loopw [6] (fun i wr => ∃ (k:Nat) (o:List Int),i = .int .i64 k∧k≤la.length∧Own wr (w.heap.size+1+1+1) 3 .i64 o∧o.length=la.length+lb.length+1∧Dig o ∧
   valL o=valL (la.take k)*valL lb∧(∀ t,k+lb.length≤t→at_ o t=0)∧Ext (((w.alloc (Obj.cells #[Value.bool nx,Value.slice ao la.length ca] 58)).alloc (Obj.cells #[Value.bool ny,Value.slice bo lb.length cb] 58)).alloc (Obj.cells #[Value.bool false,Value.slice none 0 0] 58)) wr) (fun i _=>la.length-(intOf i).toNat)
 case atStart=>exact⟨0,_,rfl,Nat.zero_le _,by simpa using hown1,by simp,(fun x hx=>by have:=List.eq_of_mem_replicate hx;omega),by simp[valL];exact valL_zero (fun j=>by simp[at_,List.getElem?_replicate];split<;>rfl),fun t _=>by simp[at_,List.getElem?_replicate];split<;>rfl,hx1⟩
 case round =>
  clear hown1 hx1 hc1 hf1 hlt1
  obtain⟨k,o,rfl,hk,hown,hol,hdo,hval,hzt,hx⟩:=hrel
  replace hval:=hd_ hval
  replace hol:=hd_ hol
  replace hzt:=hd_ hzt
  obtain⟨hc1,hf1⟩:=bcell hx
  have hsz:=hx.size
  simp only[World.size_alloc] at hsz
  by_cases hlt:k<la.length
  ·obtain⟨ba,oa,rfl,hba,ga0⟩:=hopa (by omega)
   have hbl:=hba.lt
   have ga0:=(he0.cell (p:=⟨ba,oa+k,none⟩) hbl).trans (ga0 k hlt)
   have fa:=da.at_ k
   go_wp2
   go_loopw [8,7] (fun j c wi => ∃ (m:Nat) (cc:Int) (o2:List Int),j = .int .i64 m∧c = .int .i64 cc∧m≤lb.length+1∧(0≤cc∧cc≤9999)∧Own wi (w.heap.size+1+1+1) 3 .i64 o2∧o2.length=la.length+lb.length+1∧Dig o2 ∧
     valL o2+cc*10000^(k+m)=valL (la.take k)*valL lb+at_ la k*valL (lb.take m)*10000^k∧(∀ t,k+max m lb.length≤t→at_ o2 t=0)∧(m=lb.length+1→cc=0)∧Ext (((w.alloc (Obj.cells #[Value.bool nx,Value.slice (some ⟨ba,oa,none⟩) la.length ca] 58)).alloc (Obj.cells #[Value.bool ny,Value.slice bo lb.length cb] 58)).alloc (Obj.cells #[Value.bool false,Value.slice none 0 0] 58)) wi) (fun j _ _=>lb.length+1-(intOf j).toNat)
   case atStart=>exact⟨0,0,o,rfl,rfl,Nat.zero_le _,by omega,hown,hol.out,hdo,by rw[hval.out];simp[valL],fun t ht=>hzt.out t (by omega),fun _=>rfl,hx⟩
   case round =>
    clear hown hdo hval hol hzt hx hc1 hf1 hsz
    obtain⟨m,cc,o2,rfl,rfl,hm,hcc,hown,hol,hdo,hval,hzt,hcz,hx⟩:=hrel
    replace hval:=hd_ hval
    replace hol:=hd_ hol
    replace hzt:=hd_ hzt
    obtain⟨hc1,hf1⟩:=bcell hx
    have hsz:=hx.size
    simp only[World.size_alloc] at hsz
    have ga:=(hx.cell (p:=⟨ba,oa+k,none⟩) (by simp;omega)).trans ga0
    by_cases hlt2:m<lb.length
    ·obtain⟨bb,ob,rfl,hbb,gb⟩:=hopb (by omega)
     have hbl2:=hbb.lt
     have gb:=(hx.cell (p:=⟨bb,ob+m,none⟩) (by simp;omega)).trans ((he0.cell (p:=⟨bb,ob+m,none⟩) hbl2).trans (gb m hlt2))
     have fb:=db.at_ m
     have fab:=mul_bound fa fb
     have go:=hown.cell (i:=k+m) (by have:=hol.out;omega)
     have gf:=hown.frozen (k+m)
     have fo:=hdo.at_ (k+m)
     clear hcz
     go_wp2
     go_quiet (fail)
     go_wp2
     go_roundw
     case rel =>
      refine⟨m+1,_,o2.set (k+m) ((cc+at_ o2 (k+m)+at_ la k*at_ lb m) % 10000),by go_num,rfl,by omega,by omega,hown.set (k+m) _,by rw[List.length_set];exact hol.out,hdo.set _ (by omega),?_,?_,by omega,?_⟩
      ·rw[valL_set_full (by have:=hol.out;omega),valL_take_succ,←Nat.add_assoc]
       exact zmul_step hval.out (Int.pow_succ ..).symm (by rw[pow_add4];grind)
      ·intro t ht
       rw[at_set_ne (by omega)]
       exact hzt.out t (by omega)
      ·exact Ext.st (below_drewN hx _) (by simp) _
     case measure=>first | (simp[intOf];done) | (simp[intOf];omega)
    ·by_cases hcp:0<cc
     ·have hml:m=lb.length:=by
       rcases Nat.lt_or_ge m (lb.length+1) with h | h
       ·omega
       ·have:=hcz (by omega);omega
      have go:=hown.cell (i:=k+m) (by have:=hol.out;omega)
      have hz0:at_ o2 (k+m)=0:=hzt.out _ (by omega)
      rw[hz0] at go
      have gf:=hown.frozen (k+m)
      replace hml:=hd_ hml
      replace hz0:=hd_ hz0
      clear hcz
      go_wp2
      go_roundw
      case rel =>
       refine⟨m+1,cc / 10000,o2.set (k+m) (cc % 10000),by go_num,rfl,by have:=hml.out;omega,by omega,hown.set (k+m) _,by rw[List.length_set];exact hol.out,hdo.set _ (by omega),?_,?_,fun _=>by omega,hx.st (by simp) _⟩
       ·have h1:=hval.out
        rw[show cc % 10000=cc by omega,show cc / 10000=0 by omega]
        have e1:lb.take m=lb:=List.take_of_length_le (by have:=hml.out;omega)
        have e2:lb.take (m+1)=lb:=List.take_of_length_le (by have:=hml.out;omega)
        rw[e1] at h1
        rw[valL_set_full (by have:=hol.out;have:=hml.out;omega),hz0.out,e2,Int.sub_zero,Int.zero_mul,Int.add_zero,h1]
       ·intro t ht
        have:=hml.out
        rw[at_set_ne (by omega)]
        exact hzt.out t (by omega)
      case measure=>have:=hml.out;first | (simp[intOf];done) | (simp[intOf];omega)
     ·obtain rfl:cc=0:=by omega
      have hfin:Hd (valL o2=valL (la.take (k+1))*valL lb):=hd_ (by
       have h1:=hval.out
       have e1:lb.take m=lb:=List.take_of_length_le (by omega)
       rw[e1,Int.zero_mul,Int.add_zero] at h1
       rw[h1,valL_take_succ]
       grind)
      clear hcz
      go_wp2
      go_roundw
      case rel=>exact⟨k+1,o2,by go_num,by omega,hown,hol.out,hdo,hfin.out,fun t ht=>hzt.out t (by omega),hx⟩
      case measure=>first | (simp[intOf];done) | (simp[intOf];omega)
  ·obtain rfl:k=la.length:=by omega
   rw[List.take_of_length_le (Nat.le_refl _)] at hval
   go_wp2_with fail
   have hL:=Own.isL (k:=.i64) hown (by have:=hol.out;omega) hdo.fit
   rw[hol.out] at hL
   refine (made_av _ ⟨some ⟨w.heap.size+1+1+1,0,none⟩,la.length+lb.length+1,la.length+lb.length+1⟩ o _ hL hdo (by rw[hval.out,hv.out];exact hs.out)).mono ?_
   rintro e w2 ⟨y,rfl,hy,hx2,hav⟩
   have k0:w2.cell? ⟨w.heap.size+1+1,0,none⟩=some (Value.bool false):=cell_later hx2 (cell_later hx (by simp[go_sem]))
   have k1:w2.cell? ⟨w.heap.size+1+1,1,none⟩=some (Value.slice none 0 0):=cell_later hx2 (cell_later hx (by simp[go_sem]))
   have f0:∀ i,w2.frozen? ⟨w.heap.size+1+1,i,none⟩=false:=fun i=>(hx2.frozen (p:=⟨w.heap.size+1+1,i,none⟩) (by show w.heap.size+1+1<_;omega)).trans ((hx.frozen (p:=⟨w.heap.size+1+1,i,none⟩) (by simp)).trans (by simp[go_sem]))
   go_wp2
   refine bodyPost_ret (v:=.agg #[.bool y.n,.slice y.s.a y.s.len y.s.cap]) (by simp[results,Tryz.results137,go_sem,k0,k1]) rfl ⟨y,rfl,?_,?_,(hav.mono (by omega)).trans (av1 (Av.own rfl (by omega)))⟩
   ·rw[hval.out,hv.out] at hy
    exact hy.kept ((Kept.rf _ _).st2 (T':=58) (((Ty.new' (by simp)).keep hx).keep hx2) (by decide) _ _)
   ·exact ((he0.tr hx).tr hx2).st2 (by omega) _ _
theorem mul_any (x y:IV) (a b:Int) (w:World) (hx:IsZ w x a) (hy:IsZ w y b) (hs:Sm (a*b)) :
  Calls Tryz.prog 137 #[.agg #[.bool x.n,.slice x.s.a x.s.len x.s.cap],.agg #[.bool y.n,.slice y.s.a y.s.len y.s.cap]] w (RetZ w (a*b)):=(mul_av x y a b w hx hy hs).mono fun _ _ h=>h.ret
end Go.Proofs.YtkidkimjdiichaaGreat.Z4
