/- The reference's ZGcd, ZAbs. -/
import Derived.Test.YtdjbfgfbpimakaaK7
import Derived.Test.YtdjbfgfbpimakaaZDivx
import Derived.Deep.LoopGhost
namespace Go.Proofs.Ytdjbfgfbpimakaa
open Go.RowKit
namespace Z4
theorem div_any (x y:IV) (a b:Int) (w:World) (hx:IsZ w x a) (hy:IsZ w y b) (hb:b≠0) (hs:Bt b 140737488355296) :
  Calls Try.prog 86 #[.agg #[.bool x.n,.slice x.s.a x.s.len x.s.cap],.agg #[.bool y.n,.slice y.s.a y.s.len y.s.cap]] w (RetDiv w (a / b) (a % b) 0):=div_ok x y a b w hx hy hb hs
set_option maxRecDepth 100000 in
set_option maxHeartbeats 4000000 in
theorem gcd_any (x y:IV) (a b:Int) (w:World) (hx:IsZ w x a) (hy:IsZ w y b) (ha:Bt a 140737488355296) (hb:Bt b 140737488355296) :
  Calls Try.prog 85 #[.agg #[.bool x.n,.slice x.s.a x.s.len x.s.cap],.agg #[.bool y.n,.slice y.s.a y.s.len y.s.cap]] w (RetZ w (Int.gcd a b)):=by
 have V0:=((((Vs.nil w).add' (n:=w.heap.size) (vs:=#[Value.bool x.n,Value.slice x.s.a x.s.len x.s.cap]) (T:=45) (by simp)).add' (n:=w.heap.size+1) (vs:=#[Value.bool y.n,Value.slice y.s.a y.s.len y.s.cap]) (T:=45) (by simp)).add' (n:=w.heap.size+1+1) (vs:=#[Value.bool false,Value.slice none 0 0]) (T:=45) (by simp))
 replace hx:=hx.keep V0.ext
 replace hy:=hy.keep V0.ext
 go_enter Try.func85,Try.ntmps85
 go_upto_region 1 with fail
 generalize (((w.alloc (Obj.cells #[Value.bool x.n,Value.slice x.s.a x.s.len x.s.cap] 45)).alloc (Obj.cells #[Value.bool y.n,Value.slice y.s.a y.s.len y.s.cap] 45)).alloc (Obj.cells #[Value.bool false,Value.slice none 0 0] 45))=W0 at *
 go_wp2
 go_loopg [8] b.natAbs (fun g s8 wr => ∃ (p q:IV) (c d:Int),Vs w wr [(w.heap.size+1+1,45,#[Value.bool false,Value.slice none 0 0]),(w.heap.size+1,45,#[Value.bool q.n,Value.slice q.s.a q.s.len q.s.cap]),(w.heap.size,45,#[Value.bool p.n,Value.slice p.s.a p.s.len p.s.cap])]∧IsZ wr p c∧IsZ wr q d∧Bt c 140737488355296∧Bt d 140737488355296∧Int.gcd c d=Int.gcd a b∧d.natAbs=g)
 case atStart=>exact⟨x,y,a,b,V0,hx,hy,ha,hb,rfl,rfl⟩
 case round =>
  clear hx hy V0
  obtain⟨p,q,c,d,VL,hp,hq,bc,bd,hg,rfl⟩:=hrel
  replace hg:=hd_ hg
  have hlz:=len_zero_iffZ hq
  obtain⟨c0,c1,-,-⟩:=VL.facts 1 rfl
  by_cases hd0:d=0
  ·have hl0:q.s.len=0:=hlz.2 hd0
   have hres:=hd_ (show (c.natAbs:Int)=Int.gcd a b by rw[←hg.out,hd0];simp)
   clear hlz
   replace hd0:=hd_ hd0
   go_upto_region 4 with fail
   clear hl0 c0 c1
   obtain⟨c2_0,c2_1,c2_2,c2_3⟩:=VL.facts 2 rfl
   obtain⟨c4_0,c4_1,c4_2,c4_3⟩:=VL.facts 0 rfl
   go_wp2_with fail
   (with_reducible refine (Z4.madeAbs_any p c _ (hp)).mono ?_)
   rintro e W1 ⟨r,rfl,hr,hxx⟩
   replace hp:=hp.keep hxx
   replace hq:=hq.keep hxx
   clear c2_0 c2_1 c2_2 c2_3 c4_0 c4_1 c4_2 c4_3
   have V1:=VL.keep hxx
   clear VL hxx
   obtain⟨c4_0,c4_1,c4_2,c4_3⟩:=V1.facts 0 rfl
   go_wp2
   clear c4_0 c4_1 c4_2 c4_3
   have KZ:=V1.kept2 (U:=3) 0 rfl (by decide) (Value.bool r.n) (Value.slice r.s.a r.s.len r.s.cap)
   replace hp:=hp.kept KZ
   replace hq:=hq.kept KZ
   replace hr:=hr.kept KZ
   clear KZ
   replace V1:=V1.set2 0 rfl (Value.bool r.n) (Value.slice r.s.a r.s.len r.s.cap)
   dsimp only[List.set] at V1
   generalize ((W1.setCell ⟨w.heap.size+1+1,0,none⟩ (Value.bool r.n)).setCell ⟨w.heap.size+1+1,1,none⟩ (Value.slice r.s.a r.s.len r.s.cap))=W2 at *
   have V2:=V1
   clear V1
   rw[hres.out] at hr
   obtain⟨r4_0,r4_1,r4_2,r4_3⟩:=V2.facts 0 rfl
   go_wp2
   refine bodyPost_ret (v:=.agg #[Value.bool r.n,Value.slice r.s.a r.s.len r.s.cap]) (by simp[results,Try.results85,go_sem,r4_0,r4_1]) rfl ?_
   exact⟨r,rfl,hr,V2.ext⟩
  ·-- skip
   have hl0:0<q.s.len:=by
    rcases Nat.eq_zero_or_pos q.s.len with h | h
    ·exact absurd (hlz.1 h) hd0
    ·exact h
   clear hlz
   go_upto_region 2 with fail
   clear hl0 c0 c1
   obtain⟨c2_0,c2_1,c2_2,c2_3⟩:=VL.facts 2 rfl
   have c2_l4:=VL.lt 2 rfl
   obtain⟨c3_0,c3_1,c3_2,c3_3⟩:=VL.facts 1 rfl
   have c3_l4:=VL.lt 1 rfl
   have c3_l5:w.heap.size<wr.heap.size:=by omega
   go_wp2_with fail
   (with_reducible refine (Z4.div_any p q c d _ (hp) (hq) hd0 (bd.mono (by omega))).mono ?_)
   rintro e W3 ⟨qq,r,rfl,hqq,hr,hxx⟩
   replace hp:=hp.keep hxx
   replace hq:=hq.keep hxx
   clear c2_0 c2_1 c2_2 c2_3 c2_l4 c3_0 c3_1 c3_2 c3_3 c3_l4 c3_l5
   have V3:=VL.keep hxx
   clear VL hxx
   go_upto_region 3 with fail
   replace V3:=V3.add' (n:=W3.heap.size) (vs:=#[Value.bool qq.n,Value.slice qq.s.a qq.s.len qq.s.cap]) (T:=45) (by simp)
   replace hp:=hp.keep ((Ext.rf _).al (Obj.cells #[Value.bool qq.n,Value.slice qq.s.a qq.s.len qq.s.cap] 45))
   replace hq:=hq.keep ((Ext.rf _).al (Obj.cells #[Value.bool qq.n,Value.slice qq.s.a qq.s.len qq.s.cap] 45))
   replace hqq:=hqq.keep ((Ext.rf _).al (Obj.cells #[Value.bool qq.n,Value.slice qq.s.a qq.s.len qq.s.cap] 45))
   replace hr:=hr.keep ((Ext.rf _).al (Obj.cells #[Value.bool qq.n,Value.slice qq.s.a qq.s.len qq.s.cap] 45))
   replace V3:=V3.add' (n:=W3.heap.size+1) (vs:=#[Value.bool r.n,Value.slice r.s.a r.s.len r.s.cap]) (T:=45) (by simp)
   replace hp:=hp.keep ((Ext.rf _).al (Obj.cells #[Value.bool r.n,Value.slice r.s.a r.s.len r.s.cap] 45))
   replace hq:=hq.keep ((Ext.rf _).al (Obj.cells #[Value.bool r.n,Value.slice r.s.a r.s.len r.s.cap] 45))
   replace hqq:=hqq.keep ((Ext.rf _).al (Obj.cells #[Value.bool r.n,Value.slice r.s.a r.s.len r.s.cap] 45))
   replace hr:=hr.keep ((Ext.rf _).al (Obj.cells #[Value.bool r.n,Value.slice r.s.a r.s.len r.s.cap] 45))
   replace V3:=V3.add' (n:=W3.heap.size+1+1) (vs:=#[Value.int .i64 0,Value.int .i64 0]) (T:=27) (by simp)
   replace hp:=hp.keep ((Ext.rf _).al (Obj.cells #[Value.int .i64 0,Value.int .i64 0] 27))
   replace hq:=hq.keep ((Ext.rf _).al (Obj.cells #[Value.int .i64 0,Value.int .i64 0] 27))
   replace hqq:=hqq.keep ((Ext.rf _).al (Obj.cells #[Value.int .i64 0,Value.int .i64 0] 27))
   replace hr:=hr.keep ((Ext.rf _).al (Obj.cells #[Value.int .i64 0,Value.int .i64 0] 27))
   generalize (((W3.alloc (Obj.cells #[Value.bool qq.n,Value.slice qq.s.a qq.s.len qq.s.cap] 45)).alloc (Obj.cells #[Value.bool r.n,Value.slice r.s.a r.s.len r.s.cap] 45)).alloc (Obj.cells #[Value.int .i64 0,Value.int .i64 0] 27))=W4 at *
   have V4:=V3
   clear V3
   (try go_upto_region 3 with fail)
   obtain⟨c3_0,c3_1,c3_2,c3_3⟩:=V4.facts 4 rfl
   obtain⟨c6_0,c6_1,c6_2,c6_3⟩:=V4.facts 1 rfl
   have HS:=hd_ (show ∀ W',Ext W4 W'→Cs W' [(W3.heap.size+1,0,Value.bool r.n),(W3.heap.size+1,1,Value.slice r.s.a r.s.len r.s.cap)] from fun W' hW=>by simp only[cs_cons,cs_nil];exact⟨cell_later hW c6_0,cell_later hW c6_1,trivial⟩)
   have HA:=hd_ (show ∀ W',Ext W4 W'→Cs W' [(w.heap.size+1,0,Value.bool q.n),(w.heap.size+1,1,Value.slice q.s.a q.s.len q.s.cap)] from fun W' hW=>by simp only[cs_cons,cs_nil];exact⟨cell_later hW c3_0,cell_later hW c3_1,trivial⟩)
   clear c3_0 c3_1 c3_2 c3_3 c6_0 c6_1 c6_2 c6_3
   refine wpG_begin (S:=(fun w'=>Cs w' [(W3.heap.size+1,0,Value.bool r.n),(W3.heap.size+1,1,Value.slice r.s.a r.s.len r.s.cap)])) (fun w'=>Cs w' [(w.heap.size+1,0,Value.bool q.n),(w.heap.size+1,1,Value.slice q.s.a q.s.len q.s.cap)]) (fun _=>True) 3 99 (by kernel_rfl) (fun WX hWX => ?_) (fun WX hWX hHeld => ?_)
   ·exact⟨HS.out _ hWX,HA.out _ hWX,trivial⟩
   have hE:=hWX
   refine wpG_takeA (i:=0) (oi:=_) (v:=?_) rfl (by kernel_rfl) (by kernel_rfl) (by kernel_rfl) (by decide) (by decide) (by kernel_rfl) (by kernel_rfl) (fun _ _ _ h=>h) (Or.inl ⟨by rfl,?_⟩) hHeld ?_
   rotate_left
   ·intro w hSw;(try dsimp only at hSw);(try simp only[cs_cons,cs_nil,and_true] at hSw);go_simp;(try with_reducible rfl)
   (try simp only[putR])
   replace hHeld:=hHeld.more 0
   refine wpG_take (i:=1) (oi:=_) (v:=?_) rfl (by kernel_rfl) (by kernel_rfl) (by kernel_rfl) (by decide) (by decide) (fun _ _ _ h=>h) (Or.inl ⟨by rfl,?_⟩) hHeld ?_
   rotate_left
   ·intro w hSw;(try dsimp only at hSw);(try simp only[cs_cons,cs_nil,and_true] at hSw);go_simp;(try with_reducible rfl)
   (try simp only[putR])
   replace hHeld:=hHeld.more 1
   refine wpG_step (i:=2) (o:=_) (by kernel_rfl) rfl (fun K hK => ?_)
   obtain⟨s2_0,s2_1,s2_2,s2_3⟩:=(V4.keep hE).facts 5 rfl
   obtain⟨s3_0,s3_1,s3_2,s3_3⟩:=(V4.keep hE).facts 4 rfl
   have ne2_3:=V4.ne 5 4 rfl rfl (by decide)
   have ne3_2:=V4.ne 4 5 rfl rfl (by decide)
   go_simp
   refine hK.out _ _ ⟨(hHeld.s).st2 ⟨V4.ne 5 1 rfl rfl (by decide),V4.ne 5 1 rfl rfl (by decide),trivial⟩ _ _,fun _=>(hHeld.a (by kernel_rfl)).st2 ⟨V4.ne 5 4 rfl rfl (by decide),V4.ne 5 4 rfl rfl (by decide),trivial⟩ _ _,fun _=>trivial⟩ (fun hHeld' => ?_)
   clear hHeld
   have hHeld:=hHeld'
   clear hHeld'
   clear hK K
   (try simp only[putR])
   refine wpG_step (i:=3) (o:=_) (by kernel_rfl) rfl (fun K hK => ?_)
   go_simp
   refine hK.out _ _ ⟨(hHeld.s).st2 ⟨V4.ne 4 1 rfl rfl (by decide),V4.ne 4 1 rfl rfl (by decide),trivial⟩ _ _,notF (by kernel_rfl),fun _=>trivial⟩ (fun hHeld' => ?_)
   clear hHeld
   have hHeld:=hHeld'
   clear hHeld'
   clear hK K
   (try simp only[putR])
   refine wpG_done (by kernel_rfl) ?_ _
   clear hHeld HS HA
   have V5:=V4.keep hE
   clear V4
   replace hp:=hp.keep hE
   replace hq:=hq.keep hE
   replace hqq:=hqq.keep hE
   replace hr:=hr.keep hE
   have KZ:=V5.kept2 (U:=3) 5 rfl (by decide) (Value.bool q.n) (Value.slice q.s.a q.s.len q.s.cap)
   replace hp:=hp.kept KZ
   replace hq:=hq.kept KZ
   replace hqq:=hqq.kept KZ
   replace hr:=hr.kept KZ
   clear KZ
   replace V5:=V5.set2 5 rfl (Value.bool q.n) (Value.slice q.s.a q.s.len q.s.cap)
   dsimp only[List.set] at V5
   have KZ:=V5.kept2 (U:=3) 4 rfl (by decide) (Value.bool r.n) (Value.slice r.s.a r.s.len r.s.cap)
   replace hp:=hp.kept KZ
   replace hq:=hq.kept KZ
   replace hqq:=hqq.kept KZ
   replace hr:=hr.kept KZ
   clear KZ
   replace V5:=V5.set2 4 rfl (Value.bool r.n) (Value.slice r.s.a r.s.len r.s.cap)
   dsimp only[List.set] at V5
   clear s2_0 s2_1 s2_2 s2_3 s3_0 s3_1 s3_2 s3_3 ne2_3 ne3_2
   clear hE
   (try clear hxx)
   (try clear hWX)
   generalize ((((WX.setCell ⟨w.heap.size,0,none⟩ (Value.bool q.n)).setCell ⟨w.heap.size,1,none⟩ (Value.slice q.s.a q.s.len q.s.cap)).setCell ⟨w.heap.size+1,0,none⟩ (Value.bool r.n)).setCell ⟨w.heap.size+1,1,none⟩ (Value.slice r.s.a r.s.len r.s.cap))=W5 at *
   clear hp
   go_wp2
   go_roundg ((c % d).natAbs)
   case rel=>exact⟨q,r,d,c % d,V5.tl.tl.tl,hq,hr,bd,bt_emod hd0 bd,by rw[gcd_step];exact hg.out,rfl⟩
   case measure =>
    have h1:=Int.emod_nonneg c hd0
    have h2:=Int.emod_lt c hd0
    omega
end Z4
end Go.Proofs.Ytdjbfgfbpimakaa
