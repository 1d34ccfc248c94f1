/- Fractions: below, lowest. -/
import Derived.Test.YtdjbfgfbpimakaaK7
import Derived.Test.YtdjbfgfbpimakaaZGcdx
import Derived.Deep.DeepCutAuto
namespace Go.Proofs.Ytdjbfgfbpimakaa
open Go.RowKit
def frN (a b:Int):Int:=if b / (Int.gcd a b:Int)<0 then -(a / (Int.gcd a b:Int)) else a / (Int.gcd a b:Int)
def frD (a b:Int):Int:=if b / (Int.gcd a b:Int)<0 then -(b / (Int.gcd a b:Int)) else b / (Int.gcd a b:Int)
theorem gcd_ne0 {a b:Int} (h:b≠0):(Int.gcd a b:Int)≠0:=by
 intro e
 have:Int.gcd a b=0:=by omega
 exact h (Int.gcd_eq_zero_iff.1 this).2
set_option maxRecDepth 100000 in
set_option maxHeartbeats 4000000 in
theorem below_any (x y:IV) (a b:Int) (w:World) (hx:IsI w x a) (hy:IsI w y (b-1)) (hs:Sm b) :
  Calls Try.prog 45 #[.agg #[.bool x.n,.slice x.s.a x.s.len x.s.cap,.bool y.n,.slice y.s.a y.s.len y.s.cap]] w (RetI w b):=by
 have e1:=hd_ (show b-1+1=b by omega)
 have ba:Bt a maxBits:=hx.sm
 have bb:Bt (b-1) maxBits:=hy.sm
 replace hs:=hd_ hs
 have V0:=(((Vs.nil w).add' (n:=w.heap.size) (vs:=#[Value.bool x.n,Value.slice x.s.a x.s.len x.s.cap,Value.bool y.n,Value.slice y.s.a y.s.len y.s.cap]) (T:=39) (by simp)).add' (n:=w.heap.size+1) (vs:=#[Value.bool false,Value.slice none 0 0]) (T:=37) (by simp))
 replace hx:=hx.keep V0.ext
 replace hy:=hy.keep V0.ext
 go_enter Try.func45,Try.ntmps45
 go_upto_region 1 with fail
 generalize ((w.alloc (Obj.cells #[Value.bool x.n,Value.slice x.s.a x.s.len x.s.cap,Value.bool y.n,Value.slice y.s.a y.s.len y.s.cap] 39)).alloc (Obj.cells #[Value.bool false,Value.slice none 0 0] 37))=W0 at *
 (try go_upto_region 1 with fail)
 obtain⟨c1_0,c1_1,c1_2,c1_3,c1_4,c1_5,c1_6,c1_7⟩:=V0.facts4 1 rfl
 have HS:=hd_ (show ∀ W',Ext W0 W'→Cs W' [(w.heap.size,2,Value.bool y.n),(w.heap.size,3,Value.slice y.s.a y.s.len y.s.cap)] from fun W' hW=>by simp only[cs_cons,cs_nil];exact⟨cell_later hW c1_2,cell_later hW c1_3,trivial⟩)
 clear c1_0 c1_1 c1_2 c1_3 c1_4 c1_5 c1_6 c1_7
 refine wpG_begin (S:=(fun w'=>Cs w' [(w.heap.size,2,Value.bool y.n),(w.heap.size,3,Value.slice y.s.a y.s.len y.s.cap)])) (fun _=>True) (fun _=>True) 99 98 (by kernel_rfl) (fun WX hWX => ?_) (fun WX hWX hHeld => ?_)
 ·exact⟨HS.out _ hWX,trivial,trivial⟩
 have hE:=hWX
 refine wpG_take (i:=0) (oi:=_) (v:=?_) rfl (by kernel_rfl) (by kernel_rfl) (by kernel_rfl) (by decide) (by decide) (fun _ _ _ h=>h) (Or.inl ⟨by rfl,?_⟩) hHeld ?_
 rotate_left
 ·intro w hSw;(try dsimp only at hSw);(try simp only[cs_cons,cs_nil,and_true] at hSw);go_simp;(try with_reducible rfl)
 (try simp only[putR])
 replace hHeld:=hHeld.more 0
 refine wpG_take (i:=1) (oi:=_) (v:=?_) rfl (by kernel_rfl) (by kernel_rfl) (by kernel_rfl) (by decide) (by decide) (fun _ _ _ h=>h) (Or.inl ⟨by rfl,?_⟩) hHeld ?_
 rotate_left
 ·intro w hSw;(try dsimp only at hSw);(try simp only[cs_cons,cs_nil,and_true] at hSw);go_simp;(try with_reducible rfl)
 (try simp only[putR])
 replace hHeld:=hHeld.more 1
 refine wpG_step (i:=2) (o:=_) (by kernel_rfl) rfl (fun K hK => ?_)
 go_simp
 (go_at_call 38;((with_reducible refine (of_any 1 _ (by omega)).mono ?_);rintro e w' ⟨one,rfl,hone,hxx⟩))
 replace hE:=hE.tr hxx
 (try go_wp2_with fail)
 refine hK.out _ _ ⟨HS.out _ hE,fun _=>trivial,fun _=>trivial⟩ (fun hHeld' => ?_)
 clear hHeld
 have hHeld:=hHeld'
 clear hHeld'
 clear hK K
 (try simp only[putR])
 refine wpG_step (i:=3) (o:=_) (by kernel_rfl) rfl (fun K hK => ?_)
 go_simp
 (go_at_call 83;((with_reducible refine (add_any y one (b-1) 1 _ (hy.keep hE) hone (by rw[e1.out];exact hs.out)).mono ?_);rintro e w' ⟨r,rfl,hr,hxx⟩))
 replace hone:=hone.keep hxx
 replace hE:=hE.tr hxx
 (try rw[e1.out] at hr)
 obtain⟨s2_0,s2_1,s2_2,s2_3⟩:=(V0.keep hE).facts 0 rfl
 (try go_wp2_with fail)
 refine hK.out _ _ ⟨HS.out _ hE,fun _=>trivial,fun _=>trivial⟩ (fun hHeld' => ?_)
 clear hHeld
 have hHeld:=hHeld'
 clear hHeld'
 clear hK K
 (try simp only[putR])
 refine wpG_step (i:=4) (o:=_) (by kernel_rfl) rfl (fun K hK => ?_)
 go_simp
 refine hK.out _ _ ⟨(hHeld.s).st2 ⟨V0.ne 0 1 rfl rfl (by decide),V0.ne 0 1 rfl rfl (by decide),trivial⟩ _ _,fun _=>trivial,fun _=>trivial⟩ (fun hHeld' => ?_)
 clear hHeld
 have hHeld:=hHeld'
 clear hHeld'
 clear hK K
 (try simp only[putR])
 refine wpG_done (by kernel_rfl) ?_ _
 clear hHeld HS
 have V1:=V0.keep hE
 clear V0
 replace hx:=hx.keep hE
 replace hy:=hy.keep hE
 have KI:=V1.kept2 (U:=116) 0 rfl (by decide) (Value.bool r.n) (Value.slice r.s.a r.s.len r.s.cap)
 replace hx:=hx.kept KI
 replace hy:=hy.kept KI
 replace hone:=hone.kept KI
 replace hr:=hr.kept KI
 clear KI
 replace V1:=V1.set2 0 rfl (Value.bool r.n) (Value.slice r.s.a r.s.len r.s.cap)
 dsimp only[List.set] at V1
 clear s2_0 s2_1 s2_2 s2_3
 clear hE
 (try clear hxx)
 (try clear hWX)
 generalize ((w'.setCell ⟨w.heap.size+1,0,none⟩ (Value.bool r.n)).setCell ⟨w.heap.size+1,1,none⟩ (Value.slice r.s.a r.s.len r.s.cap))=W1 at *
 clear hone
 obtain⟨r2_0,r2_1,r2_2,r2_3⟩:=V1.facts 0 rfl
 go_wp2
 refine bodyPost_ret (v:=.agg #[Value.bool r.n,Value.slice r.s.a r.s.len r.s.cap]) (by simp[results,Try.results45,go_sem,r2_0,r2_1]) rfl ?_
 exact⟨r,rfl,hr,V1.ext⟩
def RetF (w:World) (a b:Int) (e:Ending) (w':World):Prop:=
 ∃ x y:IV,e = .returned (.agg #[.bool x.n,.slice x.s.a x.s.len x.s.cap,.bool y.n,.slice y.s.a y.s.len y.s.cap])∧IsI w' x a∧IsI w' y (b-1)∧Ext w w'
theorem frN_bt {a b:Int} {n:Nat} (h:Bt a n):Bt (frN a b) n:=by
 unfold frN
 split
 ·exact (bt_ediv _ h).neg
 ·exact bt_ediv _ h
theorem frD_bt {a b:Int} {n:Nat} (h:Bt b n):Bt (frD a b) n:=by
 unfold frD
 split
 ·exact (bt_ediv _ h).neg
 ·exact bt_ediv _ h
theorem sgnZ_lt {z:Int}:sgnZ z<0↔z<0:=by unfold sgnZ;(repeat' split)<;>omega
theorem bt_pred {b:Int} {n:Nat} (h:Bt b n):Bt (b-1) (n+1):=by
 unfold Bt at *
 have:=Nat.pow_pos (n:=n) (show 0<2 by omega)
 rw[Nat.pow_succ]
 omega
set_option maxRecDepth 100000 in
set_option maxHeartbeats 4000000 in
theorem lowest_any (x y:IV) (a b:Int) (n:Nat) (w:World) (hx:IsI w x a) (hy:IsI w y b) (_ha:Bt a n) (hb:Bt b n) (hn:n≤66355200000000) (hb0:b≠0) :
  Calls Try.prog 59 #[.agg #[.bool x.n,.slice x.s.a x.s.len x.s.cap],.agg #[.bool y.n,.slice y.s.a y.s.len y.s.cap]] w (RetF w (frN a b) (frD a b)):=by
 have hng:=gcd_ne0 (a:=a) hb0
 have V0:=((((Vs.nil w).add' (n:=w.heap.size) (vs:=#[Value.bool x.n,Value.slice x.s.a x.s.len x.s.cap]) (T:=37) (by simp)).add' (n:=w.heap.size+1) (vs:=#[Value.bool y.n,Value.slice y.s.a y.s.len y.s.cap]) (T:=37) (by simp)).add' (n:=w.heap.size+1+1) (vs:=#[Value.bool false,Value.slice none 0 0,Value.bool false,Value.slice none 0 0]) (T:=39) (by simp))
 replace hx:=hx.keep V0.ext
 replace hy:=hy.keep V0.ext
 go_enter Try.func59,Try.ntmps59
 go_upto_region 1 with fail
 generalize (((w.alloc (Obj.cells #[Value.bool x.n,Value.slice x.s.a x.s.len x.s.cap] 37)).alloc (Obj.cells #[Value.bool y.n,Value.slice y.s.a y.s.len y.s.cap] 37)).alloc (Obj.cells #[Value.bool false,Value.slice none 0 0,Value.bool false,Value.slice none 0 0] 39))=W0 at *
 obtain⟨c2_0,c2_1,c2_2,c2_3⟩:=V0.facts 2 rfl
 have c2_l4:=V0.lt 2 rfl
 obtain⟨c3_0,c3_1,c3_2,c3_3⟩:=V0.facts 1 rfl
 have c3_l4:=V0.lt 1 rfl
 have c3_l5:w.heap.size<W0.heap.size:=by omega
 go_wp2_with fail
 (with_reducible refine (gcd_any x y a b _ (hx) (hy)).mono ?_)
 rintro e W1 ⟨g,rfl,hg,hxx⟩
 replace hx:=hx.keep hxx
 replace hy:=hy.keep hxx
 clear c2_0 c2_1 c2_2 c2_3 c2_l4 c3_0 c3_1 c3_2 c3_3 c3_l4 c3_l5
 have V1:=V0.keep hxx
 clear V0 hxx
 go_upto_region 2 with fail
 replace V1:=V1.add' (n:=W1.heap.size) (vs:=#[Value.bool g.n,Value.slice g.s.a g.s.len g.s.cap]) (T:=37) (by simp)
 replace hx:=hx.keep ((Ext.rf _).al (Obj.cells #[Value.bool g.n,Value.slice g.s.a g.s.len g.s.cap] 37))
 replace hy:=hy.keep ((Ext.rf _).al (Obj.cells #[Value.bool g.n,Value.slice g.s.a g.s.len g.s.cap] 37))
 replace hg:=hg.keep ((Ext.rf _).al (Obj.cells #[Value.bool g.n,Value.slice g.s.a g.s.len g.s.cap] 37))
 generalize (W1.alloc (Obj.cells #[Value.bool g.n,Value.slice g.s.a g.s.len g.s.cap] 37))=W2 at *
 have V2:=V1
 clear V1
 obtain⟨c2_0,c2_1,c2_2,c2_3⟩:=V2.facts 3 rfl
 obtain⟨c5_0,c5_1,c5_2,c5_3⟩:=V2.facts 0 rfl
 go_wp2_with fail
 (with_reducible refine (div_any x g a (Int.gcd a b:Int) _ (hx) (hg) hng).mono ?_)
 rintro e W3 ⟨p,p0,rfl,hp,hp0,hxx⟩
 replace hx:=hx.keep hxx
 replace hy:=hy.keep hxx
 replace hg:=hg.keep hxx
 clear c2_0 c2_1 c2_2 c2_3 c5_0 c5_1 c5_2 c5_3
 have V3:=V2.keep hxx
 clear V2 hxx
 obtain⟨c2_0,c2_1,c2_2,c2_3⟩:=V3.facts 3 rfl
 go_upto_region 3 with fail
 clear c2_0 c2_1 c2_2 c2_3
 have KI:=V3.kept2 (U:=116) 3 rfl (by decide) (Value.bool p.n) (Value.slice p.s.a p.s.len p.s.cap)
 replace hx:=hx.kept KI
 replace hy:=hy.kept KI
 replace hg:=hg.kept KI
 replace hp:=hp.kept KI
 replace hp0:=hp0.kept KI
 clear KI
 replace V3:=V3.set2 3 rfl (Value.bool p.n) (Value.slice p.s.a p.s.len p.s.cap)
 dsimp only[List.set] at V3
 generalize ((W3.setCell ⟨w.heap.size,0,none⟩ (Value.bool p.n)).setCell ⟨w.heap.size,1,none⟩ (Value.slice p.s.a p.s.len p.s.cap))=W4 at *
 have V4:=V3
 clear V3
 clear hx
 clear hp0
 obtain⟨c3_0,c3_1,c3_2,c3_3⟩:=V4.facts 2 rfl
 obtain⟨c5_0,c5_1,c5_2,c5_3⟩:=V4.facts 0 rfl
 go_wp2_with fail
 (with_reducible refine (div_any y g b (Int.gcd a b:Int) _ (hy) (hg) hng).mono ?_)
 rintro e W5 ⟨q,q0,rfl,hq,hq0,hxx⟩
 replace hy:=hy.keep hxx
 replace hg:=hg.keep hxx
 replace hp:=hp.keep hxx
 clear c3_0 c3_1 c3_2 c3_3 c5_0 c5_1 c5_2 c5_3
 have V5:=V4.keep hxx
 clear V4 hxx
 obtain⟨c3_0,c3_1,c3_2,c3_3⟩:=V5.facts 2 rfl
 go_upto_region 4 with fail
 clear c3_0 c3_1 c3_2 c3_3
 have KI:=V5.kept2 (U:=116) 2 rfl (by decide) (Value.bool q.n) (Value.slice q.s.a q.s.len q.s.cap)
 replace hy:=hy.kept KI
 replace hg:=hg.kept KI
 replace hp:=hp.kept KI
 replace hq:=hq.kept KI
 replace hq0:=hq0.kept KI
 clear KI
 replace V5:=V5.set2 2 rfl (Value.bool q.n) (Value.slice q.s.a q.s.len q.s.cap)
 dsimp only[List.set] at V5
 generalize ((W5.setCell ⟨w.heap.size+1,0,none⟩ (Value.bool q.n)).setCell ⟨w.heap.size+1,1,none⟩ (Value.slice q.s.a q.s.len q.s.cap))=W6 at *
 have V6:=V5
 clear V5
 clear hy
 clear hq0
 obtain⟨c3_0,c3_1,c3_2,c3_3⟩:=V6.facts 2 rfl
 go_wp2_with fail
 (with_reducible refine (sign_any q (b / (Int.gcd a b:Int)) _ (hq)).mono ?_)
 rintro e W7 ⟨rfl,hxx⟩
 replace hg:=hg.keep hxx
 replace hp:=hp.keep hxx
 replace hq:=hq.keep hxx
 clear c3_0 c3_1 c3_2 c3_3
 have V7:=V6.keep hxx
 clear V6 hxx
 go_upto_if 25 with fail
 go_cut [] (fun wc => ∃ p2 q2:IV,Vs w wc [(W1.heap.size,37,#[Value.bool g.n,Value.slice g.s.a g.s.len g.s.cap]),(w.heap.size+1+1,39,#[Value.bool false,Value.slice none 0 0,Value.bool false,Value.slice none 0 0]),(w.heap.size+1,37,#[Value.bool q2.n,Value.slice q2.s.a q2.s.len q2.s.cap]),(w.heap.size,37,#[Value.bool p2.n,Value.slice p2.s.a p2.s.len p2.s.cap])]∧IsI wc p2 (frN a b)∧IsI wc q2 (frD a b))
 case first =>
  by_cases hneg:b / (Int.gcd a b:Int)<0
  ·have hs:=sgnZ_lt.2 hneg
   have e1:=hd_ (show -(a / (Int.gcd a b:Int))=frN a b by unfold frN;rw[if_pos hneg])
   have e2:=hd_ (show -(b / (Int.gcd a b:Int))=frD a b by unfold frD;rw[if_pos hneg])
   replace hneg:=hd_ hneg
   go_upto_region 5 with fail
   (try go_upto_region 5 with fail)
   obtain⟨c2_0,c2_1,c2_2,c2_3⟩:=V7.facts 3 rfl
   obtain⟨c3_0,c3_1,c3_2,c3_3⟩:=V7.facts 2 rfl
   have HA:=hd_ (show ∀ W',Ext W7 W'→Cs W' [(w.heap.size,0,Value.bool p.n),(w.heap.size,1,Value.slice p.s.a p.s.len p.s.cap)] from fun W' hW=>by simp only[cs_cons,cs_nil];exact⟨cell_later hW c2_0,cell_later hW c2_1,trivial⟩)
   have HB:=hd_ (show ∀ W',Ext W7 W'→Cs W' [(w.heap.size+1,0,Value.bool q.n),(w.heap.size+1,1,Value.slice q.s.a q.s.len q.s.cap)] from fun W' hW=>by simp only[cs_cons,cs_nil];exact⟨cell_later hW c3_0,cell_later hW c3_1,trivial⟩)
   clear c2_0 c2_1 c2_2 c2_3 c3_0 c3_1 c3_2 c3_3
   refine wpG_begin (S:=(fun _=>True)) (fun w'=>Cs w' [(w.heap.size,0,Value.bool p.n),(w.heap.size,1,Value.slice p.s.a p.s.len p.s.cap)]) (fun w'=>Cs w' [(w.heap.size+1,0,Value.bool q.n),(w.heap.size+1,1,Value.slice q.s.a q.s.len q.s.cap)]) 4 5 (by kernel_rfl) (fun WX hWX => ?_) (fun WX hWX hHeld => ?_)
   ·exact⟨trivial,HA.out _ hWX,HB.out _ hWX⟩
   have hE:=hWX
   refine wpG_takeA (i:=0) (oi:=_) (v:=?_) rfl (by kernel_rfl) (by kernel_rfl) (by kernel_rfl) (by decide) (by decide) (by kernel_rfl) (by kernel_rfl) (fun _ _ _ h=>h) (Or.inl ⟨by rfl,?_⟩) hHeld ?_
   rotate_left
   ·intro w hSw;(try dsimp only at hSw);(try simp only[cs_cons,cs_nil,and_true] at hSw);go_simp;(try with_reducible rfl)
   (try simp only[putR])
   replace hHeld:=hHeld.more 0
   refine wpG_takeB (i:=2) (oi:=_) (v:=?_) rfl (by kernel_rfl) (by kernel_rfl) (by kernel_rfl) (by decide) (by decide) (by kernel_rfl) (by kernel_rfl) (fun _ _ _ h=>h) (Or.inl ⟨by rfl,?_⟩) hHeld ?_
   rotate_left
   ·intro w hSw;(try dsimp only at hSw);(try simp only[cs_cons,cs_nil,and_true] at hSw);go_simp;(try with_reducible rfl)
   (try simp only[putR])
   replace hHeld:=hHeld.more 2
   refine wpG_step (i:=1) (o:=_) (by kernel_rfl) rfl (fun K hK => ?_)
   go_simp
   (go_at_call 80;((with_reducible refine (neg_any p (a / (Int.gcd a b:Int)) _ (hp.keep hE)).mono ?_);rintro e w' ⟨p2,rfl,hp2,hxx⟩))
   replace hE:=hE.tr hxx
   (try go_wp2_with fail)
   refine hK.out _ _ ⟨trivial,fun _=>HA.out _ hE,fun _=>HB.out _ hE⟩ (fun hHeld' => ?_)
   clear hHeld
   have hHeld:=hHeld'
   clear hHeld'
   clear hK K
   (try simp only[putR])
   refine wpG_step (i:=3) (o:=_) (by kernel_rfl) rfl (fun K hK => ?_)
   go_simp
   (go_at_call 80;((with_reducible refine (neg_any q (b / (Int.gcd a b:Int)) _ (hq.keep hE)).mono ?_);rintro e w' ⟨q2,rfl,hq2,hxx⟩))
   replace hp2:=hp2.keep hxx
   replace hE:=hE.tr hxx
   obtain⟨s2_0,s2_1,s2_2,s2_3⟩:=(V7.keep hE).facts 3 rfl
   obtain⟨s3_0,s3_1,s3_2,s3_3⟩:=(V7.keep hE).facts 2 rfl
   (try go_wp2_with fail)
   refine hK.out _ _ ⟨trivial,fun _=>HA.out _ hE,fun _=>HB.out _ hE⟩ (fun hHeld' => ?_)
   clear hHeld
   have hHeld:=hHeld'
   clear hHeld'
   clear hK K
   (try simp only[putR])
   refine wpG_step (i:=4) (o:=_) (by kernel_rfl) rfl (fun K hK => ?_)
   have ne2_3:=V7.ne 3 2 rfl rfl (by decide)
   have ne3_2:=V7.ne 2 3 rfl rfl (by decide)
   go_simp
   refine hK.out _ _ ⟨trivial,notF (by kernel_rfl),fun _=>(hHeld.b (by kernel_rfl)).st2 ⟨V7.ne 3 2 rfl rfl (by decide),V7.ne 3 2 rfl rfl (by decide),trivial⟩ _ _⟩ (fun hHeld' => ?_)
   clear hHeld
   have hHeld:=hHeld'
   clear hHeld'
   clear hK K
   (try simp only[putR])
   refine wpG_step (i:=5) (o:=_) (by kernel_rfl) rfl (fun K hK => ?_)
   go_simp
   refine hK.out _ _ ⟨trivial,notF (by kernel_rfl),notF (by kernel_rfl)⟩ (fun hHeld' => ?_)
   clear hHeld
   have hHeld:=hHeld'
   clear hHeld'
   clear hK K
   (try simp only[putR])
   refine wpG_done (by kernel_rfl) ?_ _
   clear hHeld HA HB
   have V8:=V7.keep hE
   clear V7
   replace hg:=hg.keep hE
   replace hp:=hp.keep hE
   replace hq:=hq.keep hE
   have KI:=V8.kept2 (U:=116) 3 rfl (by decide) (Value.bool p2.n) (Value.slice p2.s.a p2.s.len p2.s.cap)
   replace hg:=hg.kept KI
   replace hp:=hp.kept KI
   replace hq:=hq.kept KI
   replace hp2:=hp2.kept KI
   replace hq2:=hq2.kept KI
   clear KI
   replace V8:=V8.set2 3 rfl (Value.bool p2.n) (Value.slice p2.s.a p2.s.len p2.s.cap)
   dsimp only[List.set] at V8
   have KI:=V8.kept2 (U:=116) 2 rfl (by decide) (Value.bool q2.n) (Value.slice q2.s.a q2.s.len q2.s.cap)
   replace hg:=hg.kept KI
   replace hp:=hp.kept KI
   replace hq:=hq.kept KI
   replace hp2:=hp2.kept KI
   replace hq2:=hq2.kept KI
   clear KI
   replace V8:=V8.set2 2 rfl (Value.bool q2.n) (Value.slice q2.s.a q2.s.len q2.s.cap)
   dsimp only[List.set] at V8
   clear s2_0 s2_1 s2_2 s2_3 s3_0 s3_1 s3_2 s3_3 ne2_3 ne3_2
   clear hE
   (try clear hxx)
   (try clear hWX)
   generalize ((((w'.setCell ⟨w.heap.size,0,none⟩ (Value.bool p2.n)).setCell ⟨w.heap.size,1,none⟩ (Value.slice p2.s.a p2.s.len p2.s.cap)).setCell ⟨w.heap.size+1,0,none⟩ (Value.bool q2.n)).setCell ⟨w.heap.size+1,1,none⟩ (Value.slice q2.s.a q2.s.len q2.s.cap))=W8 at *
   clear hp
   clear hq
   go_wp2
   go_meet
   case rel =>
    rw[e1.out] at hp2
    rw[e2.out] at hq2
    exact⟨p2,q2,V8,hp2,hq2⟩
  ·-- skip
   have hs:¬ sgnZ (b / (Int.gcd a b:Int))<0:=fun h=>hneg (sgnZ_lt.1 h)
   have e1:=hd_ (show a / (Int.gcd a b:Int)=frN a b by unfold frN;rw[if_neg hneg])
   have e2:=hd_ (show b / (Int.gcd a b:Int)=frD a b by unfold frD;rw[if_neg hneg])
   replace hneg:=hd_ hneg
   go_wp2
   go_meet
   case rel =>
    rw[e1.out] at hp
    rw[e2.out] at hq
    exact⟨p,q,V7,hp,hq⟩
 case rest => -- skip
  clear hp hq V7
  obtain⟨p2,q2,VC,hp2,hq2⟩:=hcut
  (try go_upto_region 6 with fail)
  obtain⟨c2_0,c2_1,c2_2,c2_3⟩:=VC.facts 3 rfl
  obtain⟨c3_0,c3_1,c3_2,c3_3⟩:=VC.facts 2 rfl
  have HS:=hd_ (show ∀ W',Ext wc W'→Cs W' [(w.heap.size,0,Value.bool p2.n),(w.heap.size,1,Value.slice p2.s.a p2.s.len p2.s.cap),(w.heap.size+1,0,Value.bool q2.n),(w.heap.size+1,1,Value.slice q2.s.a q2.s.len q2.s.cap)] from fun W' hW=>by simp only[cs_cons,cs_nil];exact⟨cell_later hW c2_0,cell_later hW c2_1,cell_later hW c3_0,cell_later hW c3_1,trivial⟩)
  clear c2_0 c2_1 c2_2 c2_3 c3_0 c3_1 c3_2 c3_3
  refine wpG_begin (S:=(fun w'=>Cs w' [(w.heap.size,0,Value.bool p2.n),(w.heap.size,1,Value.slice p2.s.a p2.s.len p2.s.cap),(w.heap.size+1,0,Value.bool q2.n),(w.heap.size+1,1,Value.slice q2.s.a q2.s.len q2.s.cap)])) (fun _=>True) (fun _=>True) 99 98 (by kernel_rfl) (fun WX hWX => ?_) (fun WX hWX hHeld => ?_)
  ·exact⟨HS.out _ hWX,trivial,trivial⟩
  have hE:=hWX
  refine wpG_take (i:=0) (oi:=_) (v:=?_) rfl (by kernel_rfl) (by kernel_rfl) (by kernel_rfl) (by decide) (by decide) (fun _ _ _ h=>h) (Or.inl ⟨by rfl,?_⟩) hHeld ?_
  rotate_left
  ·intro w hSw;(try dsimp only at hSw);(try simp only[cs_cons,cs_nil,and_true] at hSw);go_simp;(try with_reducible rfl)
  (try simp only[putR])
  replace hHeld:=hHeld.more 0
  refine wpG_take (i:=1) (oi:=_) (v:=?_) rfl (by kernel_rfl) (by kernel_rfl) (by kernel_rfl) (by decide) (by decide) (fun _ _ _ h=>h) (Or.inl ⟨by rfl,?_⟩) hHeld ?_
  rotate_left
  ·intro w hSw;(try dsimp only at hSw);(try simp only[cs_cons,cs_nil,and_true] at hSw);go_simp;(try with_reducible rfl)
  (try simp only[putR])
  replace hHeld:=hHeld.more 1
  refine wpG_step (i:=2) (o:=_) (by kernel_rfl) rfl (fun K hK => ?_)
  go_simp
  (go_at_call 38;((with_reducible refine (of_any 1 _ (by omega)).mono ?_);rintro e w' ⟨one,rfl,hone,hxx⟩))
  replace hE:=hE.tr hxx
  (try go_wp2_with fail)
  refine hK.out _ _ ⟨HS.out _ hE,fun _=>trivial,fun _=>trivial⟩ (fun hHeld' => ?_)
  clear hHeld
  have hHeld:=hHeld'
  clear hHeld'
  clear hK K
  (try simp only[putR])
  refine wpG_step (i:=3) (o:=_) (by kernel_rfl) rfl (fun K hK => ?_)
  go_simp
  (go_at_call 91;((with_reducible refine (sub_any q2 one (frD a b) 1 _ (hq2.keep hE) hone ((((frD_bt hb).mono (show n≤(n+64) by omega)).sub ((bt_i64 (n:=1) (by omega)).mono (show 64≤(n+64) by omega))).sm (by omega))).mono ?_);rintro e w' ⟨r,rfl,hr,hxx⟩))
  replace hone:=hone.keep hxx
  replace hE:=hE.tr hxx
  obtain⟨s4_0,s4_1,s4_2,s4_3,s4_4,s4_5,s4_6,s4_7⟩:=(VC.keep hE).facts4 1 rfl
  (try go_wp2_with fail)
  refine hK.out _ _ ⟨HS.out _ hE,fun _=>trivial,fun _=>trivial⟩ (fun hHeld' => ?_)
  clear hHeld
  have hHeld:=hHeld'
  clear hHeld'
  clear hK K
  (try simp only[putR])
  refine wpG_take (i:=4) (oi:=_) (v:=?_) rfl (by kernel_rfl) (by kernel_rfl) (by kernel_rfl) (by decide) (by decide) (fun _ _ _ h=>h) (Or.inl ⟨by rfl,?_⟩) hHeld ?_
  rotate_left
  ·intro w hSw;(try dsimp only at hSw);(try simp only[cs_cons,cs_nil,and_true] at hSw);go_simp;(try with_reducible rfl)
  (try simp only[putR])
  replace hHeld:=hHeld.more 4
  refine wpG_step (i:=5) (o:=_) (by kernel_rfl) rfl (fun K hK => ?_)
  go_simp
  refine hK.out _ _ ⟨(hHeld.s).st4 ⟨VC.ne 1 3 rfl rfl (by decide),VC.ne 1 3 rfl rfl (by decide),VC.ne 1 2 rfl rfl (by decide),VC.ne 1 2 rfl rfl (by decide),trivial⟩ _ _ _ _,fun _=>trivial,fun _=>trivial⟩ (fun hHeld' => ?_)
  clear hHeld
  have hHeld:=hHeld'
  clear hHeld'
  clear hK K
  (try simp only[putR])
  refine wpG_done (by kernel_rfl) ?_ _
  clear hHeld HS
  have V8:=VC.keep hE
  clear VC
  replace hp2:=hp2.keep hE
  replace hq2:=hq2.keep hE
  have KI:=V8.kept4 (U:=116) 1 rfl (by decide) (Value.bool p2.n) (Value.slice p2.s.a p2.s.len p2.s.cap) (Value.bool r.n) (Value.slice r.s.a r.s.len r.s.cap)
  replace hp2:=hp2.kept KI
  replace hq2:=hq2.kept KI
  replace hone:=hone.kept KI
  replace hr:=hr.kept KI
  clear KI
  replace V8:=V8.set4 1 rfl (Value.bool p2.n) (Value.slice p2.s.a p2.s.len p2.s.cap) (Value.bool r.n) (Value.slice r.s.a r.s.len r.s.cap)
  dsimp only[List.set] at V8
  clear s4_0 s4_1 s4_2 s4_3 s4_4 s4_5 s4_6 s4_7
  clear hE
  (try clear hxx)
  (try clear hWX)
  generalize ((((w'.setCell ⟨w.heap.size+1+1,0,none⟩ (Value.bool p2.n)).setCell ⟨w.heap.size+1+1,1,none⟩ (Value.slice p2.s.a p2.s.len p2.s.cap)).setCell ⟨w.heap.size+1+1,2,none⟩ (Value.bool r.n)).setCell ⟨w.heap.size+1+1,3,none⟩ (Value.slice r.s.a r.s.len r.s.cap))=W8 at *
  clear hone
  obtain⟨r4_0,r4_1,r4_2,r4_3,r4_4,r4_5,r4_6,r4_7⟩:=V8.facts4 1 rfl
  go_wp2
  refine bodyPost_ret (v:=.agg #[Value.bool p2.n,Value.slice p2.s.a p2.s.len p2.s.cap,Value.bool r.n,Value.slice r.s.a r.s.len r.s.cap]) (by simp[results,Try.results59,go_sem,r4_0,r4_1,r4_2,r4_3]) rfl ?_
  exact⟨p2,r,rfl,hp2,hr,V8.ext⟩
namespace Z4
theorem isZ_neg_iff {w:World} {x:IV} {z:Int} (h:IsZ w x z):z<0↔x.n=true:=by
 obtain⟨l,hl,hn,hd,_,hz,h0,_⟩:=h.open_
 rw[hz]
 exact neg_iff hd hn h0
def RetFF (w:World) (a b c:Int) (e:Ending) (w':World):Prop:=
 ∃ x y:IV,e = .returned (.tuple #[.agg #[.bool x.n,.slice x.s.a x.s.len x.s.cap,.bool y.n,.slice y.s.a y.s.len y.s.cap],.agg #[.int .i64 c,.int .i64 0]])∧IsZ w' x a∧IsZ w' y b∧Ext w w'
set_option maxRecDepth 100000 in
set_option maxHeartbeats 4000000 in
theorem over_any (x y:IV) (a b:Int) (n:Nat) (w:World) (hx:IsZ w x a) (hy:IsZ w y b) (ha:Bt a n) (hb:Bt b n) (hn:n≤66355200000000) (hb0:b≠0) :
  Calls Try.prog 51 #[.agg #[.bool x.n,.slice x.s.a x.s.len x.s.cap],.agg #[.bool y.n,.slice y.s.a y.s.len y.s.cap]] w (RetFF w (frN a b) (frD a b) 0):=by
 have hng:=gcd_ne0 (a:=a) hb0
 have hl:((y.s.len:Int) == 0)=false:=by
  rw[beq_eq_false_iff_ne]
  intro e
  exact hb0 ((len_zero_iffZ hy).1 (by omega))
 have V0:=(((((Vs.nil w).add' (n:=w.heap.size) (vs:=#[Value.bool x.n,Value.slice x.s.a x.s.len x.s.cap]) (T:=45) (by simp)).add' (n:=w.heap.size+1) (vs:=#[Value.bool y.n,Value.slice y.s.a y.s.len y.s.cap]) (T:=45) (by simp)).add' (n:=w.heap.size+1+1) (vs:=#[Value.bool false,Value.slice none 0 0,Value.bool false,Value.slice none 0 0]) (T:=47) (by simp)).add' (n:=w.heap.size+1+1+1) (vs:=#[Value.int .i64 0,Value.int .i64 0]) (T:=27) (by simp))
 replace hx:=hx.keep V0.ext
 replace hy:=hy.keep V0.ext
 go_enter Try.func51,Try.ntmps51
 go_upto_region 1 with fail
 generalize ((((w.alloc (Obj.cells #[Value.bool x.n,Value.slice x.s.a x.s.len x.s.cap] 45)).alloc (Obj.cells #[Value.bool y.n,Value.slice y.s.a y.s.len y.s.cap] 45)).alloc (Obj.cells #[Value.bool false,Value.slice none 0 0,Value.bool false,Value.slice none 0 0] 47)).alloc (Obj.cells #[Value.int .i64 0,Value.int .i64 0] 27))=W0 at *
 obtain⟨c0,c1,-,-⟩:=V0.facts 2 rfl
 go_upto_region 3 with fail
 clear c0 c1 hl
 obtain⟨c2_0,c2_1,c2_2,c2_3⟩:=V0.facts 3 rfl
 have c2_l4:=V0.lt 3 rfl
 obtain⟨c3_0,c3_1,c3_2,c3_3⟩:=V0.facts 2 rfl
 have c3_l4:=V0.lt 2 rfl
 have c3_l5:w.heap.size<W0.heap.size:=by omega
 go_wp2_with fail
 (with_reducible refine (Z4.gcd_any x y a b _ (hx) (hy) (ha.mono (by omega)) (hb.mono (by omega))).mono ?_)
 rintro e W1 ⟨g,rfl,hg,hxx⟩
 replace hx:=hx.keep hxx
 replace hy:=hy.keep hxx
 clear c2_0 c2_1 c2_2 c2_3 c2_l4 c3_0 c3_1 c3_2 c3_3 c3_l4 c3_l5
 have V1:=V0.keep hxx
 clear V0 hxx
 go_upto_region 4 with fail
 replace V1:=V1.add' (n:=W1.heap.size) (vs:=#[Value.bool g.n,Value.slice g.s.a g.s.len g.s.cap]) (T:=45) (by simp)
 replace hx:=hx.keep ((Ext.rf _).al (Obj.cells #[Value.bool g.n,Value.slice g.s.a g.s.len g.s.cap] 45))
 replace hy:=hy.keep ((Ext.rf _).al (Obj.cells #[Value.bool g.n,Value.slice g.s.a g.s.len g.s.cap] 45))
 replace hg:=hg.keep ((Ext.rf _).al (Obj.cells #[Value.bool g.n,Value.slice g.s.a g.s.len g.s.cap] 45))
 generalize (W1.alloc (Obj.cells #[Value.bool g.n,Value.slice g.s.a g.s.len g.s.cap] 45))=W2 at *
 have V2:=V1
 clear V1
 obtain⟨c2_0,c2_1,c2_2,c2_3⟩:=V2.facts 4 rfl
 obtain⟨c6_0,c6_1,c6_2,c6_3⟩:=V2.facts 0 rfl
 go_wp2_with fail
 (with_reducible refine (Z4.div_any x g a (Int.gcd a b:Int) _ (hx) (hg) hng ((bt_gcd ha hb).mono (by omega))).mono ?_)
 rintro e W3 ⟨p,p0,rfl,hp,hp0,hxx⟩
 replace hx:=hx.keep hxx
 replace hy:=hy.keep hxx
 replace hg:=hg.keep hxx
 clear c2_0 c2_1 c2_2 c2_3 c6_0 c6_1 c6_2 c6_3
 have V3:=V2.keep hxx
 clear V2 hxx
 obtain⟨c2_0,c2_1,c2_2,c2_3⟩:=V3.facts 4 rfl
 go_upto_region 5 with fail
 clear c2_0 c2_1 c2_2 c2_3
 have KZ:=V3.kept2 (U:=3) 4 rfl (by decide) (Value.bool p.n) (Value.slice p.s.a p.s.len p.s.cap)
 replace hx:=hx.kept KZ
 replace hy:=hy.kept KZ
 replace hg:=hg.kept KZ
 replace hp:=hp.kept KZ
 replace hp0:=hp0.kept KZ
 clear KZ
 replace V3:=V3.set2 4 rfl (Value.bool p.n) (Value.slice p.s.a p.s.len p.s.cap)
 dsimp only[List.set] at V3
 generalize ((W3.setCell ⟨w.heap.size,0,none⟩ (Value.bool p.n)).setCell ⟨w.heap.size,1,none⟩ (Value.slice p.s.a p.s.len p.s.cap))=W4 at *
 have V4:=V3
 clear V3
 clear hx
 clear hp0
 obtain⟨c3_0,c3_1,c3_2,c3_3⟩:=V4.facts 3 rfl
 obtain⟨c6_0,c6_1,c6_2,c6_3⟩:=V4.facts 0 rfl
 go_wp2_with fail
 (with_reducible refine (Z4.div_any y g b (Int.gcd a b:Int) _ (hy) (hg) hng ((bt_gcd ha hb).mono (by omega))).mono ?_)
 rintro e W5 ⟨q,q0,rfl,hq,hq0,hxx⟩
 replace hy:=hy.keep hxx
 replace hg:=hg.keep hxx
 replace hp:=hp.keep hxx
 clear c3_0 c3_1 c3_2 c3_3 c6_0 c6_1 c6_2 c6_3
 have V5:=V4.keep hxx
 clear V4 hxx
 obtain⟨c3_0,c3_1,c3_2,c3_3⟩:=V5.facts 3 rfl
 go_upto_region 6 with fail
 clear c3_0 c3_1 c3_2 c3_3
 have KZ:=V5.kept2 (U:=3) 3 rfl (by decide) (Value.bool q.n) (Value.slice q.s.a q.s.len q.s.cap)
 replace hy:=hy.kept KZ
 replace hg:=hg.kept KZ
 replace hp:=hp.kept KZ
 replace hq:=hq.kept KZ
 replace hq0:=hq0.kept KZ
 clear KZ
 replace V5:=V5.set2 3 rfl (Value.bool q.n) (Value.slice q.s.a q.s.len q.s.cap)
 dsimp only[List.set] at V5
 generalize ((W5.setCell ⟨w.heap.size+1,0,none⟩ (Value.bool q.n)).setCell ⟨w.heap.size+1,1,none⟩ (Value.slice q.s.a q.s.len q.s.cap))=W6 at *
 have V6:=V5
 clear V5
 clear hy
 clear hq0
 have hqn:=isZ_neg_iff hq
 obtain⟨c0,c1,-,-⟩:=V6.facts 3 rfl
 go_upto_if 33 with fail
 clear c0 c1
 go_cut [] (fun wc => ∃ p2 q2:IV,Vs w wc [(W1.heap.size,45,#[Value.bool g.n,Value.slice g.s.a g.s.len g.s.cap]),(w.heap.size+1+1+1,27,#[Value.int .i64 0,Value.int .i64 0]),(w.heap.size+1+1,47,#[Value.bool false,Value.slice none 0 0,Value.bool false,Value.slice none 0 0]),(w.heap.size+1,45,#[Value.bool q2.n,Value.slice q2.s.a q2.s.len q2.s.cap]),(w.heap.size,45,#[Value.bool p2.n,Value.slice p2.s.a p2.s.len p2.s.cap])]∧IsZ wc p2 (frN a b)∧IsZ wc q2 (frD a b))
 case first =>
  by_cases hneg:b / (Int.gcd a b:Int)<0
  ·have hs:=hqn.1 hneg
   have e1:=hd_ (show -(a / (Int.gcd a b:Int))=frN a b by unfold frN;rw[if_pos hneg])
   have e2:=hd_ (show -(b / (Int.gcd a b:Int))=frD a b by unfold frD;rw[if_pos hneg])
   clear hqn
   replace hneg:=hd_ hneg
   go_upto_region 7 with fail
   rotate_left
   ·rename_i hs0
    rw[hs] at hs0
    cases hs0
   rename_i hs0
   clear hs hs0
   (try go_upto_region 7 with fail)
   obtain⟨c2_0,c2_1,c2_2,c2_3⟩:=V6.facts 4 rfl
   obtain⟨c3_0,c3_1,c3_2,c3_3⟩:=V6.facts 3 rfl
   have HA:=hd_ (show ∀ W',Ext W6 W'→Cs W' [(w.heap.size,0,Value.bool p.n),(w.heap.size,1,Value.slice p.s.a p.s.len p.s.cap)] from fun W' hW=>by simp only[cs_cons,cs_nil];exact⟨cell_later hW c2_0,cell_later hW c2_1,trivial⟩)
   have HB:=hd_ (show ∀ W',Ext W6 W'→Cs W' [(w.heap.size+1,0,Value.bool q.n),(w.heap.size+1,1,Value.slice q.s.a q.s.len q.s.cap)] from fun W' hW=>by simp only[cs_cons,cs_nil];exact⟨cell_later hW c3_0,cell_later hW c3_1,trivial⟩)
   clear c2_0 c2_1 c2_2 c2_3 c3_0 c3_1 c3_2 c3_3
   refine wpG_begin (S:=(fun _=>True)) (fun w'=>Cs w' [(w.heap.size,0,Value.bool p.n),(w.heap.size,1,Value.slice p.s.a p.s.len p.s.cap)]) (fun w'=>Cs w' [(w.heap.size+1,0,Value.bool q.n),(w.heap.size+1,1,Value.slice q.s.a q.s.len q.s.cap)]) 4 5 (by kernel_rfl) (fun WX hWX => ?_) (fun WX hWX hHeld => ?_)
   ·exact⟨trivial,HA.out _ hWX,HB.out _ hWX⟩
   have hE:=hWX
   refine wpG_takeA (i:=0) (oi:=_) (v:=?_) rfl (by kernel_rfl) (by kernel_rfl) (by kernel_rfl) (by decide) (by decide) (by kernel_rfl) (by kernel_rfl) (fun _ _ _ h=>h) (Or.inl ⟨by rfl,?_⟩) hHeld ?_
   rotate_left
   ·intro w hSw;(try dsimp only at hSw);(try simp only[cs_cons,cs_nil,and_true] at hSw);go_simp;(try with_reducible rfl)
   (try simp only[putR])
   replace hHeld:=hHeld.more 0
   refine wpG_takeB (i:=2) (oi:=_) (v:=?_) rfl (by kernel_rfl) (by kernel_rfl) (by kernel_rfl) (by decide) (by decide) (by kernel_rfl) (by kernel_rfl) (fun _ _ _ h=>h) (Or.inl ⟨by rfl,?_⟩) hHeld ?_
   rotate_left
   ·intro w hSw;(try dsimp only at hSw);(try simp only[cs_cons,cs_nil,and_true] at hSw);go_simp;(try with_reducible rfl)
   (try simp only[putR])
   replace hHeld:=hHeld.more 2
   refine wpG_step (i:=1) (o:=_) (by kernel_rfl) rfl (fun K hK => ?_)
   go_simp
   (go_at_call 55;((with_reducible refine (Z4.neg_any p (a / (Int.gcd a b:Int)) _ (hp.keep hE)).mono ?_);rintro e w' ⟨p2,rfl,hp2,hxx⟩))
   replace hE:=hE.tr hxx
   (try go_wp2_with fail)
   refine hK.out _ _ ⟨trivial,fun _=>HA.out _ hE,fun _=>HB.out _ hE⟩ (fun hHeld' => ?_)
   clear hHeld
   have hHeld:=hHeld'
   clear hHeld'
   clear hK K
   (try simp only[putR])
   refine wpG_step (i:=3) (o:=_) (by kernel_rfl) rfl (fun K hK => ?_)
   go_simp
   (go_at_call 55;((with_reducible refine (Z4.neg_any q (b / (Int.gcd a b:Int)) _ (hq.keep hE)).mono ?_);rintro e w' ⟨q2,rfl,hq2,hxx⟩))
   replace hp2:=hp2.keep hxx
   replace hE:=hE.tr hxx
   obtain⟨s2_0,s2_1,s2_2,s2_3⟩:=(V6.keep hE).facts 4 rfl
   obtain⟨s3_0,s3_1,s3_2,s3_3⟩:=(V6.keep hE).facts 3 rfl
   (try go_wp2_with fail)
   refine hK.out _ _ ⟨trivial,fun _=>HA.out _ hE,fun _=>HB.out _ hE⟩ (fun hHeld' => ?_)
   clear hHeld
   have hHeld:=hHeld'
   clear hHeld'
   clear hK K
   (try simp only[putR])
   refine wpG_step (i:=4) (o:=_) (by kernel_rfl) rfl (fun K hK => ?_)
   have ne2_3:=V6.ne 4 3 rfl rfl (by decide)
   have ne3_2:=V6.ne 3 4 rfl rfl (by decide)
   go_simp
   refine hK.out _ _ ⟨trivial,notF (by kernel_rfl),fun _=>(hHeld.b (by kernel_rfl)).st2 ⟨V6.ne 4 3 rfl rfl (by decide),V6.ne 4 3 rfl rfl (by decide),trivial⟩ _ _⟩ (fun hHeld' => ?_)
   clear hHeld
   have hHeld:=hHeld'
   clear hHeld'
   clear hK K
   (try simp only[putR])
   refine wpG_step (i:=5) (o:=_) (by kernel_rfl) rfl (fun K hK => ?_)
   go_simp
   refine hK.out _ _ ⟨trivial,notF (by kernel_rfl),notF (by kernel_rfl)⟩ (fun hHeld' => ?_)
   clear hHeld
   have hHeld:=hHeld'
   clear hHeld'
   clear hK K
   (try simp only[putR])
   refine wpG_done (by kernel_rfl) ?_ _
   clear hHeld HA HB
   have V7:=V6.keep hE
   clear V6
   replace hg:=hg.keep hE
   replace hp:=hp.keep hE
   replace hq:=hq.keep hE
   have KZ:=V7.kept2 (U:=3) 4 rfl (by decide) (Value.bool p2.n) (Value.slice p2.s.a p2.s.len p2.s.cap)
   replace hg:=hg.kept KZ
   replace hp:=hp.kept KZ
   replace hq:=hq.kept KZ
   replace hp2:=hp2.kept KZ
   replace hq2:=hq2.kept KZ
   clear KZ
   replace V7:=V7.set2 4 rfl (Value.bool p2.n) (Value.slice p2.s.a p2.s.len p2.s.cap)
   dsimp only[List.set] at V7
   have KZ:=V7.kept2 (U:=3) 3 rfl (by decide) (Value.bool q2.n) (Value.slice q2.s.a q2.s.len q2.s.cap)
   replace hg:=hg.kept KZ
   replace hp:=hp.kept KZ
   replace hq:=hq.kept KZ
   replace hp2:=hp2.kept KZ
   replace hq2:=hq2.kept KZ
   clear KZ
   replace V7:=V7.set2 3 rfl (Value.bool q2.n) (Value.slice q2.s.a q2.s.len q2.s.cap)
   dsimp only[List.set] at V7
   clear s2_0 s2_1 s2_2 s2_3 s3_0 s3_1 s3_2 s3_3 ne2_3 ne3_2
   clear hE
   (try clear hxx)
   (try clear hWX)
   generalize ((((w'.setCell ⟨w.heap.size,0,none⟩ (Value.bool p2.n)).setCell ⟨w.heap.size,1,none⟩ (Value.slice p2.s.a p2.s.len p2.s.cap)).setCell ⟨w.heap.size+1,0,none⟩ (Value.bool q2.n)).setCell ⟨w.heap.size+1,1,none⟩ (Value.slice q2.s.a q2.s.len q2.s.cap))=W7 at *
   clear hp
   clear hq
   go_wp2
   go_meet
   case rel =>
    rw[e1.out] at hp2
    rw[e2.out] at hq2
    exact⟨p2,q2,V7,hp2,hq2⟩
  ·-- skip
   have hs:q.n=false:=by
    cases h:q.n
    ·rfl
    ·exact absurd (hqn.2 h) hneg
   have e1:=hd_ (show a / (Int.gcd a b:Int)=frN a b by unfold frN;rw[if_neg hneg])
   have e2:=hd_ (show b / (Int.gcd a b:Int)=frD a b by unfold frD;rw[if_neg hneg])
   clear hqn
   replace hneg:=hd_ hneg
   go_wp2
   ·rename_i hs0
    rw[hs] at hs0
    cases hs0
   go_meet
   case rel =>
    rw[e1.out] at hp
    rw[e2.out] at hq
    exact⟨p,q,V6,hp,hq⟩
 case rest => -- skip
  clear hp hq hqn V6
  obtain⟨p2,q2,VC,hp2,hq2⟩:=hcut
  go_upto_region 8 with fail
  obtain⟨c2_0,c2_1,c2_2,c2_3⟩:=VC.facts 4 rfl
  obtain⟨c3_0,c3_1,c3_2,c3_3⟩:=VC.facts 3 rfl
  obtain⟨c4_0,c4_1,c4_2,c4_3,c4_4,c4_5,c4_6,c4_7⟩:=VC.facts4 2 rfl
  obtain⟨c5_0,c5_1,c5_2,c5_3⟩:=VC.facts 1 rfl
  go_wp2
  clear c2_0 c2_1 c2_2 c2_3 c3_0 c3_1 c3_2 c3_3 c4_0 c4_1 c4_2 c4_3 c4_4 c4_5 c4_6 c4_7 c5_0 c5_1 c5_2 c5_3
  have KZ:=VC.kept4 (U:=3) 2 rfl (by decide) (Value.bool p2.n) (Value.slice p2.s.a p2.s.len p2.s.cap) (Value.bool q2.n) (Value.slice q2.s.a q2.s.len q2.s.cap)
  replace hp2:=hp2.kept KZ
  replace hq2:=hq2.kept KZ
  clear KZ
  replace VC:=VC.set4 2 rfl (Value.bool p2.n) (Value.slice p2.s.a p2.s.len p2.s.cap) (Value.bool q2.n) (Value.slice q2.s.a q2.s.len q2.s.cap)
  dsimp only[List.set] at VC
  have KZ:=VC.kept2 (U:=3) 1 rfl (by decide) (Value.int .i64 0) (Value.int .i64 0)
  replace hp2:=hp2.kept KZ
  replace hq2:=hq2.kept KZ
  clear KZ
  replace VC:=VC.set2 1 rfl (Value.int .i64 0) (Value.int .i64 0)
  dsimp only[List.set] at VC
  generalize ((((((wc.setCell ⟨w.heap.size+1+1,0,none⟩ (Value.bool p2.n)).setCell ⟨w.heap.size+1+1,1,none⟩ (Value.slice p2.s.a p2.s.len p2.s.cap)).setCell ⟨w.heap.size+1+1,2,none⟩ (Value.bool q2.n)).setCell ⟨w.heap.size+1+1,3,none⟩ (Value.slice q2.s.a q2.s.len q2.s.cap)).setCell ⟨w.heap.size+1+1+1,0,none⟩ (Value.int .i64 0)).setCell ⟨w.heap.size+1+1+1,1,none⟩ (Value.int .i64 0))=W7 at *
  have V7:=VC
  clear VC
  obtain⟨r4_0,r4_1,r4_2,r4_3,r4_4,r4_5,r4_6,r4_7⟩:=V7.facts4 2 rfl
  obtain⟨r5_0,r5_1,r5_2,r5_3⟩:=V7.facts 1 rfl
  go_wp2
  refine bodyPost_ret (v:=.tuple #[.agg #[Value.bool p2.n,Value.slice p2.s.a p2.s.len p2.s.cap,Value.bool q2.n,Value.slice q2.s.a q2.s.len q2.s.cap],.agg #[Value.int .i64 0,Value.int .i64 0]]) (by simp[results,Try.results51,go_sem,r4_0,r4_1,r4_2,r4_3,r5_0,r5_1]) rfl ?_
  exact⟨p2,q2,rfl,hp2,hq2,V7.ext⟩
end Z4
end Go.Proofs.Ytdjbfgfbpimakaa
