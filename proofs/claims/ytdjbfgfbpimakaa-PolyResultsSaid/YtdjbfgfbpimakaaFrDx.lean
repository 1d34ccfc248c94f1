/- Fractions: the rest of the methods. -/
import Derived.Test.YtdjbfgfbpimakaaFrBx
namespace Go.Proofs.Ytdjbfgfbpimakaa
open Go.RowKit
def RetFI (w:World) (a b c:Int) (e:Ending) (w':World):Prop:=
 ∃ x y:IV,e = .returned (.tuple #[.agg #[.bool x.n,.slice x.s.a x.s.len x.s.cap,.bool y.n,.slice y.s.a y.s.len y.s.cap],.agg #[.int .i64 c,.int .i64 0]])∧IsI w' x a∧IsI w' y (b-1)∧Ext w w'
theorem isI_one_less (w:World):IsI w zI (1-1):=by
 rw[show (1-1:Int)=0 from rfl]
 exact isI_zero w
theorem sgnZ_eq {z:Int}:sgnZ z=0↔z=0:=by unfold sgnZ;(repeat' split)<;>omega
set_option maxRecDepth 100000 in
set_option maxHeartbeats 4000000 in
theorem fquo_any (x y u v:IV) (a b c d:Int) (n:Nat) (w:World) (hx:IsI w x a) (hy:IsI w y (b-1)) (hu:IsI w u c) (hv:IsI w v (d-1)) (ba:Bt a n) (bb:Bt b n) (bc:Bt c n) (bd:Bt d n) (hn:n≤32768000000000) (hb:0<b) (hc:c≠0) :
  Calls Try.prog 50 #[.agg #[.bool x.n,.slice x.s.a x.s.len x.s.cap,.bool y.n,.slice y.s.a y.s.len y.s.cap],.agg #[.bool u.n,.slice u.s.a u.s.len u.s.cap,.bool v.n,.slice v.s.a v.s.len v.s.cap]] w (RetFI w (frN (a*d) (b*c)) (frD (a*d) (b*c)) 0):=by
 have hbc:b*c≠0:=fun e=>by rcases Int.mul_eq_zero.1 e with h | h<;>omega
 have hs:(sgnZ c == 0)=false:=by rw[beq_eq_false_iff_ne];exact fun e=>hc (sgnZ_eq.1 e)
 have V0:=(((((Vs.nil w).add' (n:=w.heap.size) (vs:=#[Value.bool x.n,Value.slice x.s.a x.s.len x.s.cap,Value.bool y.n,Value.slice y.s.a y.s.len y.s.cap]) (T:=39) (by simp)).add' (n:=w.heap.size+1) (vs:=#[Value.bool u.n,Value.slice u.s.a u.s.len u.s.cap,Value.bool v.n,Value.slice v.s.a v.s.len v.s.cap]) (T:=39) (by simp)).add' (n:=w.heap.size+1+1) (vs:=#[Value.bool false,Value.slice none 0 0,Value.bool false,Value.slice none 0 0]) (T:=39) (by simp)).add' (n:=w.heap.size+1+1+1) (vs:=#[Value.int .i64 0,Value.int .i64 0]) (T:=27) (by simp))
 replace hx:=hx.keep V0.ext
 replace hy:=hy.keep V0.ext
 replace hu:=hu.keep V0.ext
 replace hv:=hv.keep V0.ext
 go_enter Try.func50,Try.ntmps50
 go_upto_region 1 with fail
 generalize ((((w.alloc (Obj.cells #[Value.bool x.n,Value.slice x.s.a x.s.len x.s.cap,Value.bool y.n,Value.slice y.s.a y.s.len y.s.cap] 39)).alloc (Obj.cells #[Value.bool u.n,Value.slice u.s.a u.s.len u.s.cap,Value.bool v.n,Value.slice v.s.a v.s.len v.s.cap] 39)).alloc (Obj.cells #[Value.bool false,Value.slice none 0 0,Value.bool false,Value.slice none 0 0] 39)).alloc (Obj.cells #[Value.int .i64 0,Value.int .i64 0] 27))=W0 at *
 obtain⟨c3_0,c3_1,c3_2,c3_3,c3_4,c3_5,c3_6,c3_7⟩:=V0.facts4 2 rfl
 go_wp2_with fail
 (with_reducible refine (sign_any u c _ (hu)).mono ?_)
 rintro e W1 ⟨rfl,hxx⟩
 replace hx:=hx.keep hxx
 replace hy:=hy.keep hxx
 replace hu:=hu.keep hxx
 replace hv:=hv.keep hxx
 clear c3_0 c3_1 c3_2 c3_3 c3_4 c3_5 c3_6 c3_7
 have V1:=V0.keep hxx
 clear V0 hxx
 go_upto_region 3 with fail
 (try go_upto_region 3 with fail)
 obtain⟨c2_0,c2_1,c2_2,c2_3,c2_4,c2_5,c2_6,c2_7⟩:=V1.facts4 3 rfl
 obtain⟨c3_0,c3_1,c3_2,c3_3,c3_4,c3_5,c3_6,c3_7⟩:=V1.facts4 2 rfl
 have HS:=hd_ (show ∀ W',Ext W1 W'→Cs W' [(w.heap.size,0,Value.bool x.n),(w.heap.size,1,Value.slice x.s.a x.s.len x.s.cap),(w.heap.size+1,0,Value.bool u.n),(w.heap.size+1,1,Value.slice u.s.a u.s.len u.s.cap),(w.heap.size+1,2,Value.bool v.n),(w.heap.size+1,3,Value.slice v.s.a v.s.len v.s.cap),(w.heap.size,2,Value.bool y.n),(w.heap.size,3,Value.slice y.s.a y.s.len y.s.cap)] from fun W' hW=>by simp only[cs_cons,cs_nil];exact⟨cell_later hW c2_0,cell_later hW c2_1,cell_later hW c3_0,cell_later hW c3_1,cell_later hW c3_2,cell_later hW c3_3,cell_later hW c2_2,cell_later hW c2_3,trivial⟩)
 clear c2_0 c2_1 c2_2 c2_3 c2_4 c2_5 c2_6 c2_7 c3_0 c3_1 c3_2 c3_3 c3_4 c3_5 c3_6 c3_7
 refine wpG_begin (S:=(fun w'=>Cs w' [(w.heap.size,0,Value.bool x.n),(w.heap.size,1,Value.slice x.s.a x.s.len x.s.cap),(w.heap.size+1,0,Value.bool u.n),(w.heap.size+1,1,Value.slice u.s.a u.s.len u.s.cap),(w.heap.size+1,2,Value.bool v.n),(w.heap.size+1,3,Value.slice v.s.a v.s.len v.s.cap),(w.heap.size,2,Value.bool y.n),(w.heap.size,3,Value.slice y.s.a y.s.len y.s.cap)])) (fun _=>True) (fun _=>True) 99 98 (by kernel_rfl) (fun WX hWX => ?_) (fun WX hWX hHeld => ?_)
 ·exact⟨HS.out _ hWX,trivial,trivial⟩
 have hE:=hWX
 refine wpG_take (i:=0) (oi:=_) (v:=?_) rfl (by kernel_rfl) (by kernel_rfl) (by kernel_rfl) (by decide) (by decide) (fun _ _ _ h=>h) (Or.inl ⟨by rfl,?_⟩) hHeld ?_
 rotate_left
 ·intro w hSw;(try dsimp only at hSw);(try simp only[cs_cons,cs_nil,and_true] at hSw);go_simp;(try with_reducible rfl)
 (try simp only[putR])
 replace hHeld:=hHeld.more 0
 refine wpG_take (i:=1) (oi:=_) (v:=?_) rfl (by kernel_rfl) (by kernel_rfl) (by kernel_rfl) (by decide) (by decide) (fun _ _ _ h=>h) (Or.inl ⟨by rfl,?_⟩) hHeld ?_
 rotate_left
 ·intro w hSw;(try dsimp only at hSw);(try simp only[cs_cons,cs_nil,and_true] at hSw);go_simp;(try with_reducible rfl)
 (try simp only[putR])
 replace hHeld:=hHeld.more 1
 refine wpG_take (i:=2) (oi:=_) (v:=?_) rfl (by kernel_rfl) (by kernel_rfl) (by kernel_rfl) (by decide) (by decide) (fun _ _ _ h=>h) (Or.inl ⟨by rfl,?_⟩) hHeld ?_
 rotate_left
 ·intro w hSw;(try dsimp only at hSw);(try simp only[cs_cons,cs_nil,and_true] at hSw);go_simp;(try with_reducible rfl)
 (try simp only[putR])
 replace hHeld:=hHeld.more 2
 refine wpG_take (i:=5) (oi:=_) (v:=?_) rfl (by kernel_rfl) (by kernel_rfl) (by kernel_rfl) (by decide) (by decide) (fun _ _ _ h=>h) (Or.inl ⟨by rfl,?_⟩) hHeld ?_
 rotate_left
 ·intro w hSw;(try dsimp only at hSw);(try simp only[cs_cons,cs_nil,and_true] at hSw);go_simp;(try with_reducible rfl)
 (try simp only[putR])
 replace hHeld:=hHeld.more 5
 refine wpG_take (i:=7) (oi:=_) (v:=?_) rfl (by kernel_rfl) (by kernel_rfl) (by kernel_rfl) (by decide) (by decide) (fun _ _ _ h=>h) (Or.inl ⟨by rfl,?_⟩) hHeld ?_
 rotate_left
 ·intro w hSw;(try dsimp only at hSw);(try simp only[cs_cons,cs_nil,and_true] at hSw);go_simp;(try with_reducible rfl)
 (try simp only[putR])
 replace hHeld:=hHeld.more 7
 refine wpG_take (i:=8) (oi:=_) (v:=?_) rfl (by kernel_rfl) (by kernel_rfl) (by kernel_rfl) (by decide) (by decide) (fun _ _ _ h=>h) (Or.inl ⟨by rfl,?_⟩) hHeld ?_
 rotate_left
 ·intro w hSw;(try dsimp only at hSw);(try simp only[cs_cons,cs_nil,and_true] at hSw);go_simp;(try with_reducible rfl)
 (try simp only[putR])
 replace hHeld:=hHeld.more 8
 refine wpG_take (i:=11) (oi:=_) (v:=?_) rfl (by kernel_rfl) (by kernel_rfl) (by kernel_rfl) (by decide) (by decide) (fun _ _ _ h=>h) (Or.inl ⟨by rfl,?_⟩) hHeld ?_
 rotate_left
 ·intro w hSw;(try dsimp only at hSw);(try simp only[cs_cons,cs_nil,and_true] at hSw);go_simp;(try with_reducible rfl)
 (try simp only[putR])
 replace hHeld:=hHeld.more 11
 refine wpG_step (i:=3) (o:=_) (by kernel_rfl) rfl (fun K hK => ?_)
 go_simp
 (go_at_call 45;((with_reducible refine (below_any u v c d _ (hu.keep hE) (hv.keep hE) (bd.sm (by omega))).mono ?_);rintro e w' ⟨y1,rfl,hy1,hxx⟩))
 replace hE:=hE.tr hxx
 (try go_wp2_with fail)
 refine hK.out _ _ ⟨HS.out _ hE,fun _=>trivial,fun _=>trivial⟩ (fun hHeld' => ?_)
 clear hHeld
 have hHeld:=hHeld'
 clear hHeld'
 clear hK K
 (try simp only[putR])
 refine wpG_step (i:=4) (o:=_) (by kernel_rfl) rfl (fun K hK => ?_)
 go_simp
 (go_at_call 63;((with_reducible refine (mul_any x y1 a d _ (hx.keep hE) hy1 ((ba.mul bd).sm (by omega))).mono ?_);rintro e w' ⟨y2,rfl,hy2,hxx⟩))
 replace hy1:=hy1.keep hxx
 replace hE:=hE.tr hxx
 (try go_wp2_with fail)
 refine hK.out _ _ ⟨HS.out _ hE,fun _=>trivial,fun _=>trivial⟩ (fun hHeld' => ?_)
 clear hHeld
 have hHeld:=hHeld'
 clear hHeld'
 clear hK K
 (try simp only[putR])
 refine wpG_step (i:=6) (o:=_) (by kernel_rfl) rfl (fun K hK => ?_)
 go_simp
 (go_at_call 45;((with_reducible refine (below_any x y a b _ (hx.keep hE) (hy.keep hE) (bb.sm (by omega))).mono ?_);rintro e w' ⟨y3,rfl,hy3,hxx⟩))
 replace hy1:=hy1.keep hxx
 replace hy2:=hy2.keep hxx
 replace hE:=hE.tr hxx
 (try go_wp2_with fail)
 refine hK.out _ _ ⟨HS.out _ hE,fun _=>trivial,fun _=>trivial⟩ (fun hHeld' => ?_)
 clear hHeld
 have hHeld:=hHeld'
 clear hHeld'
 clear hK K
 (try simp only[putR])
 refine wpG_step (i:=9) (o:=_) (by kernel_rfl) rfl (fun K hK => ?_)
 go_simp
 (go_at_call 63;((with_reducible refine (mul_any y3 u b c _ hy3 (hu.keep hE) ((bb.mul bc).sm (by omega))).mono ?_);rintro e w' ⟨y4,rfl,hy4,hxx⟩))
 replace hy1:=hy1.keep hxx
 replace hy2:=hy2.keep hxx
 replace hy3:=hy3.keep hxx
 replace hE:=hE.tr hxx
 (try go_wp2_with fail)
 refine hK.out _ _ ⟨HS.out _ hE,fun _=>trivial,fun _=>trivial⟩ (fun hHeld' => ?_)
 clear hHeld
 have hHeld:=hHeld'
 clear hHeld'
 clear hK K
 (try simp only[putR])
 refine wpG_step (i:=10) (o:=_) (by kernel_rfl) rfl (fun K hK => ?_)
 go_simp
 (go_at_call 59;((with_reducible refine (lowest_any y2 y4 (a*d) (b*c) (n+n) _ hy2 hy4 (ba.mul bd) (bb.mul bc) (by omega) hbc).mono ?_);rintro e w' ⟨p,q,rfl,hp,hq,hxx⟩))
 replace hy1:=hy1.keep hxx
 replace hy2:=hy2.keep hxx
 replace hy3:=hy3.keep hxx
 replace hy4:=hy4.keep hxx
 replace hE:=hE.tr hxx
 obtain⟨s4_0,s4_1,s4_2,s4_3,s4_4,s4_5,s4_6,s4_7⟩:=(V1.keep hE).facts4 1 rfl
 obtain⟨s5_0,s5_1,s5_2,s5_3⟩:=(V1.keep hE).facts 0 rfl
 (try go_wp2_with fail)
 refine hK.out _ _ ⟨HS.out _ hE,fun _=>trivial,fun _=>trivial⟩ (fun hHeld' => ?_)
 clear hHeld
 have hHeld:=hHeld'
 clear hHeld'
 clear hK K
 (try simp only[putR])
 refine wpG_step (i:=12) (o:=_) (by kernel_rfl) rfl (fun K hK => ?_)
 have ne4_5:=V1.ne 1 0 rfl rfl (by decide)
 have ne5_4:=V1.ne 0 1 rfl rfl (by decide)
 go_simp
 refine hK.out _ _ ⟨(hHeld.s).st4 ⟨V1.ne 1 3 rfl rfl (by decide),V1.ne 1 3 rfl rfl (by decide),V1.ne 1 2 rfl rfl (by decide),V1.ne 1 2 rfl rfl (by decide),V1.ne 1 2 rfl rfl (by decide),V1.ne 1 2 rfl rfl (by decide),V1.ne 1 3 rfl rfl (by decide),V1.ne 1 3 rfl rfl (by decide),trivial⟩ _ _ _ _,fun _=>trivial,fun _=>trivial⟩ (fun hHeld' => ?_)
 clear hHeld
 have hHeld:=hHeld'
 clear hHeld'
 clear hK K
 (try simp only[putR])
 refine wpG_step (i:=13) (o:=_) (by kernel_rfl) rfl (fun K hK => ?_)
 go_simp
 refine hK.out _ _ ⟨(hHeld.s).st2 ⟨V1.ne 0 3 rfl rfl (by decide),V1.ne 0 3 rfl rfl (by decide),V1.ne 0 2 rfl rfl (by decide),V1.ne 0 2 rfl rfl (by decide),V1.ne 0 2 rfl rfl (by decide),V1.ne 0 2 rfl rfl (by decide),V1.ne 0 3 rfl rfl (by decide),V1.ne 0 3 rfl rfl (by decide),trivial⟩ _ _,fun _=>trivial,fun _=>trivial⟩ (fun hHeld' => ?_)
 clear hHeld
 have hHeld:=hHeld'
 clear hHeld'
 clear hK K
 (try simp only[putR])
 refine wpG_done (by kernel_rfl) ?_ _
 clear hHeld HS
 have V2:=V1.keep hE
 clear V1
 replace hx:=hx.keep hE
 replace hy:=hy.keep hE
 replace hu:=hu.keep hE
 replace hv:=hv.keep hE
 have KI:=V2.kept4 (U:=116) 1 rfl (by decide) (Value.bool p.n) (Value.slice p.s.a p.s.len p.s.cap) (Value.bool q.n) (Value.slice q.s.a q.s.len q.s.cap)
 replace hx:=hx.kept KI
 replace hy:=hy.kept KI
 replace hu:=hu.kept KI
 replace hv:=hv.kept KI
 replace hy1:=hy1.kept KI
 replace hy2:=hy2.kept KI
 replace hy3:=hy3.kept KI
 replace hy4:=hy4.kept KI
 replace hp:=hp.kept KI
 replace hq:=hq.kept KI
 clear KI
 replace V2:=V2.set4 1 rfl (Value.bool p.n) (Value.slice p.s.a p.s.len p.s.cap) (Value.bool q.n) (Value.slice q.s.a q.s.len q.s.cap)
 dsimp only[List.set] at V2
 have KI:=V2.kept2 (U:=116) 0 rfl (by decide) (Value.int .i64 0) (Value.int .i64 0)
 replace hx:=hx.kept KI
 replace hy:=hy.kept KI
 replace hu:=hu.kept KI
 replace hv:=hv.kept KI
 replace hy1:=hy1.kept KI
 replace hy2:=hy2.kept KI
 replace hy3:=hy3.kept KI
 replace hy4:=hy4.kept KI
 replace hp:=hp.kept KI
 replace hq:=hq.kept KI
 clear KI
 replace V2:=V2.set2 0 rfl (Value.int .i64 0) (Value.int .i64 0)
 dsimp only[List.set] at V2
 clear s4_0 s4_1 s4_2 s4_3 s4_4 s4_5 s4_6 s4_7 s5_0 s5_1 s5_2 s5_3 ne4_5 ne5_4
 clear hE
 (try clear hxx)
 (try clear hWX)
 generalize ((((((w'.setCell ⟨w.heap.size+1+1,0,none⟩ (Value.bool p.n)).setCell ⟨w.heap.size+1+1,1,none⟩ (Value.slice p.s.a p.s.len p.s.cap)).setCell ⟨w.heap.size+1+1,2,none⟩ (Value.bool q.n)).setCell ⟨w.heap.size+1+1,3,none⟩ (Value.slice q.s.a q.s.len q.s.cap)).setCell ⟨w.heap.size+1+1+1,0,none⟩ (Value.int .i64 0)).setCell ⟨w.heap.size+1+1+1,1,none⟩ (Value.int .i64 0))=W2 at *
 clear hy1
 clear hy2
 clear hy3
 clear hy4
 obtain⟨r4_0,r4_1,r4_2,r4_3,r4_4,r4_5,r4_6,r4_7⟩:=V2.facts4 1 rfl
 obtain⟨r5_0,r5_1,r5_2,r5_3⟩:=V2.facts 0 rfl
 go_wp2
 refine bodyPost_ret (v:=.tuple #[.agg #[Value.bool p.n,Value.slice p.s.a p.s.len p.s.cap,Value.bool q.n,Value.slice q.s.a q.s.len q.s.cap],.agg #[Value.int .i64 0,Value.int .i64 0]]) (by simp[results,Try.results50,go_sem,r4_0,r4_1,r4_2,r4_3,r5_0,r5_1]) rfl ?_
 exact⟨p,q,rfl,hp,hq,V2.ext⟩
set_option maxHeartbeats 1000000 in
theorem whole_any (x:IV) (a:Int) (w:World) (hx:IsI w x a) :
  Calls Try.prog 37 #[.agg #[.bool x.n,.slice x.s.a x.s.len x.s.cap]] w (RetF w a 1):=by
 have V0:=(((Vs.nil w).add' (n:=w.heap.size) (vs:=#[Value.bool x.n,Value.slice x.s.a x.s.len x.s.cap]) (T:=37) (by simp)).add' (n:=w.heap.size+1) (vs:=#[Value.bool false,Value.slice none 0 0,Value.bool false,Value.slice none 0 0]) (T:=39) (by simp))
 replace hx:=hx.keep V0.ext
 go_enter Try.func37,Try.ntmps37
 go_upto_region 1 with fail
 generalize ((w.alloc (Obj.cells #[Value.bool x.n,Value.slice x.s.a x.s.len x.s.cap] 37)).alloc (Obj.cells #[Value.bool false,Value.slice none 0 0,Value.bool false,Value.slice none 0 0] 39))=W0 at *
 obtain⟨c1_0,c1_1,c1_2,c1_3⟩:=V0.facts 1 rfl
 obtain⟨c2_0,c2_1,c2_2,c2_3,c2_4,c2_5,c2_6,c2_7⟩:=V0.facts4 0 rfl
 go_wp2
 clear c1_0 c1_1 c1_2 c1_3 c2_0 c2_1 c2_2 c2_3 c2_4 c2_5 c2_6 c2_7
 have KI:=V0.kept4 (U:=116) 0 rfl (by decide) (Value.bool x.n) (Value.slice x.s.a x.s.len x.s.cap) (Value.bool false) (Value.slice none 0 0)
 replace hx:=hx.kept KI
 clear KI
 replace V0:=V0.set4 0 rfl (Value.bool x.n) (Value.slice x.s.a x.s.len x.s.cap) (Value.bool false) (Value.slice none 0 0)
 dsimp only[List.set] at V0
 generalize ((((W0.setCell ⟨w.heap.size+1,0,none⟩ (Value.bool x.n)).setCell ⟨w.heap.size+1,1,none⟩ (Value.slice x.s.a x.s.len x.s.cap)).setCell ⟨w.heap.size+1,2,none⟩ (Value.bool false)).setCell ⟨w.heap.size+1,3,none⟩ (Value.slice none 0 0))=W1 at *
 have V1:=V0
 clear V0
 obtain⟨r2_0,r2_1,r2_2,r2_3,r2_4,r2_5,r2_6,r2_7⟩:=V1.facts4 0 rfl
 go_wp2
 refine bodyPost_ret (v:=.agg #[Value.bool x.n,Value.slice x.s.a x.s.len x.s.cap,Value.bool false,Value.slice none 0 0]) (by simp[results,Try.results37,go_sem,r2_0,r2_1,r2_2,r2_3]) rfl ?_
 exact⟨x,zI,rfl,hx,isI_one_less _,V1.ext⟩
end Go.Proofs.Ytdjbfgfbpimakaa
