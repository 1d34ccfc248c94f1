/- Fractions as they are written. -/
import Derived.Test.YtdjbfgfbpimakaaFrDx
import Derived.Test.YtdjbfgfbpimakaaK7
namespace Go.Proofs.Ytdjbfgfbpimakaa
open Go.RowKit
def frText (a b:Int):List UInt8:=if b=1 then dec a else dec a++47::dec b
theorem dec_len {z:Int} (h:Sm z):(dec z).length≤140737488355330:=by
 have h1:z.natAbs<2^maxBits:=h
 have h2:=rdec_len h1
 rw[maxBits_eq] at h2
 unfold dec decN
 split<;>split<;>simp<;>omega
theorem frText_bs {a b:Int} (hb:b≠1):bs (dec a)++⟨#[47]⟩++bs (dec b)=bs (frText a b):=by
 unfold frText
 rw[if_neg hb]
 show bs (dec a)++bs [47]++bs (dec b)=_
 rw[bs_append,bs_append,List.append_assoc]
 rfl
set_option maxRecDepth 100000 in
set_option maxHeartbeats 4000000 in
theorem ftext_any (x y:IV) (a b:Int) (w:World) (hx:IsI w x a) (hy:IsI w y (b-1)) (hs:Sm b) :
  Calls Try.prog 10 #[.agg #[.bool x.n,.slice x.s.a x.s.len x.s.cap,.bool y.n,.slice y.s.a y.s.len y.s.cap]] w (fun e w'=>e = .returned (.string (bs (frText a b)))∧Ext w w'):=by
 replace hs:=hd_ hs
 have e1:sgnZ (b-1)=0↔b=1:=by rw[sgnZ_eq];omega
 have V0:=((Vs.nil w).add' (n:=w.heap.size) (vs:=#[Value.bool x.n,Value.slice x.s.a x.s.len x.s.cap,Value.bool y.n,Value.slice y.s.a y.s.len y.s.cap]) (T:=39) (by simp))
 replace hx:=hx.keep V0.ext
 replace hy:=hy.keep V0.ext
 go_enter Try.func10,Try.ntmps10
 go_upto_region 1 with fail
 generalize (w.alloc (Obj.cells #[Value.bool x.n,Value.slice x.s.a x.s.len x.s.cap,Value.bool y.n,Value.slice y.s.a y.s.len y.s.cap] 39))=W0 at *
 by_cases hb:b=1
 ·have hs1:(sgnZ (b-1) == 0)=true:=by rw[beq_iff_eq];exact e1.2 hb
  have hF:=hd_ (show frText a b=dec a by unfold frText;rw[if_pos hb])
  clear e1
  replace hb:=hd_ hb
  obtain⟨c1_0,c1_1,c1_2,c1_3,c1_4,c1_5,c1_6,c1_7⟩:=V0.facts4 0 rfl
  go_wp2_with fail
  (with_reducible refine (sign_any y (b-1) _ (hy)).mono ?_)
  rintro e W1 ⟨rfl,hxx⟩
  replace hx:=hx.keep hxx
  replace hy:=hy.keep hxx
  clear c1_0 c1_1 c1_2 c1_3 c1_4 c1_5 c1_6 c1_7
  have V1:=V0.keep hxx
  clear V0 hxx
  go_upto_region 2 with fail
  obtain⟨c1_0,c1_1,c1_2,c1_3,c1_4,c1_5,c1_6,c1_7⟩:=V1.facts4 0 rfl
  go_wp2_with fail
  (with_reducible refine (text_any x a _ (hx)).mono ?_)
  rintro e W2 ⟨rfl,hxx⟩
  replace hx:=hx.keep hxx
  replace hy:=hy.keep hxx
  clear c1_0 c1_1 c1_2 c1_3 c1_4 c1_5 c1_6 c1_7
  have V2:=V1.keep hxx
  clear V1 hxx
  go_wp2
  go_ret
  exact⟨ret_s (by rw[hF.out]),V2.ext⟩
 ·-- skip
  have hs1:(sgnZ (b-1) == 0)=false:=by rw[beq_eq_false_iff_ne];exact fun e=>hb (e1.1 e)
  have hF:=hd_ (frText_bs (a:=a) hb)
  have hl1:=dec_len hx.sm
  have hl2:=dec_len hs.out
  have hq1:(9223372036854775807<(dec a).length+1)=False:=eq_false (by omega)
  have hq2:(9223372036854775807<(dec a).length+1+(dec b).length)=False:=eq_false (by omega)
  clear e1
  replace hb:=hd_ hb
  obtain⟨c1_0,c1_1,c1_2,c1_3,c1_4,c1_5,c1_6,c1_7⟩:=V0.facts4 0 rfl
  go_wp2_with fail
  (with_reducible refine (sign_any y (b-1) _ (hy)).mono ?_)
  rintro e W1 ⟨rfl,hxx⟩
  replace hx:=hx.keep hxx
  replace hy:=hy.keep hxx
  clear c1_0 c1_1 c1_2 c1_3 c1_4 c1_5 c1_6 c1_7
  have V1:=V0.keep hxx
  clear V0 hxx
  go_upto_region 3 with fail
  (try go_upto_region 3 with fail)
  obtain⟨c1_0,c1_1,c1_2,c1_3,c1_4,c1_5,c1_6,c1_7⟩:=V1.facts4 0 rfl
  have HS:=hd_ (show ∀ W',Ext W1 W'→Cs W' [(w.heap.size,0,Value.bool x.n),(w.heap.size,1,Value.slice x.s.a x.s.len x.s.cap),(w.heap.size,2,Value.bool y.n),(w.heap.size,3,Value.slice y.s.a y.s.len y.s.cap)] from fun W' hW=>by simp only[cs_cons,cs_nil];exact⟨cell_later hW c1_0,cell_later hW c1_1,cell_later hW c1_2,cell_later hW c1_3,trivial⟩)
  clear c1_0 c1_1 c1_2 c1_3 c1_4 c1_5 c1_6 c1_7
  refine wpG_begin (S:=(fun w'=>Cs w' [(w.heap.size,0,Value.bool x.n),(w.heap.size,1,Value.slice x.s.a x.s.len x.s.cap),(w.heap.size,2,Value.bool y.n),(w.heap.size,3,Value.slice y.s.a y.s.len y.s.cap)])) (fun _=>True) (fun _=>True) 99 98 (by kernel_rfl) (fun WX hWX => ?_) (fun WX hWX hHeld => ?_)
  ·exact⟨HS.out _ hWX,trivial,trivial⟩
  have hE:=hWX
  refine wpG_take (i:=0) (oi:=_) (v:=?_) rfl (by kernel_rfl) (by kernel_rfl) (by kernel_rfl) (by decide) (by decide) (fun _ _ _ h=>h) (Or.inl ⟨by rfl,?_⟩) hHeld ?_
  rotate_left
  ·intro w hSw;(try dsimp only at hSw);(try simp only[cs_cons,cs_nil,and_true] at hSw);go_simp;(try with_reducible rfl)
  (try simp only[putR])
  replace hHeld:=hHeld.more 0
  refine wpG_take (i:=1) (oi:=_) (v:=?_) rfl (by kernel_rfl) (by kernel_rfl) (by kernel_rfl) (by decide) (by decide) (fun _ _ _ h=>h) (Or.inl ⟨by rfl,?_⟩) hHeld ?_
  rotate_left
  ·intro w hSw;(try dsimp only at hSw);(try simp only[cs_cons,cs_nil,and_true] at hSw);go_simp;(try with_reducible rfl)
  (try simp only[putR])
  replace hHeld:=hHeld.more 1
  refine wpG_take (i:=4) (oi:=_) (v:=?_) rfl (by kernel_rfl) (by kernel_rfl) (by kernel_rfl) (by decide) (by decide) (fun _ _ _ h=>h) (Or.inl ⟨by rfl,?_⟩) hHeld ?_
  rotate_left
  ·intro w hSw;(try dsimp only at hSw);(try simp only[cs_cons,cs_nil,and_true] at hSw);go_simp;(try with_reducible rfl)
  (try simp only[putR])
  replace hHeld:=hHeld.more 4
  refine wpG_step (i:=2) (o:=_) (by kernel_rfl) rfl (fun K hK => ?_)
  go_simp
  (go_at_call 44;((with_reducible refine (text_any x a _ (hx.keep hE)).mono ?_);rintro e w' ⟨rfl,hxx⟩))
  replace hE:=hE.tr hxx
  (try go_wp2_with fail)
  refine hK.out _ _ ⟨HS.out _ hE,fun _=>trivial,fun _=>trivial⟩ (fun hHeld' => ?_)
  clear hHeld
  have hHeld:=hHeld'
  clear hHeld'
  clear hK K
  (try simp only[putR])
  refine wpG_take (i:=3) (oi:=_) (v:=?_) rfl (by kernel_rfl) (by kernel_rfl) (by kernel_rfl) (by decide) (by decide) (fun _ _ _ h=>h) (Or.inl ⟨by rfl,?_⟩) hHeld ?_
  rotate_left
  ·intro w hSw;(try dsimp only at hSw);(try simp only[cs_cons,cs_nil,and_true] at hSw);go_simp;(try with_reducible rfl)
  (try simp only[putR])
  replace hHeld:=hHeld.more 3
  refine wpG_step (i:=5) (o:=_) (by kernel_rfl) rfl (fun K hK => ?_)
  go_simp
  (go_at_call 45;((with_reducible refine (below_any x y a b _ (hx.keep hE) (hy.keep hE) hs.out).mono ?_);rintro e w' ⟨r,rfl,hr,hxx⟩))
  replace hE:=hE.tr hxx
  (try go_wp2_with fail)
  refine hK.out _ _ ⟨HS.out _ hE,fun _=>trivial,fun _=>trivial⟩ (fun hHeld' => ?_)
  clear hHeld
  have hHeld:=hHeld'
  clear hHeld'
  clear hK K
  (try simp only[putR])
  refine wpG_step (i:=6) (o:=_) (by kernel_rfl) rfl (fun K hK => ?_)
  go_simp
  (go_at_call 44;((with_reducible refine (text_any r b _ hr).mono ?_);rintro e w' ⟨rfl,hxx⟩))
  replace hr:=hr.keep hxx
  replace hE:=hE.tr hxx
  (try go_wp2_with fail)
  refine hK.out _ _ ⟨HS.out _ hE,fun _=>trivial,fun _=>trivial⟩ (fun hHeld' => ?_)
  clear hHeld
  have hHeld:=hHeld'
  clear hHeld'
  clear hK K
  (try simp only[putR])
  refine wpG_take (i:=7) (oi:=_) (v:=?_) rfl (by kernel_rfl) (by kernel_rfl) (by kernel_rfl) (by decide) (by decide) (fun _ _ _ h=>h) (Or.inl ⟨by rfl,?_⟩) hHeld ?_
  rotate_left
  ·intro w hSw;(try dsimp only at hSw);(try simp only[cs_cons,cs_nil,and_true] at hSw);go_simp;(try with_reducible rfl)
  (try simp only[putR])
  replace hHeld:=hHeld.more 7
  refine wpG_take (i:=8) (oi:=_) (v:=?_) rfl (by kernel_rfl) (by kernel_rfl) (by kernel_rfl) (by decide) (by decide) (fun _ _ _ h=>h) (Or.inl ⟨by rfl,?_⟩) hHeld ?_
  rotate_left
  ·intro w hSw;(try dsimp only at hSw);(try simp only[cs_cons,cs_nil,and_true] at hSw);go_simp;(try with_reducible rfl)
  (try simp only[putR])
  replace hHeld:=hHeld.more 8
  refine wpG_done (by kernel_rfl) ?_ _
  clear hHeld HS
  have V2:=V1.keep hE
  clear V1
  replace hx:=hx.keep hE
  replace hy:=hy.keep hE
  clear hE
  (try clear hxx)
  (try clear hWX)
  generalize w'=W2 at *
  clear hr
  go_wp2
  go_ret
  exact⟨ret_s hF.out,V2.ext⟩
namespace Z4
theorem smz {w:World} {x:IV} {z:Int} (h:IsZ w x z):Bt z maxBits:=by obtain⟨_,_,_,_,_,_,h6⟩:=h;exact h6
theorem dec_one {b:Int}:dec b=[49]↔b=1:=by
 constructor
 ·intro h
  have h1:=dec_parts b
  rw[h] at h1
  have h2:decN b.natAbs=[49]:=by rw[←h1.2];rfl
  have h3:=readN_decN b.natAbs
  rw[h2] at h3
  have h4:decide (b<0)=false:=by rw[←h1.1];rfl
  simp at h4
  have h5:readN [49]=1:=by decide
  omega
 ·rintro rfl
  unfold dec decN
  rw[if_neg (by omega),if_neg (by decide),show (1:Int).natAbs=1 from rfl,rdec_pos (by omega)]
  simp only[Nat.reduceDiv,Nat.reduceMod]
  rw[rdec_zero]
  rfl
set_option maxRecDepth 100000 in
set_option maxHeartbeats 4000000 in
theorem ftext_any (x y:IV) (a b:Int) (w:World) (hx:IsZ w x a) (hy:IsZ w y b) :
  Calls Try.prog 11 #[.agg #[.bool x.n,.slice x.s.a x.s.len x.s.cap,.bool y.n,.slice y.s.a y.s.len y.s.cap]] w (fun e w'=>e = .returned (.string (bs (frText a b)))∧Ext w w'):=by
 have V0:=((Vs.nil w).add' (n:=w.heap.size) (vs:=#[Value.bool x.n,Value.slice x.s.a x.s.len x.s.cap,Value.bool y.n,Value.slice y.s.a y.s.len y.s.cap]) (T:=47) (by simp))
 replace hx:=hx.keep V0.ext
 replace hy:=hy.keep V0.ext
 go_enter Try.func11,Try.ntmps11
 go_upto_region 1 with fail
 generalize (w.alloc (Obj.cells #[Value.bool x.n,Value.slice x.s.a x.s.len x.s.cap,Value.bool y.n,Value.slice y.s.a y.s.len y.s.cap] 47))=W0 at *
 by_cases hb:b=1
 ·have hs1:(dec b == [49])=true:=by rw[dec_one.2 hb];rfl
  have hF:=hd_ (show frText a b=dec a by unfold frText;rw[if_pos hb])
  replace hb:=hd_ hb
  obtain⟨c1_0,c1_1,c1_2,c1_3,c1_4,c1_5,c1_6,c1_7⟩:=V0.facts4 0 rfl
  go_wp2_with fail
  (with_reducible refine (Z4.text_any y b _ (hy)).mono ?_)
  rintro e W1 ⟨rfl,hxx⟩
  replace hx:=hx.keep hxx
  replace hy:=hy.keep hxx
  clear c1_0 c1_1 c1_2 c1_3 c1_4 c1_5 c1_6 c1_7
  have V1:=V0.keep hxx
  clear V0 hxx
  go_upto_region 2 with fail
  obtain⟨c1_0,c1_1,c1_2,c1_3,c1_4,c1_5,c1_6,c1_7⟩:=V1.facts4 0 rfl
  go_wp2_with fail
  (with_reducible refine (Z4.text_any x a _ (hx)).mono ?_)
  rintro e W2 ⟨rfl,hxx⟩
  replace hx:=hx.keep hxx
  replace hy:=hy.keep hxx
  clear c1_0 c1_1 c1_2 c1_3 c1_4 c1_5 c1_6 c1_7
  have V2:=V1.keep hxx
  clear V1 hxx
  go_wp2
  go_ret
  exact⟨ret_s (by rw[hF.out]),V2.ext⟩
 ·-- skip
  have hs1:(dec b == [49])=false:=by rw[beq_eq_false_iff_ne];exact fun e=>hb (dec_one.1 e)
  have hF:=hd_ (frText_bs (a:=a) hb)
  have hl1:=dec_len (smz hx)
  have hl2:=dec_len (smz hy)
  have hq1:(9223372036854775807<(dec a).length+1)=False:=eq_false (by omega)
  have hq2:(9223372036854775807<(dec a).length+1+(dec b).length)=False:=eq_false (by omega)
  replace hb:=hd_ hb
  obtain⟨c1_0,c1_1,c1_2,c1_3,c1_4,c1_5,c1_6,c1_7⟩:=V0.facts4 0 rfl
  go_wp2_with fail
  (with_reducible refine (Z4.text_any y b _ (hy)).mono ?_)
  rintro e W1 ⟨rfl,hxx⟩
  replace hx:=hx.keep hxx
  replace hy:=hy.keep hxx
  clear c1_0 c1_1 c1_2 c1_3 c1_4 c1_5 c1_6 c1_7
  have V1:=V0.keep hxx
  clear V0 hxx
  go_upto_region 3 with fail
  (try go_upto_region 3 with fail)
  obtain⟨c1_0,c1_1,c1_2,c1_3,c1_4,c1_5,c1_6,c1_7⟩:=V1.facts4 0 rfl
  have HS:=hd_ (show ∀ W',Ext W1 W'→Cs W' [(w.heap.size,0,Value.bool x.n),(w.heap.size,1,Value.slice x.s.a x.s.len x.s.cap),(w.heap.size,2,Value.bool y.n),(w.heap.size,3,Value.slice y.s.a y.s.len y.s.cap)] from fun W' hW=>by simp only[cs_cons,cs_nil];exact⟨cell_later hW c1_0,cell_later hW c1_1,cell_later hW c1_2,cell_later hW c1_3,trivial⟩)
  clear c1_0 c1_1 c1_2 c1_3 c1_4 c1_5 c1_6 c1_7
  refine wpG_begin (S:=(fun w'=>Cs w' [(w.heap.size,0,Value.bool x.n),(w.heap.size,1,Value.slice x.s.a x.s.len x.s.cap),(w.heap.size,2,Value.bool y.n),(w.heap.size,3,Value.slice y.s.a y.s.len y.s.cap)])) (fun _=>True) (fun _=>True) 99 98 (by kernel_rfl) (fun WX hWX => ?_) (fun WX hWX hHeld => ?_)
  ·exact⟨HS.out _ hWX,trivial,trivial⟩
  have hE:=hWX
  refine wpG_take (i:=0) (oi:=_) (v:=?_) rfl (by kernel_rfl) (by kernel_rfl) (by kernel_rfl) (by decide) (by decide) (fun _ _ _ h=>h) (Or.inl ⟨by rfl,?_⟩) hHeld ?_
  rotate_left
  ·intro w hSw;(try dsimp only at hSw);(try simp only[cs_cons,cs_nil,and_true] at hSw);go_simp;(try with_reducible rfl)
  (try simp only[putR])
  replace hHeld:=hHeld.more 0
  refine wpG_take (i:=1) (oi:=_) (v:=?_) rfl (by kernel_rfl) (by kernel_rfl) (by kernel_rfl) (by decide) (by decide) (fun _ _ _ h=>h) (Or.inl ⟨by rfl,?_⟩) hHeld ?_
  rotate_left
  ·intro w hSw;(try dsimp only at hSw);(try simp only[cs_cons,cs_nil,and_true] at hSw);go_simp;(try with_reducible rfl)
  (try simp only[putR])
  replace hHeld:=hHeld.more 1
  refine wpG_take (i:=4) (oi:=_) (v:=?_) rfl (by kernel_rfl) (by kernel_rfl) (by kernel_rfl) (by decide) (by decide) (fun _ _ _ h=>h) (Or.inl ⟨by rfl,?_⟩) hHeld ?_
  rotate_left
  ·intro w hSw;(try dsimp only at hSw);(try simp only[cs_cons,cs_nil,and_true] at hSw);go_simp;(try with_reducible rfl)
  (try simp only[putR])
  replace hHeld:=hHeld.more 4
  refine wpG_take (i:=5) (oi:=_) (v:=?_) rfl (by kernel_rfl) (by kernel_rfl) (by kernel_rfl) (by decide) (by decide) (fun _ _ _ h=>h) (Or.inl ⟨by rfl,?_⟩) hHeld ?_
  rotate_left
  ·intro w hSw;(try dsimp only at hSw);(try simp only[cs_cons,cs_nil,and_true] at hSw);go_simp;(try with_reducible rfl)
  (try simp only[putR])
  replace hHeld:=hHeld.more 5
  refine wpG_step (i:=2) (o:=_) (by kernel_rfl) rfl (fun K hK => ?_)
  go_simp
  (go_at_call 46;((with_reducible refine (Z4.text_any x a _ (hx.keep hE)).mono ?_);rintro e w' ⟨rfl,hxx⟩))
  replace hE:=hE.tr hxx
  (try go_wp2_with fail)
  refine hK.out _ _ ⟨HS.out _ hE,fun _=>trivial,fun _=>trivial⟩ (fun hHeld' => ?_)
  clear hHeld
  have hHeld:=hHeld'
  clear hHeld'
  clear hK K
  (try simp only[putR])
  refine wpG_take (i:=3) (oi:=_) (v:=?_) rfl (by kernel_rfl) (by kernel_rfl) (by kernel_rfl) (by decide) (by decide) (fun _ _ _ h=>h) (Or.inl ⟨by rfl,?_⟩) hHeld ?_
  rotate_left
  ·intro w hSw;(try dsimp only at hSw);(try simp only[cs_cons,cs_nil,and_true] at hSw);go_simp;(try with_reducible rfl)
  (try simp only[putR])
  replace hHeld:=hHeld.more 3
  refine wpG_step (i:=6) (o:=_) (by kernel_rfl) rfl (fun K hK => ?_)
  go_simp
  (go_at_call 46;((with_reducible refine (Z4.text_any y b _ (hy.keep hE)).mono ?_);rintro e w' ⟨rfl,hxx⟩))
  replace hE:=hE.tr hxx
  (try go_wp2_with fail)
  refine hK.out _ _ ⟨HS.out _ hE,fun _=>trivial,fun _=>trivial⟩ (fun hHeld' => ?_)
  clear hHeld
  have hHeld:=hHeld'
  clear hHeld'
  clear hK K
  (try simp only[putR])
  refine wpG_take (i:=7) (oi:=_) (v:=?_) rfl (by kernel_rfl) (by kernel_rfl) (by kernel_rfl) (by decide) (by decide) (fun _ _ _ h=>h) (Or.inl ⟨by rfl,?_⟩) hHeld ?_
  rotate_left
  ·intro w hSw;(try dsimp only at hSw);(try simp only[cs_cons,cs_nil,and_true] at hSw);go_simp;(try with_reducible rfl)
  (try simp only[putR])
  replace hHeld:=hHeld.more 7
  refine wpG_take (i:=8) (oi:=_) (v:=?_) rfl (by kernel_rfl) (by kernel_rfl) (by kernel_rfl) (by decide) (by decide) (fun _ _ _ h=>h) (Or.inl ⟨by rfl,?_⟩) hHeld ?_
  rotate_left
  ·intro w hSw;(try dsimp only at hSw);(try simp only[cs_cons,cs_nil,and_true] at hSw);go_simp;(try with_reducible rfl)
  (try simp only[putR])
  replace hHeld:=hHeld.more 8
  refine wpG_done (by kernel_rfl) ?_ _
  clear hHeld HS
  have V2:=V1.keep hE
  clear V1
  replace hx:=hx.keep hE
  replace hy:=hy.keep hE
  clear hE
  (try clear hxx)
  (try clear hWX)
  generalize w'=W2 at *
  go_wp2
  go_ret
  exact⟨ret_s hF.out,V2.ext⟩
end Z4
end Go.Proofs.Ytdjbfgfbpimakaa
