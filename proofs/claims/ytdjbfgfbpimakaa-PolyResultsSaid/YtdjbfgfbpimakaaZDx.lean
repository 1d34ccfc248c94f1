/- The reference's ZAdd, ZSub, ZCmp. -/
import Derived.Test.YtdjbfgfbpimakaaZCx
namespace Go.Proofs.Ytdjbfgfbpimakaa.Z4
open Go.RowKit
theorem av1 {W:World} {A:List SV} {s:SV} (h:Av W [] s):∀ t∈[s],Av W A t:=fun t ht=>by
 rcases List.mem_cons.1 ht with rfl | ht
 ·exact h.trans (fun _ h=>by cases h)
 ·cases ht
theorem av2 {W:World} {x y z:SV} (h:Av W [y] z):∀ t∈[x,z],Av W [x,y] t:=fun t ht=>by
 rcases List.mem_cons.1 ht with rfl | ht
 ·exact Av.same (.head _) rfl
 ·rcases List.mem_cons.1 ht with rfl | ht
  ·refine h.trans (fun u hu => ?_)
   rcases List.mem_cons.1 hu with rfl | hu
   ·exact Av.same (.tail _ (.head _)) rfl
   ·cases hu
  ·cases ht
theorem len_le_of_val {a b:List Int} (da:Dig a) (db:Dig b) (nb:Norm b) (h:valL b≤valL a):b.length≤a.length:=by
 rcases Nat.lt_or_ge a.length b.length with h1 | h1
 ·have:=valL_lt_of_len da db nb h1;omega
 ·exact h1
set_option maxRecDepth 100000 in
set_option maxHeartbeats 2000000 in
theorem add_av (x y:IV) (a b:Int) (w:World) (hx:IsZ w x a) (hy:IsZ w y b) (hs:Sm (a+b)) :
  Calls Try.prog 98 #[.agg #[.bool x.n,.slice x.s.a x.s.len x.s.cap],.agg #[.bool y.n,.slice y.s.a y.s.len y.s.cap]] w (RetZA w [x.s,y.s] (a+b)):=by
 have he0:=(((Ext.rf w).al (Obj.cells #[Value.bool x.n,Value.slice x.s.a x.s.len x.s.cap] 45)).al (Obj.cells #[Value.bool y.n,Value.slice y.s.a y.s.len y.s.cap] 45))
 have HX:=hd_ hx
 have HY:=hd_ hy
 obtain⟨la,hla,na,da,hlea,hza,h0a,hsa⟩:=hx.open_
 obtain⟨lb,hlb,nb,db,hleb,hzb,h0b,hsb⟩:=hy.open_
 have HLA:=hd_ hla;have HLB:=hd_ hlb
 have hlx:x.s.len=la.length:=hla.1.1
 have hly:y.s.len=lb.length:=hlb.1.1
 by_cases hA:la.length=0
 ·have hA0:((x.s.len:Int) == 0)=true:=by rw[beq_iff_eq];omega
  have hv:Hd (a+b=b):=hd_ (by rw[hza,List.eq_nil_of_length_eq_zero hA];cases x.n<;>simp[sg,valL])
  clear hla na da hza h0a hsa hlb nb db hzb h0b hsb hx hy hA hlx hly
  go_enter Try.func98,Try.ntmps98
  go_wp2
  refine bodyPost_ret (v:=.agg #[.bool y.n,.slice y.s.a y.s.len y.s.cap]) (by simp[results,Try.results98,go_sem]) rfl ⟨y,rfl,?_,he0.al _,Av.same (.tail _ (.head _)) rfl⟩
  rw[hv.out]
  exact HY.out.keep (he0.al _)
 ·have hA0:((x.s.len:Int) == 0)=false:=by rw[beq_eq_false_iff_ne];omega
  by_cases hB:lb.length=0
  ·have hB0:((y.s.len:Int) == 0)=true:=by rw[beq_iff_eq];omega
   have hv:Hd (a+b=a):=hd_ (by rw[hzb,List.eq_nil_of_length_eq_zero hB];cases y.n<;>simp[sg,valL])
   clear hla na da hza h0a hsa hlb nb db hzb h0b hsb hx hy hA hB hlx hly
   go_enter Try.func98,Try.ntmps98
   go_wp2
   refine bodyPost_ret (v:=.agg #[.bool x.n,.slice x.s.a x.s.len x.s.cap]) (by simp[results,Try.results98,go_sem]) rfl ⟨x,rfl,?_,he0.al _,Av.same (.head _) rfl⟩
   rw[hv.out]
   exact HX.out.keep (he0.al _)
  ·have hB0:((y.s.len:Int) == 0)=false:=by rw[beq_eq_false_iff_ne];omega
   clear hA hB hlx hly
   by_cases hn:x.n=y.n
   ·have hb:(x.n == y.n)=true:=by simp[hn]
    have hv:=hd_ ((sg_add_same hn).trans (show _=a+b by rw[hza,hzb]))
    replace hs:=hd_ hs
    clear hn hla na hza h0a hsa hlb nb hzb h0b hsb hx hy
    go_enter Try.func98,Try.ntmps98
    go_wp2_with fail
    go_region_held3 (fun w'=>(Ext ((w.alloc (Obj.cells #[Value.bool x.n,Value.slice x.s.a x.s.len x.s.cap] 45)).alloc (Obj.cells #[Value.bool y.n,Value.slice y.s.a y.s.len y.s.cap] 45)) w'∧(∀ b o,b<((w.alloc (Obj.cells #[Value.bool x.n,Value.slice x.s.a x.s.len x.s.cap] 45)).alloc (Obj.cells #[Value.bool y.n,Value.slice y.s.a y.s.len y.s.cap] 45)).heap.size→w'.cell? ⟨b,o,none⟩=((w.alloc (Obj.cells #[Value.bool x.n,Value.slice x.s.a x.s.len x.s.cap] 45)).alloc (Obj.cells #[Value.bool y.n,Value.slice y.s.a y.s.len y.s.cap] 45)).cell? ⟨b,o,none⟩))∧Bx w' 45 (w.heap.size+2)) (first | assumption | exact⟨held_of (Ext.al (Ext.rf _) _).dr,Bx.dr (Bx.new (by simp))⟩ | exact⟨held_of (sb_ext (by assumption)).dr,Bx.dr (sb_bx (by assumption))⟩ | exact⟨held_of (Ext.tr (sb_ext (by assumption)) hx),Bx.keep (sb_bx (by assumption)) hx⟩ | exact⟨held_of ((sb_ext (by assumption)).st2 (by simp) _ _),(sb_bx (by assumption)).st2 _ _⟩) (first | (go_at_call 113;((with_reducible refine (dadd_any x.s y.s la lb _ (HLA.out.keep (he0.tr (sb_ext (by assumption)))) (HLB.out.keep (he0.tr (sb_ext (by assumption)))) da db (by omega) (by omega)).mono ?_);rintro e w' ⟨s1,l1,rfl,hl1,hd1,-,hv1,hx,hfr⟩;(replace hfr:=Av.mono (W:=w) hfr (he0.tr (sb_ext (by assumption))).size))) | (go_at_call 87;((with_reducible refine (made_av x.n s1 l1 _ hl1 hd1 (by rw[hv1,hv.out];exact hs.out)).mono ?_);rintro e w' ⟨y1,rfl,hy1,hx,hav⟩;(replace hav:=(Av.mono (W:=w) hav (he0.tr (sb_ext (by assumption))).size).trans (A:=[x.s,y.s]) (av1 hfr));obtain⟨⟨u0,hu0⟩,⟨u1,hu1⟩,hz0,hz1,hty⟩:=Bx.keep (T:=45) (n:=w.heap.size+2) (sb_bx (by assumption)) hx)))
    go_wp2
    refine bodyPost_ret (v:=.agg #[.bool y1.n,.slice y1.s.a y1.s.len y1.s.cap]) (by simp[results,Try.results98,go_sem,hu0,hu1]) rfl ⟨y1,rfl,?_,he0.tr (sb_ext (by assumption)),hav⟩
    rw[hv1,hv.out] at hy1
    exact hy1.kept ((Kept.rf _ _).st2 hty (by decide) _ _)
   ·have hb:(x.n == y.n)=false:=by simp[hn]
    by_cases hge:valL lb≤valL la
    ·have hv:=hd_ ((sg_add_ge hn).trans (show _=a+b by rw[hza,hzb]))
     replace hs:=hd_ hs
     have hcm:0≤cmpZ (valL la) (valL lb):=by unfold cmpZ;(repeat' split)<;>omega
     have hll:=len_le_of_val da db nb hge
     replace hge:=hd_ hge
     clear hn hla hza h0a hsa hlb hzb h0b hsb hx hy
     go_enter Try.func98,Try.ntmps98
     go_wp2_with (go_at_call 99;((with_reducible refine (dcmp_any x.s y.s la lb _ (HLA.out.keep (((Ext.rf w).al _ |>.al _).al _)) (HLB.out.keep (((Ext.rf w).al _ |>.al _).al _)) da db na nb).mono ?_);rintro e w' ⟨rfl,hx⟩;obtain⟨hc1,hf1⟩:=bcell hx))
     have hsb:(Ext ((w.alloc (Obj.cells #[Value.bool x.n,Value.slice x.s.a x.s.len x.s.cap] 45)).alloc (Obj.cells #[Value.bool y.n,Value.slice y.s.a y.s.len y.s.cap] 45)) w'∧(∀ b o,b<((w.alloc (Obj.cells #[Value.bool x.n,Value.slice x.s.a x.s.len x.s.cap] 45)).alloc (Obj.cells #[Value.bool y.n,Value.slice y.s.a y.s.len y.s.cap] 45)).heap.size→w'.cell? ⟨b,o,none⟩=((w.alloc (Obj.cells #[Value.bool x.n,Value.slice x.s.a x.s.len x.s.cap] 45)).alloc (Obj.cells #[Value.bool y.n,Value.slice y.s.a y.s.len y.s.cap] 45)).cell? ⟨b,o,none⟩))∧Bx w' 45 (w.heap.size+2):=⟨held_of (Ext.tr ((Ext.rf _).al _) hx),Bx.keep (Bx.new (by simp)) hx⟩
     go_region_held3 (fun w'=>(Ext ((w.alloc (Obj.cells #[Value.bool x.n,Value.slice x.s.a x.s.len x.s.cap] 45)).alloc (Obj.cells #[Value.bool y.n,Value.slice y.s.a y.s.len y.s.cap] 45)) w'∧(∀ b o,b<((w.alloc (Obj.cells #[Value.bool x.n,Value.slice x.s.a x.s.len x.s.cap] 45)).alloc (Obj.cells #[Value.bool y.n,Value.slice y.s.a y.s.len y.s.cap] 45)).heap.size→w'.cell? ⟨b,o,none⟩=((w.alloc (Obj.cells #[Value.bool x.n,Value.slice x.s.a x.s.len x.s.cap] 45)).alloc (Obj.cells #[Value.bool y.n,Value.slice y.s.a y.s.len y.s.cap] 45)).cell? ⟨b,o,none⟩))∧Bx w' 45 (w.heap.size+2)) (first | assumption | exact⟨held_of (Ext.al (Ext.rf _) _).dr,Bx.dr (Bx.new (by simp))⟩ | exact⟨held_of (sb_ext (by assumption)).dr,Bx.dr (sb_bx (by assumption))⟩ | exact⟨held_of (Ext.tr (sb_ext (by assumption)) hx),Bx.keep (sb_bx (by assumption)) hx⟩ | exact⟨held_of ((sb_ext (by assumption)).st2 (by simp) _ _),(sb_bx (by assumption)).st2 _ _⟩) (first | (go_at_call 114;((with_reducible refine (dsub_any x.s y.s la lb _ (HLA.out.keep (he0.tr (sb_ext (by assumption)))) (HLB.out.keep (he0.tr (sb_ext (by assumption)))) da db (by omega) hll hge.out).mono ?_);rintro e w' ⟨s1,l1,rfl,hl1,hd1,-,hv1,hx,hfr⟩;(replace hfr:=Av.mono (W:=w) hfr (he0.tr (sb_ext (by assumption))).size))) | (go_at_call 87;((with_reducible refine (made_av x.n s1 l1 _ hl1 hd1 (by rw[hv1,hv.out];exact hs.out)).mono ?_);rintro e w' ⟨y1,rfl,hy1,hx,hav⟩;(replace hav:=(Av.mono (W:=w) hav (he0.tr (sb_ext (by assumption))).size).trans (A:=[x.s,y.s]) (av1 hfr));obtain⟨⟨u0,hu0⟩,⟨u1,hu1⟩,hz0,hz1,hty⟩:=Bx.keep (T:=45) (n:=w.heap.size+2) (sb_bx (by assumption)) hx)))
     go_wp2
     refine bodyPost_ret (v:=.agg #[.bool y1.n,.slice y1.s.a y1.s.len y1.s.cap]) (by simp[results,Try.results98,go_sem,hu0,hu1]) rfl ⟨y1,rfl,?_,he0.tr (sb_ext (by assumption)),hav⟩
     rw[hv1,hv.out] at hy1
     exact hy1.kept ((Kept.rf _ _).st2 hty (by decide) _ _)
    ·have hv:=hd_ ((sg_add_lt hn).trans (show _=a+b by rw[hza,hzb]))
     replace hs:=hd_ hs
     have hcm:cmpZ (valL la) (valL lb)<0:=by unfold cmpZ;(repeat' split)<;>omega
     have hll:=len_le_of_val db da na (by omega)
     have hg2:Hd (valL la≤valL lb):=hd_ (by omega)
     clear hge hn hla hza h0a hsa hlb hzb h0b hsb hx hy
     go_enter Try.func98,Try.ntmps98
     go_wp2_with (go_at_call 99;((with_reducible refine (dcmp_any x.s y.s la lb _ (HLA.out.keep (((Ext.rf w).al _ |>.al _).al _)) (HLB.out.keep (((Ext.rf w).al _ |>.al _).al _)) da db na nb).mono ?_);rintro e w' ⟨rfl,hx⟩;obtain⟨hc1,hf1⟩:=bcell hx))
     have hsb:(Ext ((w.alloc (Obj.cells #[Value.bool x.n,Value.slice x.s.a x.s.len x.s.cap] 45)).alloc (Obj.cells #[Value.bool y.n,Value.slice y.s.a y.s.len y.s.cap] 45)) w'∧(∀ b o,b<((w.alloc (Obj.cells #[Value.bool x.n,Value.slice x.s.a x.s.len x.s.cap] 45)).alloc (Obj.cells #[Value.bool y.n,Value.slice y.s.a y.s.len y.s.cap] 45)).heap.size→w'.cell? ⟨b,o,none⟩=((w.alloc (Obj.cells #[Value.bool x.n,Value.slice x.s.a x.s.len x.s.cap] 45)).alloc (Obj.cells #[Value.bool y.n,Value.slice y.s.a y.s.len y.s.cap] 45)).cell? ⟨b,o,none⟩))∧Bx w' 45 (w.heap.size+2):=⟨held_of (Ext.tr ((Ext.rf _).al _) hx),Bx.keep (Bx.new (by simp)) hx⟩
     go_region_held3 (fun w'=>(Ext ((w.alloc (Obj.cells #[Value.bool x.n,Value.slice x.s.a x.s.len x.s.cap] 45)).alloc (Obj.cells #[Value.bool y.n,Value.slice y.s.a y.s.len y.s.cap] 45)) w'∧(∀ b o,b<((w.alloc (Obj.cells #[Value.bool x.n,Value.slice x.s.a x.s.len x.s.cap] 45)).alloc (Obj.cells #[Value.bool y.n,Value.slice y.s.a y.s.len y.s.cap] 45)).heap.size→w'.cell? ⟨b,o,none⟩=((w.alloc (Obj.cells #[Value.bool x.n,Value.slice x.s.a x.s.len x.s.cap] 45)).alloc (Obj.cells #[Value.bool y.n,Value.slice y.s.a y.s.len y.s.cap] 45)).cell? ⟨b,o,none⟩))∧Bx w' 45 (w.heap.size+2)) (first | assumption | exact⟨held_of (Ext.al (Ext.rf _) _).dr,Bx.dr (Bx.new (by simp))⟩ | exact⟨held_of (sb_ext (by assumption)).dr,Bx.dr (sb_bx (by assumption))⟩ | exact⟨held_of (Ext.tr (sb_ext (by assumption)) hx),Bx.keep (sb_bx (by assumption)) hx⟩ | exact⟨held_of ((sb_ext (by assumption)).st2 (by simp) _ _),(sb_bx (by assumption)).st2 _ _⟩) (first | (go_at_call 114;((with_reducible refine (dsub_any y.s x.s lb la _ (HLB.out.keep (he0.tr (sb_ext (by assumption)))) (HLA.out.keep (he0.tr (sb_ext (by assumption)))) db da (by omega) hll hg2.out).mono ?_);rintro e w' ⟨s1,l1,rfl,hl1,hd1,-,hv1,hx,hfr⟩;(replace hfr:=Av.mono (W:=w) hfr (he0.tr (sb_ext (by assumption))).size))) | (go_at_call 87;((with_reducible refine (made_av y.n s1 l1 _ hl1 hd1 (by rw[hv1,hv.out];exact hs.out)).mono ?_);rintro e w' ⟨y1,rfl,hy1,hx,hav⟩;(replace hav:=(Av.mono (W:=w) hav (he0.tr (sb_ext (by assumption))).size).trans (A:=[x.s,y.s]) (av1 hfr));obtain⟨⟨u0,hu0⟩,⟨u1,hu1⟩,hz0,hz1,hty⟩:=Bx.keep (T:=45) (n:=w.heap.size+2) (sb_bx (by assumption)) hx)))
     go_wp2
     refine bodyPost_ret (v:=.agg #[.bool y1.n,.slice y1.s.a y1.s.len y1.s.cap]) (by simp[results,Try.results98,go_sem,hu0,hu1]) rfl ⟨y1,rfl,?_,he0.tr (sb_ext (by assumption)),hav⟩
     rw[hv1,hv.out] at hy1
     exact hy1.kept ((Kept.rf _ _).st2 hty (by decide) _ _)
theorem add_any (x y:IV) (a b:Int) (w:World) (hx:IsZ w x a) (hy:IsZ w y b) (hs:Sm (a+b)) :
  Calls Try.prog 98 #[.agg #[.bool x.n,.slice x.s.a x.s.len x.s.cap],.agg #[.bool y.n,.slice y.s.a y.s.len y.s.cap]] w (RetZ w (a+b)):=(add_av x y a b w hx hy hs).mono fun _ _ h=>h.ret
set_option maxRecDepth 100000 in
set_option maxHeartbeats 1000000 in
theorem sub_av (x y:IV) (a b:Int) (w:World) (hx:IsZ w x a) (hy:IsZ w y b) (hs:Sm (a-b)) :
  Calls Try.prog 101 #[.agg #[.bool x.n,.slice x.s.a x.s.len x.s.cap],.agg #[.bool y.n,.slice y.s.a y.s.len y.s.cap]] w (RetZA w [x.s,y.s] (a-b)):=by
 have he0:=(((Ext.rf w).al (Obj.cells #[Value.bool x.n,Value.slice x.s.a x.s.len x.s.cap] 45)).al (Obj.cells #[Value.bool y.n,Value.slice y.s.a y.s.len y.s.cap] 45))
 have HX:=hd_ hx;have HY:=hd_ hy
 have hv:=hd_ (show a + -b=a-b by omega)
 replace hs:=hd_ hs
 clear hx hy
 go_enter Try.func101,Try.ntmps101
 go_wp2_with fail
 go_region_held3 (fun w'=>(Ext ((w.alloc (Obj.cells #[Value.bool x.n,Value.slice x.s.a x.s.len x.s.cap] 45)).alloc (Obj.cells #[Value.bool y.n,Value.slice y.s.a y.s.len y.s.cap] 45)) w'∧(∀ b o,b<((w.alloc (Obj.cells #[Value.bool x.n,Value.slice x.s.a x.s.len x.s.cap] 45)).alloc (Obj.cells #[Value.bool y.n,Value.slice y.s.a y.s.len y.s.cap] 45)).heap.size→w'.cell? ⟨b,o,none⟩=((w.alloc (Obj.cells #[Value.bool x.n,Value.slice x.s.a x.s.len x.s.cap] 45)).alloc (Obj.cells #[Value.bool y.n,Value.slice y.s.a y.s.len y.s.cap] 45)).cell? ⟨b,o,none⟩))∧Bx w' 45 (w.heap.size+2)) (first | assumption | exact⟨held_of (Ext.al (Ext.rf _) _).dr,Bx.dr (Bx.new (by simp))⟩ | exact⟨held_of (sb_ext (by assumption)).dr,Bx.dr (sb_bx (by assumption))⟩ | exact⟨held_of (Ext.tr (sb_ext (by assumption)) hx),Bx.keep (sb_bx (by assumption)) hx⟩ | exact⟨held_of ((sb_ext (by assumption)).st2 (by simp) _ _),(sb_bx (by assumption)).st2 _ _⟩) (first | (go_at_call 55;((with_reducible refine (neg_av y b _ (HY.out.keep (he0.tr (sb_ext (by assumption))))).mono ?_);rintro e w' ⟨y2,rfl,hy2,hx,hfr⟩;(replace hfr:=Av.mono (W:=w) hfr (he0.tr (sb_ext (by assumption))).size))) | (go_at_call 98;((with_reducible refine (add_av x y2 a (-b) _ (HX.out.keep (he0.tr (sb_ext (by assumption)))) hy2 (by rw[hv.out];exact hs.out)).mono ?_);rintro e w' ⟨y1,rfl,hy1,hx,hav⟩;(replace hav:=(Av.mono (W:=w) hav (he0.tr (sb_ext (by assumption))).size).trans (A:=[x.s,y.s]) (av2 hfr));obtain⟨⟨u0,hu0⟩,⟨u1,hu1⟩,hz0,hz1,hty⟩:=Bx.keep (T:=45) (n:=w.heap.size+2) (sb_bx (by assumption)) hx)))
 go_wp2
 refine bodyPost_ret (v:=.agg #[.bool y1.n,.slice y1.s.a y1.s.len y1.s.cap]) (by simp[results,Try.results101,go_sem,hu0,hu1]) rfl ⟨y1,rfl,?_,he0.tr (sb_ext (by assumption)),hav⟩
 rw[hv.out] at hy1
 exact hy1.kept ((Kept.rf _ _).st2 hty (by decide) _ _)
theorem sub_any (x y:IV) (a b:Int) (w:World) (hx:IsZ w x a) (hy:IsZ w y b) (hs:Sm (a-b)) :
  Calls Try.prog 101 #[.agg #[.bool x.n,.slice x.s.a x.s.len x.s.cap],.agg #[.bool y.n,.slice y.s.a y.s.len y.s.cap]] w (RetZ w (a-b)):=(sub_av x y a b w hx hy hs).mono fun _ _ h=>h.ret
theorem sgn_sub (a b:Int):sgnZ (a-b)=cmpZ a b:=by unfold sgnZ cmpZ;(repeat' split)<;>omega
set_option maxHeartbeats 400000 in
theorem cmp_any (x y:IV) (a b:Int) (w:World) (hx:IsZ w x a) (hy:IsZ w y b) (hs:Sm (a-b)) :
  Calls Try.prog 100 #[.agg #[.bool x.n,.slice x.s.a x.s.len x.s.cap],.agg #[.bool y.n,.slice y.s.a y.s.len y.s.cap]] w (fun e w'=>e = .returned (.int .i64 (cmpZ a b))∧Ext w w'):=by
 have HS:=hd_ (sgn_sub a b)
 go_enter Try.func100,Try.ntmps100
 go_wp2_with (first
  | (go_at_call 101;((with_reducible refine (sub_any x y a b _ (hx.keep (((Ext.rf w).al _).al _)) (hy.keep (((Ext.rf w).al _).al _)) hs).mono ?_);rintro e w1 ⟨z,rfl,hz,hx1⟩))
  | (go_at_call 78;((with_reducible refine (sign_any z (a-b) _ hz).mono ?_);rintro e w2 ⟨rfl,hx2⟩)))
 go_ret
 exact⟨ret_i HS.out,((((Ext.rf w).al _).al _).tr hx1).tr hx2⟩
end Go.Proofs.Ytdjbfgfbpimakaa.Z4
