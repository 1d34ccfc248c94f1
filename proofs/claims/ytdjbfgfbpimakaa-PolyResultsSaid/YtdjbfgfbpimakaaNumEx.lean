/- Add, Sub. -/
import Derived.Test.YtdjbfgfbpimakaaK3
namespace Go.Proofs.Ytdjbfgfbpimakaa
open Go.RowKit
theorem sg_add_same {m n:Bool} {p q:Int} (h:m=n):sg m (p+q)=sg m p+sg n q:=by subst h;cases m<;>simp[sg];omega
theorem sg_add_ge {m n:Bool} {p q:Int} (h:m≠n):sg m (p-q)=sg m p+sg n q:=by cases m<;>cases n<;>simp[sg] at *<;>omega
theorem sg_add_lt {m n:Bool} {p q:Int} (h:m≠n):sg n (q-p)=sg m p+sg n q:=by cases m<;>cases n<;>simp[sg] at *<;>omega
theorem len_le_of_val {a b:List Int} (da:Dig a) (db:Dig b) (nb:Norm b) (h:valL b≤valL a):b.length≤a.length:=by
 rcases Nat.lt_or_ge a.length b.length with h1 | h1
 ·have:=valL_lt_of_len da db nb h1;omega
 ·exact h1
set_option maxRecDepth 100000 in
set_option maxHeartbeats 2000000 in
theorem add_any (x y:IV) (a b:Int) (w:World) (hx:IsI w x a) (hy:IsI w y b) (hs:Sm (a+b)) :
  Calls Try.prog 83 #[.agg #[.bool x.n,.slice x.s.a x.s.len x.s.cap],.agg #[.bool y.n,.slice y.s.a y.s.len y.s.cap]] w (RetI w (a+b)):=by
 have he0:=(((Ext.rf w).al (Obj.cells #[Value.bool x.n,Value.slice x.s.a x.s.len x.s.cap] 37)).al (Obj.cells #[Value.bool y.n,Value.slice y.s.a y.s.len y.s.cap] 37))
 obtain⟨la,hla,na,da,hlea,hza,h0a,hsa⟩:=hx.open_
 obtain⟨lb,hlb,nb,db,hleb,hzb,h0b,hsb⟩:=hy.open_
 have HLA:=hd_ hla;have HLB:=hd_ hlb
 by_cases hn:x.n=y.n
 ·have hb:(x.n == y.n)=true:=by simp[hn]
  have hv:=hd_ ((sg_add_same hn).trans (show _=a+b by rw[hza,hzb]))
  replace hs:=hd_ hs
  clear hn hla na da hza h0a hsa hlb nb db hzb h0b hsb hx hy
  go_enter Try.func83,Try.ntmps83
  go_wp2_with fail
  go_region_held3 (fun w'=>(Ext ((w.alloc (Obj.cells #[Value.bool x.n,Value.slice x.s.a x.s.len x.s.cap] 37)).alloc (Obj.cells #[Value.bool y.n,Value.slice y.s.a y.s.len y.s.cap] 37)) w'∧(∀ b o,b<((w.alloc (Obj.cells #[Value.bool x.n,Value.slice x.s.a x.s.len x.s.cap] 37)).alloc (Obj.cells #[Value.bool y.n,Value.slice y.s.a y.s.len y.s.cap] 37)).heap.size→w'.cell? ⟨b,o,none⟩=((w.alloc (Obj.cells #[Value.bool x.n,Value.slice x.s.a x.s.len x.s.cap] 37)).alloc (Obj.cells #[Value.bool y.n,Value.slice y.s.a y.s.len y.s.cap] 37)).cell? ⟨b,o,none⟩))∧Bx w' 37 (w.heap.size+2)) (first | assumption | exact⟨held_of (Ext.al (Ext.rf _) _).dr,Bx.dr (Bx.new (by simp))⟩ | exact⟨held_of (sb_ext (by assumption)).dr,Bx.dr (sb_bx (by assumption))⟩ | exact⟨held_of (Ext.tr (sb_ext (by assumption)) hx),Bx.keep (sb_bx (by assumption)) hx⟩ | exact⟨held_of ((sb_ext (by assumption)).st2 (by simp) _ _),(sb_bx (by assumption)).st2 _ _⟩) (first | (go_at_call 97;((with_reducible refine (sum_any x.s y.s la lb _ (HLA.out.keep (he0.tr (sb_ext (by assumption)))) (HLB.out.keep (he0.tr (sb_ext (by assumption)))) (by omega) (by omega)).mono ?_);rintro e w' ⟨s1,l1,rfl,hl1,-,hv1,hx⟩)) | (go_at_call 79;((with_reducible refine (made_any x.n s1 l1 _ hl1 (by rw[hv1,hv.out];exact hs.out)).mono ?_);rintro e w' ⟨y1,rfl,hy1,hx⟩;obtain⟨⟨u0,hu0⟩,⟨u1,hu1⟩,hz0,hz1,hty⟩:=Bx.keep (T:=37) (n:=w.heap.size+2) (sb_bx (by assumption)) hx)))
  go_wp2
  refine bodyPost_ret (v:=.agg #[.bool y1.n,.slice y1.s.a y1.s.len y1.s.cap]) (by simp[results,Try.results83,go_sem,hu0,hu1]) rfl ⟨y1,rfl,?_,he0.tr (sb_ext (by assumption))⟩
  rw[hv1,hv.out] at hy1
  exact hy1.kept ((Kept.rf _ _).st2 hty (by decide) _ _)
 ·have hb:(x.n == y.n)=false:=by simp[hn]
  by_cases hge:valL lb≤valL la
  ·have hv:=hd_ ((sg_add_ge hn).trans (show _=a+b by rw[hza,hzb]))
   replace hs:=hd_ hs
   have hcm:0≤cmpZ (valL la) (valL lb):=by unfold cmpZ;(repeat' split)<;>omega
   have hll:=len_le_of_val da db nb hge
   replace hge:=hd_ hge
   clear hn hla da hza h0a hsa hlb db hzb h0b hsb hx hy
   go_enter Try.func83,Try.ntmps83
   go_wp2_with (go_at_call 93;((with_reducible refine (order_any x.s y.s la lb _ (HLA.out.keep (((Ext.rf w).al _ |>.al _).al _)) (HLB.out.keep (((Ext.rf w).al _ |>.al _).al _)) na nb).mono ?_);rintro e w' ⟨rfl,hx⟩;obtain⟨hc1,hf1⟩:=bcell hx))
   have hsb:(Ext ((w.alloc (Obj.cells #[Value.bool x.n,Value.slice x.s.a x.s.len x.s.cap] 37)).alloc (Obj.cells #[Value.bool y.n,Value.slice y.s.a y.s.len y.s.cap] 37)) w'∧(∀ b o,b<((w.alloc (Obj.cells #[Value.bool x.n,Value.slice x.s.a x.s.len x.s.cap] 37)).alloc (Obj.cells #[Value.bool y.n,Value.slice y.s.a y.s.len y.s.cap] 37)).heap.size→w'.cell? ⟨b,o,none⟩=((w.alloc (Obj.cells #[Value.bool x.n,Value.slice x.s.a x.s.len x.s.cap] 37)).alloc (Obj.cells #[Value.bool y.n,Value.slice y.s.a y.s.len y.s.cap] 37)).cell? ⟨b,o,none⟩))∧Bx w' 37 (w.heap.size+2):=⟨held_of (Ext.tr ((Ext.rf _).al _) hx),Bx.keep (Bx.new (by simp)) hx⟩
   go_region_held3 (fun w'=>(Ext ((w.alloc (Obj.cells #[Value.bool x.n,Value.slice x.s.a x.s.len x.s.cap] 37)).alloc (Obj.cells #[Value.bool y.n,Value.slice y.s.a y.s.len y.s.cap] 37)) w'∧(∀ b o,b<((w.alloc (Obj.cells #[Value.bool x.n,Value.slice x.s.a x.s.len x.s.cap] 37)).alloc (Obj.cells #[Value.bool y.n,Value.slice y.s.a y.s.len y.s.cap] 37)).heap.size→w'.cell? ⟨b,o,none⟩=((w.alloc (Obj.cells #[Value.bool x.n,Value.slice x.s.a x.s.len x.s.cap] 37)).alloc (Obj.cells #[Value.bool y.n,Value.slice y.s.a y.s.len y.s.cap] 37)).cell? ⟨b,o,none⟩))∧Bx w' 37 (w.heap.size+2)) (first | assumption | exact⟨held_of (Ext.al (Ext.rf _) _).dr,Bx.dr (Bx.new (by simp))⟩ | exact⟨held_of (sb_ext (by assumption)).dr,Bx.dr (sb_bx (by assumption))⟩ | exact⟨held_of (Ext.tr (sb_ext (by assumption)) hx),Bx.keep (sb_bx (by assumption)) hx⟩ | exact⟨held_of ((sb_ext (by assumption)).st2 (by simp) _ _),(sb_bx (by assumption)).st2 _ _⟩) (first | (go_at_call 96;((with_reducible refine (less_any x.s y.s la lb _ (HLA.out.keep (he0.tr (sb_ext (by assumption)))) (HLB.out.keep (he0.tr (sb_ext (by assumption)))) (by omega) hll hge.out).mono ?_);rintro e w' ⟨s1,l1,rfl,hl1,-,hv1,hx⟩)) | (go_at_call 79;((with_reducible refine (made_any x.n s1 l1 _ hl1 (by rw[hv1,hv.out];exact hs.out)).mono ?_);rintro e w' ⟨y1,rfl,hy1,hx⟩;obtain⟨⟨u0,hu0⟩,⟨u1,hu1⟩,hz0,hz1,hty⟩:=Bx.keep (T:=37) (n:=w.heap.size+2) (sb_bx (by assumption)) hx)))
   go_wp2
   refine bodyPost_ret (v:=.agg #[.bool y1.n,.slice y1.s.a y1.s.len y1.s.cap]) (by simp[results,Try.results83,go_sem,hu0,hu1]) rfl ⟨y1,rfl,?_,he0.tr (sb_ext (by assumption))⟩
   rw[hv1,hv.out] at hy1
   exact hy1.kept ((Kept.rf _ _).st2 hty (by decide) _ _)
  ·have hv:=hd_ ((sg_add_lt hn).trans (show _=a+b by rw[hza,hzb]))
   replace hs:=hd_ hs
   have hcm:cmpZ (valL la) (valL lb)<0:=by unfold cmpZ;(repeat' split)<;>omega
   have hll:=len_le_of_val db da na (by omega)
   have hg2:Hd (valL la≤valL lb):=hd_ (by omega)
   clear hge hn hla da hza h0a hsa hlb db hzb h0b hsb hx hy
   go_enter Try.func83,Try.ntmps83
   go_wp2_with (go_at_call 93;((with_reducible refine (order_any x.s y.s la lb _ (HLA.out.keep (((Ext.rf w).al _ |>.al _).al _)) (HLB.out.keep (((Ext.rf w).al _ |>.al _).al _)) na nb).mono ?_);rintro e w' ⟨rfl,hx⟩;obtain⟨hc1,hf1⟩:=bcell hx))
   have hsb:(Ext ((w.alloc (Obj.cells #[Value.bool x.n,Value.slice x.s.a x.s.len x.s.cap] 37)).alloc (Obj.cells #[Value.bool y.n,Value.slice y.s.a y.s.len y.s.cap] 37)) w'∧(∀ b o,b<((w.alloc (Obj.cells #[Value.bool x.n,Value.slice x.s.a x.s.len x.s.cap] 37)).alloc (Obj.cells #[Value.bool y.n,Value.slice y.s.a y.s.len y.s.cap] 37)).heap.size→w'.cell? ⟨b,o,none⟩=((w.alloc (Obj.cells #[Value.bool x.n,Value.slice x.s.a x.s.len x.s.cap] 37)).alloc (Obj.cells #[Value.bool y.n,Value.slice y.s.a y.s.len y.s.cap] 37)).cell? ⟨b,o,none⟩))∧Bx w' 37 (w.heap.size+2):=⟨held_of (Ext.tr ((Ext.rf _).al _) hx),Bx.keep (Bx.new (by simp)) hx⟩
   go_region_held3 (fun w'=>(Ext ((w.alloc (Obj.cells #[Value.bool x.n,Value.slice x.s.a x.s.len x.s.cap] 37)).alloc (Obj.cells #[Value.bool y.n,Value.slice y.s.a y.s.len y.s.cap] 37)) w'∧(∀ b o,b<((w.alloc (Obj.cells #[Value.bool x.n,Value.slice x.s.a x.s.len x.s.cap] 37)).alloc (Obj.cells #[Value.bool y.n,Value.slice y.s.a y.s.len y.s.cap] 37)).heap.size→w'.cell? ⟨b,o,none⟩=((w.alloc (Obj.cells #[Value.bool x.n,Value.slice x.s.a x.s.len x.s.cap] 37)).alloc (Obj.cells #[Value.bool y.n,Value.slice y.s.a y.s.len y.s.cap] 37)).cell? ⟨b,o,none⟩))∧Bx w' 37 (w.heap.size+2)) (first | assumption | exact⟨held_of (Ext.al (Ext.rf _) _).dr,Bx.dr (Bx.new (by simp))⟩ | exact⟨held_of (sb_ext (by assumption)).dr,Bx.dr (sb_bx (by assumption))⟩ | exact⟨held_of (Ext.tr (sb_ext (by assumption)) hx),Bx.keep (sb_bx (by assumption)) hx⟩ | exact⟨held_of ((sb_ext (by assumption)).st2 (by simp) _ _),(sb_bx (by assumption)).st2 _ _⟩) (first | (go_at_call 96;((with_reducible refine (less_any y.s x.s lb la _ (HLB.out.keep (he0.tr (sb_ext (by assumption)))) (HLA.out.keep (he0.tr (sb_ext (by assumption)))) (by omega) hll hg2.out).mono ?_);rintro e w' ⟨s1,l1,rfl,hl1,-,hv1,hx⟩)) | (go_at_call 79;((with_reducible refine (made_any y.n s1 l1 _ hl1 (by rw[hv1,hv.out];exact hs.out)).mono ?_);rintro e w' ⟨y1,rfl,hy1,hx⟩;obtain⟨⟨u0,hu0⟩,⟨u1,hu1⟩,hz0,hz1,hty⟩:=Bx.keep (T:=37) (n:=w.heap.size+2) (sb_bx (by assumption)) hx)))
   go_wp2
   refine bodyPost_ret (v:=.agg #[.bool y1.n,.slice y1.s.a y1.s.len y1.s.cap]) (by simp[results,Try.results83,go_sem,hu0,hu1]) rfl ⟨y1,rfl,?_,he0.tr (sb_ext (by assumption))⟩
   rw[hv1,hv.out] at hy1
   exact hy1.kept ((Kept.rf _ _).st2 hty (by decide) _ _)
set_option maxRecDepth 100000 in
set_option maxHeartbeats 1000000 in
theorem sub_any (x y:IV) (a b:Int) (w:World) (hx:IsI w x a) (hy:IsI w y b) (hs:Sm (a-b)) :
  Calls Try.prog 91 #[.agg #[.bool x.n,.slice x.s.a x.s.len x.s.cap],.agg #[.bool y.n,.slice y.s.a y.s.len y.s.cap]] w (RetI w (a-b)):=by
 have he0:=(((Ext.rf w).al (Obj.cells #[Value.bool x.n,Value.slice x.s.a x.s.len x.s.cap] 37)).al (Obj.cells #[Value.bool y.n,Value.slice y.s.a y.s.len y.s.cap] 37))
 have HX:=hd_ hx;have HY:=hd_ hy
 have hv:=hd_ (show a + -b=a-b by omega)
 replace hs:=hd_ hs
 clear hx hy
 go_enter Try.func91,Try.ntmps91
 go_wp2_with fail
 go_region_held3 (fun w'=>(Ext ((w.alloc (Obj.cells #[Value.bool x.n,Value.slice x.s.a x.s.len x.s.cap] 37)).alloc (Obj.cells #[Value.bool y.n,Value.slice y.s.a y.s.len y.s.cap] 37)) w'∧(∀ b o,b<((w.alloc (Obj.cells #[Value.bool x.n,Value.slice x.s.a x.s.len x.s.cap] 37)).alloc (Obj.cells #[Value.bool y.n,Value.slice y.s.a y.s.len y.s.cap] 37)).heap.size→w'.cell? ⟨b,o,none⟩=((w.alloc (Obj.cells #[Value.bool x.n,Value.slice x.s.a x.s.len x.s.cap] 37)).alloc (Obj.cells #[Value.bool y.n,Value.slice y.s.a y.s.len y.s.cap] 37)).cell? ⟨b,o,none⟩))∧Bx w' 37 (w.heap.size+2)) (first | assumption | exact⟨held_of (Ext.al (Ext.rf _) _).dr,Bx.dr (Bx.new (by simp))⟩ | exact⟨held_of (sb_ext (by assumption)).dr,Bx.dr (sb_bx (by assumption))⟩ | exact⟨held_of (Ext.tr (sb_ext (by assumption)) hx),Bx.keep (sb_bx (by assumption)) hx⟩ | exact⟨held_of ((sb_ext (by assumption)).st2 (by simp) _ _),(sb_bx (by assumption)).st2 _ _⟩) (first | (go_at_call 80;((with_reducible refine (neg_any y b _ (HY.out.keep (he0.tr (sb_ext (by assumption))))).mono ?_);rintro e w' ⟨y2,rfl,hy2,hx⟩)) | (go_at_call 83;((with_reducible refine (add_any x y2 a (-b) _ (HX.out.keep (he0.tr (sb_ext (by assumption)))) hy2 (by rw[hv.out];exact hs.out)).mono ?_);rintro e w' ⟨y1,rfl,hy1,hx⟩;obtain⟨⟨u0,hu0⟩,⟨u1,hu1⟩,hz0,hz1,hty⟩:=Bx.keep (T:=37) (n:=w.heap.size+2) (sb_bx (by assumption)) hx)))
 go_wp2
 refine bodyPost_ret (v:=.agg #[.bool y1.n,.slice y1.s.a y1.s.len y1.s.cap]) (by simp[results,Try.results91,go_sem,hu0,hu1]) rfl ⟨y1,rfl,?_,he0.tr (sb_ext (by assumption))⟩
 rw[hv.out] at hy1
 exact hy1.kept ((Kept.rf _ _).st2 hty (by decide) _ _)
end Go.Proofs.Ytdjbfgfbpimakaa
