/- Gcd: the walk. -/
import Derived.Test.YtkidkimjdiichaaGreatDivEw
import Derived.Deep.LoopGhost
namespace Go.Proofs.YtkidkimjdiichaaGreat
open Go.RowKit
theorem div_any (x y:IV) (a b:Int) (w:World) (hx:IsI w x a) (hy:IsI w y b) (hb:b≠0) :
  Calls Tryz.prog 131 #[.agg #[.bool x.n,.slice x.s.a x.s.len x.s.cap],.agg #[.bool y.n,.slice y.s.a y.s.len y.s.cap]] w (RetDiv w (a / b) (a % b) 0):=div_ok x y a b w hx hy hb
theorem wpG_begin {P:Program} {ops:Array Oper} {Q:Exit→Act→World→Prop} {S:World→Prop} {id:Nat} {a:Act} {w:World} (A B:World→Prop) (xa xb:Nat) (hm:P.follows .mixedOrders=true) (hS:∀ w',Ext w w'→S w'∧A w'∧B w')
  (h:∀ w',Ext w w'→Shows S A B xa xb (Array.replicate ops.size false) w'→wpG P .any ops Q S A B xa xb ops.size (Array.replicate ops.size false) a w'):(Code.region id ops true).wp P Q a w:=
 wpG_region A B xa xb hm (hS _ (Ext.rf w).dr) (h _ (Ext.rf w).dr)
structure GcdSt (w wc:World) (x y:IV) (a b:Int):Prop where
 ext:Ext w wc
 ba:Box wc w.heap.size 50 (iv x)
 bb:Box wc (w.heap.size+1) 50 (iv y)
 rr:Box wc (w.heap.size+1+1) 50 (iv zI)
 hx:IsI wc x a
 hy:IsI wc y b
section
variable {w wc w':World} {x y z:IV} {a b v:Int}
theorem GcdSt.keep (h:GcdSt w wc x y a b) (e:Ext wc w'):GcdSt w w' x y a b:=
 ⟨h.ext.tr e,h.ba.keep e,h.bb.keep e,h.rr.keep e,h.hx.keep e,h.hy.keep e⟩
theorem GcdSt.stA (h:GcdSt w wc x y a b) (hz:IsI wc z v) :
  GcdSt w ((wc.setCell ⟨w.heap.size,0,none⟩ (.bool z.n)).setCell ⟨w.heap.size,1,none⟩ (.slice z.s.a z.s.len z.s.cap)) z y v b:=
 ⟨h.ext.st2 (by omega) _ _,h.ba.set2 _ _,h.bb.far2 (by omega) _ _,h.rr.far2 (by omega) _ _,hz.st2 h.ba (by decide) _ _,h.hy.st2 h.ba (by decide) _ _⟩
theorem GcdSt.stB (h:GcdSt w wc x y a b) (hz:IsI wc z v) :
  GcdSt w ((wc.setCell ⟨w.heap.size+1,0,none⟩ (.bool z.n)).setCell ⟨w.heap.size+1,1,none⟩ (.slice z.s.a z.s.len z.s.cap)) x z a v:=
 ⟨h.ext.st2 (by omega) _ _,h.ba.far2 (by omega) _ _,h.bb.set2 _ _,h.rr.far2 (by omega) _ _,h.hx.st2 h.bb (by decide) _ _,hz.st2 h.bb (by decide) _ _⟩
theorem GcdSt.start (w:World) (hx:IsI w x a) (hy:IsI w y b) :
  GcdSt w (((w.alloc (Obj.cells (iv x) 50)).alloc (Obj.cells (iv y) 50)).alloc (Obj.cells (iv zI) 50)) x y a b:=by
 have e:Ext w (((w.alloc (Obj.cells (iv x) 50)).alloc (Obj.cells (iv y) 50)).alloc (Obj.cells (iv zI) 50)):=(((Ext.rf w).al _).al _).al _
 exact⟨e,((Box.new rfl).al _).al _,(Box.new (by simp)).al _,Box.new (by simp),hx.keep e,hy.keep e⟩
end
theorem len_zero_iff {w:World} {x:IV} {z:Int} (h:IsI w x z):x.s.len=0↔z=0:=by
 obtain⟨l,hl,hn,hd,_,hz,h0,_⟩:=h.open_
 have e:x.s.len=l.length:=hl.1.1
 rw[e,hz]
 constructor
 ·intro h
  rw[List.eq_nil_of_length_eq_zero h]
  unfold sg;split<;>simp[valL]
 ·intro h
  have:valL l=0:=by unfold sg at h;split at h<;>omega
  rw[(valL_eq_zero hd hn).1 this];rfl
theorem isI_abs {w:World} {x:IV} {z:Int} (h:IsI w x z):∃ l,IsL w x.s .u32 l∧sg false (valL l)=z.natAbs∧Sm (sg false (valL l)):=by
 obtain⟨l,hl,hn,hd,_,hz,h0,hs⟩:=h.open_
 have h1:=valL_nonneg hd
 have e:sg false (valL l)=z.natAbs:=by rw[hz,natAbs_sg,sg_false];omega
 exact⟨l,hl,e,by rw[e];exact hs.le (by omega)⟩
theorem gcd_step {a b:Int}:Int.gcd b (a % b)=Int.gcd a b:=by
 have e:=Int.mul_ediv_add_emod a b
 apply Nat.dvd_antisymm
 ·rw[←Int.natCast_dvd_natCast]
  have h1:=Int.gcd_dvd_left b (a % b)
  have h2:=Int.gcd_dvd_right b (a % b)
  refine Int.dvd_coe_gcd ?_ h1
  have h3:=Int.dvd_add (Int.dvd_mul_of_dvd_left (c:=a / b) h1) h2
  rwa[e] at h3
 ·rw[←Int.natCast_dvd_natCast]
  have h1:=Int.gcd_dvd_left a b
  have h2:=Int.gcd_dvd_right a b
  refine Int.dvd_coe_gcd h2 ?_
  rw[show a % b=a-b*(a / b) by omega]
  exact Int.dvd_sub h1 (Int.dvd_mul_of_dvd_left h2)
set_option maxRecDepth 100000 in
set_option maxHeartbeats 4000000 in
theorem gcd_any (x y:IV) (a b:Int) (w:World) (hx:IsI w x a) (hy:IsI w y b) :
  Calls Tryz.prog 130 #[.agg #[.bool x.n,.slice x.s.a x.s.len x.s.cap],.agg #[.bool y.n,.slice y.s.a y.s.len y.s.cap]] w (RetI w (Int.gcd a b)):=by
 have S0:=hd_ (GcdSt.start w hx hy)
 go_enter Tryz.func130,Tryz.ntmps130
 go_wp2
 go_loopg [8] b.natAbs (fun g s8 wr => ∃ (x' y':IV) (a' b':Int),GcdSt w wr x' y' a' b'∧Int.gcd a' b'=Int.gcd a b∧b'.natAbs=g)
 case atStart=>exact⟨_,_,_,_,S0.out,rfl,rfl⟩
 case round =>
  clear S0 hx hy
  obtain⟨x',y',a',b',S,hg,rfl⟩:=hrel
  replace hg:=hd_ hg
  obtain⟨c0,c1,-,-⟩:=S.ba.facts
  obtain⟨c2,c3,-,-⟩:=S.bb.facts
  have hlz:=len_zero_iff S.hy
  by_cases hb:b'=0
  ·have hl0:y'.s.len=0:=hlz.2 hb
   obtain⟨l,hl,hlv,hls⟩:=isI_abs S.hx
   have hres:Hd (sg false (valL l)=Int.gcd a b):=hd_ (by rw[hlv,←hg.out,hb];simp)
   replace hlv:=hd_ hlv
   clear hlz
   replace hb:=hd_ hb
   go_wp2_with fail
   refine (made_any false x'.s l _ hl hls).mono ?_
   rintro e w1 ⟨z,rfl,hz,h1⟩
   have S1:=S.keep h1
   obtain⟨d0,d1,d2,d3⟩:=S1.rr.facts
   clear c0 c1 c2 c3
   go_wp2
   refine bodyPost_ret (v:=.agg #[.bool z.n,.slice z.s.a z.s.len z.s.cap]) (by simp[results,Tryz.results130,go_sem,d0,d1]) rfl ⟨z,rfl,?_,S1.ext.st2 (by omega) _ _⟩
   rw[hres.out] at hz
   exact hz.st2 S1.rr (by decide) _ _
  ·have hl0:0<y'.s.len:=by
    rcases Nat.eq_zero_or_pos y'.s.len with h | h
    ·exact absurd (hlz.1 h) hb
    ·exact h
   clear hlz
   go_wp2_with fail
   refine (div_any x' y' a' b' _ S.hx S.hy hb).mono ?_
   rintro e w1 ⟨q,r,rfl,hq,hr,h1⟩
   have S1:=S.keep h1
   clear c0 c1 c2 c3
   go_wp2
   obtain⟨W2,hW2⟩:∃ W2,W2=((w1.alloc (Obj.cells #[Value.bool q.n,Value.slice q.s.a q.s.len q.s.cap] 50)).alloc (Obj.cells #[Value.bool r.n,Value.slice r.s.a r.s.len r.s.cap] 50)).alloc (Obj.cells #[Value.int IntKind.i64 0,Value.int IntKind.i64 0] 27):=⟨_,rfl⟩
   have e12:Ext w1 W2:=by rw[hW2];exact (((Ext.rf _).al _).al _).al _
   have S2:=S1.keep e12
   have br:Box W2 (w1.heap.size+1) 50 (iv r):=by rw[hW2];exact (Box.new (by simp)).al _
   have hr2:=hr.keep e12
   rw[←hW2]
   have hz0:w.heap.size+1<w1.heap.size:=S1.bb.lt
   clear hW2 hq hr S h1 S1
   have hEnd:∀ W3,Ext W2 W3→EndSt [(w.heap.size,50),(w.heap.size+1,50)] w W2 W3:=fun W3 hW=>by
    refine⟨S2.ext.tr hW,.of hW,fun e he => ?_⟩
    simp only[List.mem_cons,List.not_mem_nil,or_false] at he
    rcases he with rfl | rfl
    ·exact⟨Nat.le_refl _,(S2.keep hW).ba.bx,by show 247≠50;decide⟩
    ·exact⟨by simp,(S2.keep hW).bb.bx,by show 247≠50;decide⟩
   refine wpG_begin (S:=(fun w'=>EndSt [(w.heap.size,50),(w.heap.size+1,50)] w W2 w'∧w'.cell? ⟨w1.heap.size+1,0,none⟩=some (Value.bool r.n)∧w'.cell? ⟨w1.heap.size+1,1,none⟩=some (Value.slice r.s.a r.s.len r.s.cap))) (fun _=>True) (fun w'=>w'.cell? ⟨w.heap.size+1,0,none⟩=some (Value.bool y'.n)∧w'.cell? ⟨w.heap.size+1,1,none⟩=some (Value.slice y'.s.a y'.s.len y'.s.cap)) 2 3 (by kernel_rfl) (fun W3 hW3 => ?_) (fun W3 hW3 hHeld => ?_)
   ·(have S3:=S2.keep hW3;obtain⟨c4,c5,f4,f5⟩:=S3.ba.facts;obtain⟨c6,c7,f6,f7⟩:=S3.bb.facts;obtain⟨r0,r1,-,-⟩:=(br.keep hW3).facts)
    (exact⟨⟨hEnd _ hW3,r0,r1⟩,trivial,c6,c7⟩)
   (have S3:=S2.keep hW3;obtain⟨c4,c5,f4,f5⟩:=S3.ba.facts;obtain⟨c6,c7,f6,f7⟩:=S3.bb.facts;obtain⟨r0,r1,-,-⟩:=(br.keep hW3).facts)
   refine wpG_takeB (i:=0) (oi:=_) (v:=?_) rfl (by kernel_rfl) (by kernel_rfl) (by kernel_rfl) (by decide) (by decide) (by kernel_rfl) (by kernel_rfl) (fun _ _ _ h=>h) (Or.inl ⟨by rfl,?_⟩) hHeld ?_
   rotate_left
   ·intro w hSw;(try dsimp only at hSw);go_simp;(try with_reducible rfl)
   (try simp only[putR])
   replace hHeld:=hHeld.more 0
   refine wpG_take (i:=1) (oi:=_) (v:=?_) rfl (by kernel_rfl) (by kernel_rfl) (by kernel_rfl) (by decide) (by decide) (fun _ _ _ h=>h) (Or.inl ⟨by rfl,?_⟩) hHeld ?_
   rotate_left
   ·intro w hSw;(try dsimp only at hSw);go_simp;(try with_reducible rfl)
   (try simp only[putR])
   replace hHeld:=hHeld.more 1
   refine wpG_step (i:=2) (o:=_) (by kernel_rfl) rfl (fun K hK => ?_)
   go_simp
   refine hK.out _ _ ⟨?_,notF (by kernel_rfl),fun _ => ?_⟩ (fun hHeld' => ?_)
   ·(try dsimp only)
    (first | (with_reducible exact trivial) | (with_reducible exact⟨hHeld.s.1.h1 _ _,cell_st2' hHeld.s.2.1 (by omega) _ _,cell_st2' hHeld.s.2.2 (by omega) _ _⟩) | (with_reducible exact⟨hHeld.s.1.h2 _ _,cell_st2' hHeld.s.2.1 (by omega) _ _,cell_st2' hHeld.s.2.2 (by omega) _ _⟩) | (with_reducible exact⟨cell_st2' (hHeld.b (by kernel_rfl)).1 (by omega) _ _,cell_st2' (hHeld.b (by kernel_rfl)).2 (by omega) _ _⟩))
   ·(try dsimp only)
    (first | (with_reducible exact trivial) | (with_reducible exact⟨hHeld.s.1.h1 _ _,cell_st2' hHeld.s.2.1 (by omega) _ _,cell_st2' hHeld.s.2.2 (by omega) _ _⟩) | (with_reducible exact⟨hHeld.s.1.h2 _ _,cell_st2' hHeld.s.2.1 (by omega) _ _,cell_st2' hHeld.s.2.2 (by omega) _ _⟩) | (with_reducible exact⟨cell_st2' (hHeld.b (by kernel_rfl)).1 (by omega) _ _,cell_st2' (hHeld.b (by kernel_rfl)).2 (by omega) _ _⟩))
   clear hHeld
   have hHeld:=hHeld'
   clear hHeld'
   clear hK K
   (try simp only[putR])
   refine wpG_step (i:=3) (o:=_) (by kernel_rfl) rfl (fun K hK => ?_)
   go_simp
   refine hK.out _ _ ⟨?_,notF (by kernel_rfl),notF (by kernel_rfl)⟩ (fun hHeld' => ?_)
   ·(try dsimp only)
    (first | (with_reducible exact trivial) | (with_reducible exact⟨hHeld.s.1.h1 _ _,cell_st2' hHeld.s.2.1 (by omega) _ _,cell_st2' hHeld.s.2.2 (by omega) _ _⟩) | (with_reducible exact⟨hHeld.s.1.h2 _ _,cell_st2' hHeld.s.2.1 (by omega) _ _,cell_st2' hHeld.s.2.2 (by omega) _ _⟩) | (with_reducible exact⟨cell_st2' (hHeld.b (by kernel_rfl)).1 (by omega) _ _,cell_st2' (hHeld.b (by kernel_rfl)).2 (by omega) _ _⟩))
   clear hHeld
   have hHeld:=hHeld'
   clear hHeld'
   clear hK K
   (try simp only[putR])
   refine wpG_done (by kernel_rfl) ?_ _
   go_wp2
   go_roundg ((a' % b').natAbs)
   case rel=>exact⟨y',r,b',a' % b',(S3.stA S3.hy).stB ((hr2.keep hW3).st2 S3.ba (by decide) _ _),by rw[gcd_step];exact hg.out,rfl⟩
   case measure =>
    have h1:=Int.emod_nonneg a' hb
    have h2:=Int.emod_lt a' hb
    omega
end Go.Proofs.YtkidkimjdiichaaGreat
