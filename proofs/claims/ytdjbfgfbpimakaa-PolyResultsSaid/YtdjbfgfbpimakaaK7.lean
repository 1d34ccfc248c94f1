/- Gcd: the walk. Small. The reference's ZText. NumReckons: the walk. A call's variables: which blocks they are, what they hold. The reference's ZOf, ZSmall. NumReads: the walk. Numbers in the small machine's words: what reads as a number, and contracts turned. Regions that draw their order: what the cells hold till a store comes; one operation 'append(own, more...)'. A region in whatever order whose new variables may come up at any time: the calls ahead of its stores are walked as if the others only made memory; behind them, the new variables lie in whatever new blocks. NumLaws: the walk. Bezout: plain laws. A number written and read. A call's variables, in no order of their blocks. Variables of four cells: fractions. The reference's ZAbs. -/
import Derived.Test.YtdjbfgfbpimakaaDivEx
import Derived.Deep.LoopGhost
import Derived.Test.YtdjbfgfbpimakaaTextx
import Derived.Test.YtdjbfgfbpimakaaK3
import Derived.Test.YtdjbfgfbpimakaaK6
import Derived.Test.YtdjbfgfbpimakaaK5
import Derived.Test.YtdjbfgfbpimakaaK1
section
namespace Go.Proofs.Ytdjbfgfbpimakaa
open Go.RowKit
theorem div_any (x y:IV) (a b:Int) (w:World) (hx:IsI w x a) (hy:IsI w y b) (hb:b≠0) :
  Calls Try.prog 68 #[.agg #[.bool x.n,.slice x.s.a x.s.len x.s.cap],.agg #[.bool y.n,.slice y.s.a y.s.len y.s.cap]] w (RetDiv w (a / b) (a % b) 0):=div_ok x y a b w hx hy hb
theorem wpG_begin {P:Program} {ops:Array Oper} {Q:Exit→Act→World→Prop} {S:World→Prop} {id:Nat} {a:Act} {w:World} (A B:World→Prop) (xa xb:Nat) (hm:P.follows .mixedOrders=true) (hS:∀ w',Ext w w'→S w'∧A w'∧B w')
  (h:∀ w',Ext w w'→Shows S A B xa xb (Array.replicate ops.size false) w'→wpG P .any ops Q S A B xa xb ops.size (Array.replicate ops.size false) a w'):(Code.region id ops true).wp P Q a w:=
 wpG_region A B xa xb hm (hS _ (Ext.rf w).dr) (h _ (Ext.rf w).dr)
structure GcdSt (w wc:World) (x y:IV) (a b:Int):Prop where
 ext:Ext w wc
 ba:Box wc w.heap.size 37 (iv x)
 bb:Box wc (w.heap.size+1) 37 (iv y)
 rr:Box wc (w.heap.size+1+1) 37 (iv zI)
 hx:IsI wc x a
 hy:IsI wc y b
section
variable {w wc w':World} {x y z:IV} {a b v:Int}
theorem GcdSt.keep (h:GcdSt w wc x y a b) (e:Ext wc w'):GcdSt w w' x y a b:=
 ⟨h.ext.tr e,h.ba.keep e,h.bb.keep e,h.rr.keep e,h.hx.keep e,h.hy.keep e⟩
theorem GcdSt.stA (h:GcdSt w wc x y a b) (hz:IsI wc z v) :
  GcdSt w ((wc.setCell ⟨w.heap.size,0,none⟩ (.bool z.n)).setCell ⟨w.heap.size,1,none⟩ (.slice z.s.a z.s.len z.s.cap)) z y v b:=
 ⟨h.ext.st2 (by omega) _ _,h.ba.set2 _ _,h.bb.far2 (by omega) _ _,h.rr.far2 (by omega) _ _,hz.st2 h.ba (by decide) _ _,h.hy.st2 h.ba (by decide) _ _⟩
theorem GcdSt.stB (h:GcdSt w wc x y a b) (hz:IsI wc z v) :
  GcdSt w ((wc.setCell ⟨w.heap.size+1,0,none⟩ (.bool z.n)).setCell ⟨w.heap.size+1,1,none⟩ (.slice z.s.a z.s.len z.s.cap)) x z a v:=
 ⟨h.ext.st2 (by omega) _ _,h.ba.far2 (by omega) _ _,h.bb.set2 _ _,h.rr.far2 (by omega) _ _,h.hx.st2 h.bb (by decide) _ _,hz.st2 h.bb (by decide) _ _⟩
theorem GcdSt.start (w:World) (hx:IsI w x a) (hy:IsI w y b) :
  GcdSt w (((w.alloc (Obj.cells (iv x) 37)).alloc (Obj.cells (iv y) 37)).alloc (Obj.cells (iv zI) 37)) x y a b:=by
 have e:Ext w (((w.alloc (Obj.cells (iv x) 37)).alloc (Obj.cells (iv y) 37)).alloc (Obj.cells (iv zI) 37)):=(((Ext.rf w).al _).al _).al _
 exact⟨e,((Box.new rfl).al _).al _,(Box.new (by simp)).al _,Box.new (by simp),hx.keep e,hy.keep e⟩
end
theorem len_zero_iff {w:World} {x:IV} {z:Int} (h:IsI w x z):x.s.len=0↔z=0:=by
 obtain⟨l,hl,hn,hd,_,hz,h0,_⟩:=h.open_
 have e:x.s.len=l.length:=hl.1.1
 rw[e,hz]
 constructor
 ·intro h
  rw[List.eq_nil_of_length_eq_zero h]
  unfold sg;split<;>simp[valL]
 ·intro h
  have:valL l=0:=by unfold sg at h;split at h<;>omega
  rw[(valL_eq_zero hd hn).1 this];rfl
theorem isI_abs {w:World} {x:IV} {z:Int} (h:IsI w x z):∃ l,IsL w x.s .u32 l∧sg false (valL l)=z.natAbs∧Sm (sg false (valL l)):=by
 obtain⟨l,hl,hn,hd,_,hz,h0,hs⟩:=h.open_
 have h1:=valL_nonneg hd
 have e:sg false (valL l)=z.natAbs:=by rw[hz,natAbs_sg,sg_false];omega
 exact⟨l,hl,e,by rw[e];exact hs.le (by omega)⟩
theorem gcd_step {a b:Int}:Int.gcd b (a % b)=Int.gcd a b:=by
 have e:=Int.mul_ediv_add_emod a b
 apply Nat.dvd_antisymm
 ·rw[←Int.natCast_dvd_natCast]
  have h1:=Int.gcd_dvd_left b (a % b)
  have h2:=Int.gcd_dvd_right b (a % b)
  refine Int.dvd_coe_gcd ?_ h1
  have h3:=Int.dvd_add (Int.dvd_mul_of_dvd_left (c:=a / b) h1) h2
  rwa[e] at h3
 ·rw[←Int.natCast_dvd_natCast]
  have h1:=Int.gcd_dvd_left a b
  have h2:=Int.gcd_dvd_right a b
  refine Int.dvd_coe_gcd h2 ?_
  rw[show a % b=a-b*(a / b) by omega]
  exact Int.dvd_sub h1 (Int.dvd_mul_of_dvd_left h2)
set_option maxRecDepth 100000 in
set_option maxHeartbeats 4000000 in
theorem gcd_any (x y:IV) (a b:Int) (w:World) (hx:IsI w x a) (hy:IsI w y b) :
  Calls Try.prog 67 #[.agg #[.bool x.n,.slice x.s.a x.s.len x.s.cap],.agg #[.bool y.n,.slice y.s.a y.s.len y.s.cap]] w (RetI w (Int.gcd a b)):=by
 have S0:=hd_ (GcdSt.start w hx hy)
 go_enter Try.func67,Try.ntmps67
 go_wp2
 go_loopg [8] b.natAbs (fun g s8 wr => ∃ (x' y':IV) (a' b':Int),GcdSt w wr x' y' a' b'∧Int.gcd a' b'=Int.gcd a b∧b'.natAbs=g)
 case atStart=>exact⟨_,_,_,_,S0.out,rfl,rfl⟩
 case round =>
  clear S0 hx hy
  obtain⟨x',y',a',b',S,hg,rfl⟩:=hrel
  replace hg:=hd_ hg
  obtain⟨c0,c1,-,-⟩:=S.ba.facts
  obtain⟨c2,c3,-,-⟩:=S.bb.facts
  have hlz:=len_zero_iff S.hy
  by_cases hb:b'=0
  ·have hl0:y'.s.len=0:=hlz.2 hb
   obtain⟨l,hl,hlv,hls⟩:=isI_abs S.hx
   have hres:Hd (sg false (valL l)=Int.gcd a b):=hd_ (by rw[hlv,←hg.out,hb];simp)
   replace hlv:=hd_ hlv
   clear hlz
   replace hb:=hd_ hb
   go_wp2_with fail
   refine (made_any false x'.s l _ hl hls).mono ?_
   rintro e w1 ⟨z,rfl,hz,h1⟩
   have S1:=S.keep h1
   obtain⟨d0,d1,d2,d3⟩:=S1.rr.facts
   clear c0 c1 c2 c3
   go_wp2
   refine bodyPost_ret (v:=.agg #[.bool z.n,.slice z.s.a z.s.len z.s.cap]) (by simp[results,Try.results67,go_sem,d0,d1]) rfl ⟨z,rfl,?_,S1.ext.st2 (by omega) _ _⟩
   rw[hres.out] at hz
   exact hz.st2 S1.rr (by decide) _ _
  ·have hl0:0<y'.s.len:=by
    rcases Nat.eq_zero_or_pos y'.s.len with h | h
    ·exact absurd (hlz.1 h) hb
    ·exact h
   clear hlz
   go_wp2_with fail
   refine (div_any x' y' a' b' _ S.hx S.hy hb).mono ?_
   rintro e w1 ⟨q,r,rfl,hq,hr,h1⟩
   have S1:=S.keep h1
   clear c0 c1 c2 c3
   go_wp2
   obtain⟨W2,hW2⟩:∃ W2,W2=((w1.alloc (Obj.cells #[Value.bool q.n,Value.slice q.s.a q.s.len q.s.cap] 37)).alloc (Obj.cells #[Value.bool r.n,Value.slice r.s.a r.s.len r.s.cap] 37)).alloc (Obj.cells #[Value.int IntKind.i64 0,Value.int IntKind.i64 0] 27):=⟨_,rfl⟩
   have e12:Ext w1 W2:=by rw[hW2];exact (((Ext.rf _).al _).al _).al _
   have S2:=S1.keep e12
   have br:Box W2 (w1.heap.size+1) 37 (iv r):=by rw[hW2];exact (Box.new (by simp)).al _
   have hr2:=hr.keep e12
   rw[←hW2]
   have hz0:w.heap.size+1<w1.heap.size:=S1.bb.lt
   clear hW2 hq hr S h1 S1
   have hEnd:∀ W3,Ext W2 W3→EndSt [(w.heap.size,37),(w.heap.size+1,37)] w W2 W3:=fun W3 hW=>by
    refine⟨S2.ext.tr hW,.of hW,fun e he => ?_⟩
    simp only[List.mem_cons,List.not_mem_nil,or_false] at he
    rcases he with rfl | rfl
    ·exact⟨Nat.le_refl _,(S2.keep hW).ba.bx,by show 116≠37;decide⟩
    ·exact⟨by simp,(S2.keep hW).bb.bx,by show 116≠37;decide⟩
   refine wpG_begin (S:=(fun w'=>EndSt [(w.heap.size,37),(w.heap.size+1,37)] w W2 w'∧w'.cell? ⟨w1.heap.size+1,0,none⟩=some (Value.bool r.n)∧w'.cell? ⟨w1.heap.size+1,1,none⟩=some (Value.slice r.s.a r.s.len r.s.cap))) (fun _=>True) (fun w'=>w'.cell? ⟨w.heap.size+1,0,none⟩=some (Value.bool y'.n)∧w'.cell? ⟨w.heap.size+1,1,none⟩=some (Value.slice y'.s.a y'.s.len y'.s.cap)) 2 3 (by kernel_rfl) (fun W3 hW3 => ?_) (fun W3 hW3 hHeld => ?_)
   ·(have S3:=S2.keep hW3;obtain⟨c4,c5,f4,f5⟩:=S3.ba.facts;obtain⟨c6,c7,f6,f7⟩:=S3.bb.facts;obtain⟨r0,r1,-,-⟩:=(br.keep hW3).facts)
    (exact⟨⟨hEnd _ hW3,r0,r1⟩,trivial,c6,c7⟩)
   (have S3:=S2.keep hW3;obtain⟨c4,c5,f4,f5⟩:=S3.ba.facts;obtain⟨c6,c7,f6,f7⟩:=S3.bb.facts;obtain⟨r0,r1,-,-⟩:=(br.keep hW3).facts)
   refine wpG_takeB (i:=0) (oi:=_) (v:=?_) rfl (by kernel_rfl) (by kernel_rfl) (by kernel_rfl) (by decide) (by decide) (by kernel_rfl) (by kernel_rfl) (fun _ _ _ h=>h) (Or.inl ⟨by rfl,?_⟩) hHeld ?_
   rotate_left
   ·intro w hSw;(try dsimp only at hSw);go_simp;(try with_reducible rfl)
   (try simp only[putR])
   replace hHeld:=hHeld.more 0
   refine wpG_take (i:=1) (oi:=_) (v:=?_) rfl (by kernel_rfl) (by kernel_rfl) (by kernel_rfl) (by decide) (by decide) (fun _ _ _ h=>h) (Or.inl ⟨by rfl,?_⟩) hHeld ?_
   rotate_left
   ·intro w hSw;(try dsimp only at hSw);go_simp;(try with_reducible rfl)
   (try simp only[putR])
   replace hHeld:=hHeld.more 1
   refine wpG_step (i:=2) (o:=_) (by kernel_rfl) rfl (fun K hK => ?_)
   go_simp
   refine hK.out _ _ ⟨?_,notF (by kernel_rfl),fun _ => ?_⟩ (fun hHeld' => ?_)
   ·(try dsimp only)
    (first | (with_reducible exact trivial) | (with_reducible exact⟨hHeld.s.1.h1 _ _,cell_st2' hHeld.s.2.1 (by omega) _ _,cell_st2' hHeld.s.2.2 (by omega) _ _⟩) | (with_reducible exact⟨hHeld.s.1.h2 _ _,cell_st2' hHeld.s.2.1 (by omega) _ _,cell_st2' hHeld.s.2.2 (by omega) _ _⟩) | (with_reducible exact⟨cell_st2' (hHeld.b (by kernel_rfl)).1 (by omega) _ _,cell_st2' (hHeld.b (by kernel_rfl)).2 (by omega) _ _⟩))
   ·(try dsimp only)
    (first | (with_reducible exact trivial) | (with_reducible exact⟨hHeld.s.1.h1 _ _,cell_st2' hHeld.s.2.1 (by omega) _ _,cell_st2' hHeld.s.2.2 (by omega) _ _⟩) | (with_reducible exact⟨hHeld.s.1.h2 _ _,cell_st2' hHeld.s.2.1 (by omega) _ _,cell_st2' hHeld.s.2.2 (by omega) _ _⟩) | (with_reducible exact⟨cell_st2' (hHeld.b (by kernel_rfl)).1 (by omega) _ _,cell_st2' (hHeld.b (by kernel_rfl)).2 (by omega) _ _⟩))
   clear hHeld
   have hHeld:=hHeld'
   clear hHeld'
   clear hK K
   (try simp only[putR])
   refine wpG_step (i:=3) (o:=_) (by kernel_rfl) rfl (fun K hK => ?_)
   go_simp
   refine hK.out _ _ ⟨?_,notF (by kernel_rfl),notF (by kernel_rfl)⟩ (fun hHeld' => ?_)
   ·(try dsimp only)
    (first | (with_reducible exact trivial) | (with_reducible exact⟨hHeld.s.1.h1 _ _,cell_st2' hHeld.s.2.1 (by omega) _ _,cell_st2' hHeld.s.2.2 (by omega) _ _⟩) | (with_reducible exact⟨hHeld.s.1.h2 _ _,cell_st2' hHeld.s.2.1 (by omega) _ _,cell_st2' hHeld.s.2.2 (by omega) _ _⟩) | (with_reducible exact⟨cell_st2' (hHeld.b (by kernel_rfl)).1 (by omega) _ _,cell_st2' (hHeld.b (by kernel_rfl)).2 (by omega) _ _⟩))
   clear hHeld
   have hHeld:=hHeld'
   clear hHeld'
   clear hK K
   (try simp only[putR])
   refine wpG_done (by kernel_rfl) ?_ _
   go_wp2
   go_roundg ((a' % b').natAbs)
   case rel=>exact⟨y',r,b',a' % b',(S3.stA S3.hy).stB ((hr2.keep hW3).st2 S3.ba (by decide) _ _),by rw[gcd_step];exact hg.out,rfl⟩
   case measure =>
    have h1:=Int.emod_nonneg a' hb
    have h2:=Int.emod_lt a' hb
    omega
end Go.Proofs.Ytdjbfgfbpimakaa
end

section
namespace Go.Proofs.Ytdjbfgfbpimakaa
open Go.RowKit
end Go.Proofs.Ytdjbfgfbpimakaa
end

section
namespace Go.Proofs.Ytdjbfgfbpimakaa.Z4
open Go.RowKit
def pad4 (d:Nat):List UInt8:=[dch (d / 1000),dch (d / 100 % 10),dch (d / 10 % 10),dch (d % 10)]
theorem rdec_4 {d q:Nat} (h:d<10000) (hq:0<q):rdec (d+10000*q)=(pad4 d).reverse++rdec q:=by
 rw[rdec_pos (by omega),rdec_pos (by omega),rdec_pos (by omega),rdec_pos (by omega)]
 unfold pad4
 simp only[List.reverse_cons,List.reverse_nil,List.nil_append,List.cons_append]
 rw[show (d+10000*q) % 10=d % 10 by omega,show (d+10000*q) / 10 % 10=d / 10 % 10 by omega,show (d+10000*q) / 10 / 10 % 10=d / 100 % 10 by omega,show (d+10000*q) / 10 / 10 / 10 % 10=d / 1000 by omega,show (d+10000*q) / 10 / 10 / 10 / 10=q by omega]
def lead4 (d:Nat):Nat:=if 1000≤d then 0 else if 100≤d then 1 else if 10≤d then 2 else 3
theorem rdec_top {d:Nat} (h:d<10000) (h0:0<d):(rdec d).reverse=(pad4 d).drop (lead4 d):=by
 unfold lead4 pad4
 split
 ·rw[rdec_pos (by omega),rdec_pos (by omega),rdec_pos (by omega),rdec_pos (by omega),show d / 10 / 10 / 10 / 10=0 by omega,rdec_zero,show d / 10 / 10 / 10 % 10=d / 1000 by omega,show d / 10 / 10 % 10=d / 100 % 10 by omega]
  rfl
 ·split
  ·rw[rdec_pos (by omega),rdec_pos (by omega),rdec_pos (by omega),show d / 10 / 10 / 10=0 by omega,rdec_zero,show d / 10 / 10 % 10=d / 100 % 10 by omega]
   rfl
  ·split
   ·rw[rdec_pos (by omega),rdec_pos (by omega),show d / 10 / 10=0 by omega,rdec_zero]
    rfl
   ·rw[rdec_pos (by omega),show d / 10=0 by omega,rdec_zero]
    rfl
theorem byt_pad4 {d:Nat} (h:d<10000):byt (pad4 d) 0=48+d / 1000∧byt (pad4 d) 1=48+d / 100 % 10∧byt (pad4 d) 2=48+d / 10 % 10∧byt (pad4 d) 3=48+d % 10:=by
 unfold pad4
 refine⟨?_,?_,?_,?_⟩<;>simp only[byt_cons_zero,byt_cons_succ]<;>exact dch_toNat (by omega)
theorem lead4_le (d:Nat):lead4 d≤3:=by unfold lead4;(repeat' split)<;>omega
theorem lead4_before {d j:Nat} (h:d<10000) (hj:j<lead4 d):byt (pad4 d) j=48:=by
 obtain⟨h0,h1,h2,h3⟩:=byt_pad4 h
 unfold lead4 at hj
 split at hj
 ·omega
 ·split at hj
  ·obtain rfl:j=0:=by omega
   rw[h0];omega
  ·split at hj
   ·rcases (show j=0∨j=1 by omega) with rfl | rfl
    ·rw[h0];omega
    ·rw[h1];omega
   ·rcases (show j=0∨j=1∨j=2 by omega) with rfl | rfl | rfl
    ·rw[h0];omega
    ·rw[h1];omega
    ·rw[h2];omega
theorem lead4_at {d:Nat} (h:d<10000) (hl:lead4 d<3):byt (pad4 d) (lead4 d)≠48:=by
 obtain⟨h0,h1,h2,h3⟩:=byt_pad4 h
 unfold lead4 at *
 split
 ·rw[h0];omega
 ·split
  ·rw[h1];omega
  ·split
   ·rw[h2];omega
   ·rename_i h1 h2 h3;rw[if_neg h1,if_neg h2,if_neg h3] at hl;omega
theorem valL_drop {l:List Int} {k:Nat} (h:k<l.length):valL (l.drop k)=at_ l k+10000*valL (l.drop (k+1)):=by
 rw[List.drop_eq_getElem_cons h,valL,at_lt h]
theorem pad_cells {d:Nat} (h:d<10000):IntKind.i64.wrap ((d:Int) / 1000)=(d:Int) / 1000∧IntKind.i64.wrap (48+(d:Int) / 1000)=48+(d:Int) / 1000∧IntKind.u8.wrap (48+(d:Int) / 1000)=((byt (pad4 d) 0:Nat):Int) ∧
  IntKind.i64.wrap ((d:Int) / 100)=(d:Int) / 100∧((d:Int) / 100).tmod 10=(d:Int) / 100 % 10∧IntKind.i64.wrap (48+(d:Int) / 100 % 10)=48+(d:Int) / 100 % 10∧IntKind.u8.wrap (48+(d:Int) / 100 % 10)=((byt (pad4 d) 1:Nat):Int) ∧
  IntKind.i64.wrap ((d:Int) / 10)=(d:Int) / 10∧((d:Int) / 10).tmod 10=(d:Int) / 10 % 10∧IntKind.i64.wrap (48+(d:Int) / 10 % 10)=48+(d:Int) / 10 % 10∧IntKind.u8.wrap (48+(d:Int) / 10 % 10)=((byt (pad4 d) 2:Nat):Int) ∧
  (d:Int).tmod 10=(d:Int) % 10∧IntKind.i64.wrap (48+(d:Int) % 10)=48+(d:Int) % 10∧IntKind.u8.wrap (48+(d:Int) % 10)=((byt (pad4 d) 3:Nat):Int):=by
 obtain⟨h0,h1,h2,h3⟩:=byt_pad4 h
 rw[h0,h1,h2,h3]
 rw[Int.tmod_eq_emod_of_nonneg (by omega),Int.tmod_eq_emod_of_nonneg (by omega),Int.tmod_eq_emod_of_nonneg (by omega)]
 refine⟨IntWalk.i64_in _ (by omega),IntWalk.i64_in _ (by omega),(IntWalk.u8_in _ (by omega)).trans (by omega),IntWalk.i64_in _ (by omega),rfl,IntWalk.i64_in _ (by omega),(IntWalk.u8_in _ (by omega)).trans (by omega),IntWalk.i64_in _ (by omega),rfl,IntWalk.i64_in _ (by omega),(IntWalk.u8_in _ (by omega)).trans (by omega),rfl,IntWalk.i64_in _ (by omega),(IntWalk.u8_in _ (by omega)).trans (by omega)⟩
theorem nums_pad {d:Nat}:nums (pad4 d)=[((byt (pad4 d) 0:Nat):Int),((byt (pad4 d) 1:Nat):Int),((byt (pad4 d) 2:Nat):Int),((byt (pad4 d) 3:Nat):Int)]:=rfl
theorem pad4_length (d:Nat):(pad4 d).length=4:=rfl
theorem text_str {P:Program} {w:World} {b d f:Nat} {src dst:TypeId} (h:Own w b (ET .u8) .u8 (nums (pad4 d))) (hf:f≤3) (hs:P.underlying src=some (.slice (ET .u8))) (he:P.underlying (ET .u8)=some (.int .u8)) (hd:P.underlying dst=some .string) (cap:Nat) :
  (convert src dst (.slice (some ⟨b,f,none⟩) (4-f) cap)).run P w = .ok (.string (bs ((pad4 d).drop f))) w:=by
 have:=run_convert_bytes_arg (P:=P) w src (ET .u8) hs he b f (4-f) cap (nums ((pad4 d).drop f)) (by simp[pad4_length]) (fun i hi=>by
  rw[h.cell (i:=f+i) (by simp[pad4_length];omega),at_nums,←byt_drop,←at_nums];rfl) dst hd
 rw[strOfNums_nums] at this
 exact this
set_option maxRecDepth 100000 in
set_option maxHeartbeats 1000000 in
theorem text_any (x:IV) (z:Int) (w:World) (h:IsZ w x z) :
  Calls Try.prog 46 #[.agg #[.bool x.n,.slice x.s.a x.s.len x.s.cap]] w (fun e w'=>e = .returned (.string (bs (dec z)))∧Ext w w'):=by
 obtain⟨la,hla,na,da,hlea,hza,h0a,hsa⟩:=h.open_
 obtain⟨nx,sx⟩:=x
 have he0:=(Ext.rf w).al (Obj.cells #[Value.bool nx,Value.slice sx.a sx.len sx.cap] 45)
 obtain⟨ao,cap,rfl,hcap,hcm,hop⟩:=hla.open_
 by_cases hl0:la.length=0
 ·have HD:Hd (dec z=[48]):=hd_ (by
   have e:=List.eq_nil_of_length_eq_zero hl0
   have:=h0a e
   simp only at this
   subst this
   rw[hza,e]
   rfl)
  have hlb:((la.length:Int) == 0)=true:=by rw[beq_iff_eq];omega
  clear hla na da hlea hza h0a hsa hl0 hop
  go_enter Try.func46,Try.ntmps46
  go_wp2
  go_ret
  exact⟨by rw[HD.out];rfl,(Ext.rf _).al _⟩
 ·have hlb:((la.length:Int) == 0)=false:=by rw[beq_eq_false_iff_ne];omega
  have htop:Hd (at_ la (la.length-1)≠0):=hd_ (na.resolve_left (fun e=>hl0 (by rw[e];rfl)))
  have hvp:0<valL la:=valL_pos' da na (fun e=>hl0 (by rw[e];rfl))
  obtain⟨N,hN⟩:=Int.eq_ofNat_of_zero_le (Int.le_of_lt hvp)
  have hNp:0<N:=by omega
  have HD:Hd (dec z=(if nx then [45] else [])++(rdec N).reverse):=hd_ (by
   rw[hza,hN]
   unfold dec decN sg
   cases nx
   ·simp only[Bool.false_eq_true,if_false]
    rw[if_neg (by omega),if_neg (by omega)]
    simp
   ·simp only[if_true]
    rw[if_pos (by omega),if_neg (by omega)]
    simp)
  replace hN:=hd_ hN
  have hlp:0<la.length:=by omega
  clear hla na hza h0a hsa hl0 hvp
  cases nx
  ·go_enter Try.func46,Try.ntmps46
   go_wp2
   go_loopw [3,4] (fun tv i wr => ∃ (k:Nat) (L:List UInt8) (q:Nat),tv = .string (bs (([]:List UInt8)++L))∧i = .int .i64 ((k:Int)-1)∧k≤la.length∧L=(rdec q).reverse∧valL (la.drop k)=q∧L.length≤4*(la.length-k)∧Ext (w.alloc (Obj.cells #[Value.bool false,Value.slice ao la.length cap] 45)) wr) (fun _ i _=>(intOf i+1).toNat)
   case atStart=>exact⟨la.length,[],0,rfl,rfl,Nat.le_refl _,by rw[rdec_zero];rfl,by simp[valL],by simp,Ext.rf _⟩
   case round =>
    obtain⟨k,L,q,rfl,rfl,hk,hL,hq,hLl,hx⟩:=hrel
    replace hL:=hd_ hL
    replace hq:=hd_ hq
    match k,hk,hq,hLl with
    | 0,hk,hq,hLl =>
     have hfin:Hd (L=(rdec N).reverse):=hd_ (by
      have h1:=hq.out
      rw[List.drop_zero,hN.out] at h1
      rw[hL.out,show N=q by omega])
     clear hq
     go_wp2
     go_ret
     exact⟨ret_s (by rw[HD.out,hfin.out];rfl),he0.tr hx⟩
    | k+1,hk,hq,hLl =>
     rw[show ((k+1:Nat):Int)-1=(k:Int) by omega]
     obtain⟨ba,oa,rfl,hba,ga⟩:=hop hlp
     have hbl:=hba.lt
     have ga:=(hx.cell (p:=⟨ba,oa+k,none⟩) (by simp;omega)).trans ((he0.cell (p:=⟨ba,oa+k,none⟩) hbl).trans (ga k hk))
     have fa:=da.at_ k
     obtain⟨d,hd⟩:=Int.eq_ofNat_of_zero_le fa.1
     rw[hd] at ga fa
     have hd4:d<10000:=by omega
     have hkl:(k:Int)<la.length:=by omega
     clear fa
     replace hd:=hd_ hd
     obtain⟨hc1,hf1⟩:=bcell hx
     have hsz:=hx.size
     simp only[World.size_alloc] at hsz
     have hb1:wr.cell? ⟨w.heap.size,1,none⟩=some (Value.slice (some ⟨ba,oa,none⟩) la.length cap):=(hc1 _ _ (by simp)).trans (by simp)
     clear hc1 hf1
     go_wp2
     go_region_held3 (fun w'=>w'.cell? ⟨w.heap.size,1,none⟩=some (Value.slice (some ⟨ba,oa,none⟩) la.length cap)∧w'.cell? ⟨ba,oa+k,none⟩=some (.int .i64 (d:Int))) (go_keep) (fail)
     go_wp2
     obtain⟨e0,e1,e2,e3,e4,e5,e6,e7,e8,e9,e10,e11,e12,e13⟩:=pad_cells hd4
     simp only[e0,e1,e2,e3,e4,e5,e6,e7,e8,e9,e10,e11,e12,e13]
     clear e0 e1 e2 e3 e4 e5 e6 e7 e8 e9 e10 e11 e12 e13
     have hOw:Own (wr.alloc (Obj.cells #[Value.int .u8 ((byt (pad4 d) 0:Nat):Int),Value.int .u8 ((byt (pad4 d) 1:Nat):Int),Value.int .u8 ((byt (pad4 d) 2:Nat):Int),Value.int .u8 ((byt (pad4 d) 3:Nat):Int)] 5)).drew wr.heap.size (ET .u8) .u8 (nums (pad4 d)):=(Own.new rfl (by rw[nums_pad];rfl)).dr
     have hE4:Ext wr (wr.alloc (Obj.cells #[Value.int .u8 ((byt (pad4 d) 0:Nat):Int),Value.int .u8 ((byt (pad4 d) 1:Nat):Int),Value.int .u8 ((byt (pad4 d) 2:Nat):Int),Value.int .u8 ((byt (pad4 d) 3:Nat):Int)] 5)).drew:=((Ext.rf wr).al _).dr
     have hb2:=(hE4.cell (p:=⟨w.heap.size,1,none⟩) (by show w.heap.size<_;omega)).trans hb1
     generalize (wr.alloc (Obj.cells #[Value.int .u8 ((byt (pad4 d) 0:Nat):Int),Value.int .u8 ((byt (pad4 d) 1:Nat):Int),Value.int .u8 ((byt (pad4 d) 2:Nat):Int),Value.int .u8 ((byt (pad4 d) 3:Nat):Int)] 5)).drew=w4 at *
     replace hx:=hx.tr hE4
     clear ga hb1
     have hq2:Hd (valL (la.drop k)=((d+10000*q:Nat):Int)):=hd_ (by rw[valL_drop hk,hd.out,hq.out];omega)
     have hl4:=lead4_le d
     have hp4:=pad4_length d
     by_cases hkt:k+1=la.length
     ·have hkb:((k:Int) == (la.length:Int)-1)=true:=by rw[beq_iff_eq];omega
      have hq0:q=0:=by have:=hq.out;rw[List.drop_of_length_le (by omega)] at this;simp[valL] at this;omega
      have hdp:0<d:=by have h1:=htop.out;rw[show la.length-1=k by omega,hd.out] at h1;omega
      have hLf:Hd (L++(pad4 d).drop (lead4 d)=(rdec (d+10000*q)).reverse):=hd_ (by rw[hL.out,hq0,rdec_zero,←rdec_top hd4 hdp];rfl)
      replace hkt:=hd_ hkt
      replace hq0:=hd_ hq0
      go_loop [6] (fun fr => ∃ f:Nat,fr = .int .i64 f∧f≤lead4 d) (fun fr=>lead4 d-(intOf fr).toNat)
      case atStart=>exact⟨0,rfl,Nat.zero_le _⟩
      case round =>
       obtain⟨f,rfl,hf⟩:=hrel
       have gc:=hOw.cell (i:=f) (by simp[pad4_length];omega)
       rw[at_nums] at gc
       by_cases hfl:f<lead4 d
       ·have hbf:((byt (pad4 d) f:Int) == 48)=true:=by rw[beq_iff_eq];have:=lead4_before hd4 hfl;omega
        have hf3:f<3:=by omega
        go_wp2
        go_round
        case rel=>exact⟨f+1,by go_num,by omega⟩
        case measure=>first | (simp[intOf];done) | (simp[intOf];omega)
       ·have hfe:f=lead4 d:=by omega
        have hcv:=text_str (P:=Try.prog) (f:=f) (src:=118) (dst:=9) hOw (by omega) Try.underlying118 Try.underlying5 Try.underlying9 (4-f)
        rw[←hfe] at hLf
        by_cases hf3:f<3
        ·have hbf:((byt (pad4 d) f:Int) == 48)=false:=by rw[beq_eq_false_iff_ne];have:=lead4_at hd4 (by omega);rw[←hfe] at this;omega
         replace hfe:=hd_ hfe
         clear hfl
         go_wp2
         go_roundw
         case rel=>exact⟨k,L++(pad4 d).drop f,d+10000*q,by simp,rfl,by omega,hLf.out,hq2.out,by rw[List.length_append,List.length_drop,pad4_length];omega,hx⟩
         case measure=>first | (simp[intOf];done) | (simp[intOf];omega)
        ·obtain rfl:f=3:=by omega
         replace hfe:=hd_ hfe
         clear hfl
         go_wp2
         go_roundw
         case rel=>exact⟨k,L++(pad4 d).drop 3,d+10000*q,by simp,rfl,by omega,hLf.out,hq2.out,by rw[List.length_append,List.length_drop,pad4_length];omega,hx⟩
         case measure=>first | (simp[intOf];done) | (simp[intOf];omega)
     ·have hkb:((k:Int) == (la.length:Int)-1)=false:=by rw[beq_eq_false_iff_ne];omega
      have hqp:0<q:=by
       have h1:=valL_pos (l:=la.drop (k+1)) (fun x hx=>da x (List.mem_of_mem_drop hx)) (i:=la.length-1-(k+1)) (by
        have h2:=htop.out
        simp only[at_,List.getD_eq_getElem?_getD,List.getElem?_drop] at h2 ⊢
        rw[show k+1+(la.length-1-(k+1))=la.length-1 by omega]
        exact h2)
       rw[hq.out] at h1
       omega
      have hLf:Hd (L++(pad4 d).drop 0=(rdec (d+10000*q)).reverse):=hd_ (by rw[hL.out,rdec_4 hd4 hqp];simp)
      have hcv:=text_str (P:=Try.prog) (f:=0) (src:=118) (dst:=9) hOw (by omega) Try.underlying118 Try.underlying5 Try.underlying9 4
      replace hqp:=hd_ hqp
      go_loop [6] (fun fr=>fr = .int .i64 0) (fun _=>0)
      case atStart=>rfl
      case round =>
       subst hrel
       go_wp2
       go_roundw
       case rel=>exact⟨k,L++(pad4 d).drop 0,d+10000*q,by simp,rfl,by omega,hLf.out,hq2.out,by rw[List.length_append,List.length_drop,pad4_length];omega,hx⟩
       case measure=>first | (simp[intOf];done) | (simp[intOf];omega)
  ·go_enter Try.func46,Try.ntmps46
   go_wp2
   go_loopw [3,4] (fun tv i wr => ∃ (k:Nat) (L:List UInt8) (q:Nat),tv = .string (bs (([45]:List UInt8)++L))∧i = .int .i64 ((k:Int)-1)∧k≤la.length∧L=(rdec q).reverse∧valL (la.drop k)=q∧L.length≤4*(la.length-k)∧Ext (w.alloc (Obj.cells #[Value.bool true,Value.slice ao la.length cap] 45)) wr) (fun _ i _=>(intOf i+1).toNat)
   case atStart=>exact⟨la.length,[],0,rfl,rfl,Nat.le_refl _,by rw[rdec_zero];rfl,by simp[valL],by simp,Ext.rf _⟩
   case round =>
    obtain⟨k,L,q,rfl,rfl,hk,hL,hq,hLl,hx⟩:=hrel
    replace hL:=hd_ hL
    replace hq:=hd_ hq
    match k,hk,hq,hLl with
    | 0,hk,hq,hLl =>
     have hfin:Hd (L=(rdec N).reverse):=hd_ (by
      have h1:=hq.out
      rw[List.drop_zero,hN.out] at h1
      rw[hL.out,show N=q by omega])
     clear hq
     go_wp2
     go_ret
     exact⟨ret_s (by rw[HD.out,hfin.out];rfl),he0.tr hx⟩
    | k+1,hk,hq,hLl =>
     rw[show ((k+1:Nat):Int)-1=(k:Int) by omega]
     obtain⟨ba,oa,rfl,hba,ga⟩:=hop hlp
     have hbl:=hba.lt
     have ga:=(hx.cell (p:=⟨ba,oa+k,none⟩) (by simp;omega)).trans ((he0.cell (p:=⟨ba,oa+k,none⟩) hbl).trans (ga k hk))
     have fa:=da.at_ k
     obtain⟨d,hd⟩:=Int.eq_ofNat_of_zero_le fa.1
     rw[hd] at ga fa
     have hd4:d<10000:=by omega
     have hkl:(k:Int)<la.length:=by omega
     clear fa
     replace hd:=hd_ hd
     obtain⟨hc1,hf1⟩:=bcell hx
     have hsz:=hx.size
     simp only[World.size_alloc] at hsz
     have hb1:wr.cell? ⟨w.heap.size,1,none⟩=some (Value.slice (some ⟨ba,oa,none⟩) la.length cap):=(hc1 _ _ (by simp)).trans (by simp)
     clear hc1 hf1
     go_wp2
     go_region_held3 (fun w'=>w'.cell? ⟨w.heap.size,1,none⟩=some (Value.slice (some ⟨ba,oa,none⟩) la.length cap)∧w'.cell? ⟨ba,oa+k,none⟩=some (.int .i64 (d:Int))) (go_keep) (fail)
     go_wp2
     obtain⟨e0,e1,e2,e3,e4,e5,e6,e7,e8,e9,e10,e11,e12,e13⟩:=pad_cells hd4
     simp only[e0,e1,e2,e3,e4,e5,e6,e7,e8,e9,e10,e11,e12,e13]
     clear e0 e1 e2 e3 e4 e5 e6 e7 e8 e9 e10 e11 e12 e13
     have hOw:Own (wr.alloc (Obj.cells #[Value.int .u8 ((byt (pad4 d) 0:Nat):Int),Value.int .u8 ((byt (pad4 d) 1:Nat):Int),Value.int .u8 ((byt (pad4 d) 2:Nat):Int),Value.int .u8 ((byt (pad4 d) 3:Nat):Int)] 5)).drew wr.heap.size (ET .u8) .u8 (nums (pad4 d)):=(Own.new rfl (by rw[nums_pad];rfl)).dr
     have hE4:Ext wr (wr.alloc (Obj.cells #[Value.int .u8 ((byt (pad4 d) 0:Nat):Int),Value.int .u8 ((byt (pad4 d) 1:Nat):Int),Value.int .u8 ((byt (pad4 d) 2:Nat):Int),Value.int .u8 ((byt (pad4 d) 3:Nat):Int)] 5)).drew:=((Ext.rf wr).al _).dr
     have hb2:=(hE4.cell (p:=⟨w.heap.size,1,none⟩) (by show w.heap.size<_;omega)).trans hb1
     generalize (wr.alloc (Obj.cells #[Value.int .u8 ((byt (pad4 d) 0:Nat):Int),Value.int .u8 ((byt (pad4 d) 1:Nat):Int),Value.int .u8 ((byt (pad4 d) 2:Nat):Int),Value.int .u8 ((byt (pad4 d) 3:Nat):Int)] 5)).drew=w4 at *
     replace hx:=hx.tr hE4
     clear ga hb1
     have hq2:Hd (valL (la.drop k)=((d+10000*q:Nat):Int)):=hd_ (by rw[valL_drop hk,hd.out,hq.out];omega)
     have hl4:=lead4_le d
     have hp4:=pad4_length d
     by_cases hkt:k+1=la.length
     ·have hkb:((k:Int) == (la.length:Int)-1)=true:=by rw[beq_iff_eq];omega
      have hq0:q=0:=by have:=hq.out;rw[List.drop_of_length_le (by omega)] at this;simp[valL] at this;omega
      have hdp:0<d:=by have h1:=htop.out;rw[show la.length-1=k by omega,hd.out] at h1;omega
      have hLf:Hd (L++(pad4 d).drop (lead4 d)=(rdec (d+10000*q)).reverse):=hd_ (by rw[hL.out,hq0,rdec_zero,←rdec_top hd4 hdp];rfl)
      replace hkt:=hd_ hkt
      replace hq0:=hd_ hq0
      go_loop [6] (fun fr => ∃ f:Nat,fr = .int .i64 f∧f≤lead4 d) (fun fr=>lead4 d-(intOf fr).toNat)
      case atStart=>exact⟨0,rfl,Nat.zero_le _⟩
      case round =>
       obtain⟨f,rfl,hf⟩:=hrel
       have gc:=hOw.cell (i:=f) (by simp[pad4_length];omega)
       rw[at_nums] at gc
       by_cases hfl:f<lead4 d
       ·have hbf:((byt (pad4 d) f:Int) == 48)=true:=by rw[beq_iff_eq];have:=lead4_before hd4 hfl;omega
        have hf3:f<3:=by omega
        go_wp2
        go_round
        case rel=>exact⟨f+1,by go_num,by omega⟩
        case measure=>first | (simp[intOf];done) | (simp[intOf];omega)
       ·have hfe:f=lead4 d:=by omega
        have hcv:=text_str (P:=Try.prog) (f:=f) (src:=118) (dst:=9) hOw (by omega) Try.underlying118 Try.underlying5 Try.underlying9 (4-f)
        rw[←hfe] at hLf
        by_cases hf3:f<3
        ·have hbf:((byt (pad4 d) f:Int) == 48)=false:=by rw[beq_eq_false_iff_ne];have:=lead4_at hd4 (by omega);rw[←hfe] at this;omega
         replace hfe:=hd_ hfe
         clear hfl
         go_wp2
         go_roundw
         case rel=>exact⟨k,L++(pad4 d).drop f,d+10000*q,by simp,rfl,by omega,hLf.out,hq2.out,by rw[List.length_append,List.length_drop,pad4_length];omega,hx⟩
         case measure=>first | (simp[intOf];done) | (simp[intOf];omega)
        ·obtain rfl:f=3:=by omega
         replace hfe:=hd_ hfe
         clear hfl
         go_wp2
         go_roundw
         case rel=>exact⟨k,L++(pad4 d).drop 3,d+10000*q,by simp,rfl,by omega,hLf.out,hq2.out,by rw[List.length_append,List.length_drop,pad4_length];omega,hx⟩
         case measure=>first | (simp[intOf];done) | (simp[intOf];omega)
     ·have hkb:((k:Int) == (la.length:Int)-1)=false:=by rw[beq_eq_false_iff_ne];omega
      have hqp:0<q:=by
       have h1:=valL_pos (l:=la.drop (k+1)) (fun x hx=>da x (List.mem_of_mem_drop hx)) (i:=la.length-1-(k+1)) (by
        have h2:=htop.out
        simp only[at_,List.getD_eq_getElem?_getD,List.getElem?_drop] at h2 ⊢
        rw[show k+1+(la.length-1-(k+1))=la.length-1 by omega]
        exact h2)
       rw[hq.out] at h1
       omega
      have hLf:Hd (L++(pad4 d).drop 0=(rdec (d+10000*q)).reverse):=hd_ (by rw[hL.out,rdec_4 hd4 hqp];simp)
      have hcv:=text_str (P:=Try.prog) (f:=0) (src:=118) (dst:=9) hOw (by omega) Try.underlying118 Try.underlying5 Try.underlying9 4
      replace hqp:=hd_ hqp
      go_loop [6] (fun fr=>fr = .int .i64 0) (fun _=>0)
      case atStart=>rfl
      case round =>
       subst hrel
       go_wp2
       go_roundw
       case rel=>exact⟨k,L++(pad4 d).drop 0,d+10000*q,by simp,rfl,by omega,hLf.out,hq2.out,by rw[List.length_append,List.length_drop,pad4_length];omega,hx⟩
       case measure=>first | (simp[intOf];done) | (simp[intOf];omega)
end Go.Proofs.Ytdjbfgfbpimakaa.Z4
end

section
namespace Go.Proofs.Ytdjbfgfbpimakaa
open Go.RowKit
end Go.Proofs.Ytdjbfgfbpimakaa
end

section
namespace Go.Proofs.Ytdjbfgfbpimakaa
open Go.RowKit
def St (w wc:World) (L:List (Nat × TypeId × Array Value)):Prop:=
 Ext w wc∧(L.map (·.1)).Pairwise (· > ·)∧∀ e∈L,w.heap.size≤e.1∧Box wc e.1 e.2.1 e.2.2
theorem Box.set1 {w:World} {n:Nat} {T:TypeId} {vs:Array Value} (h:Box w n T vs) (k:Nat) (u:Value):Box (w.setCell ⟨n,k,none⟩ u) n T (vs.setIfInBounds k u):=by
 unfold Box at h ⊢
 simp[World.setCell,Array.getElem?_modify,h]
section
variable {w wc w':World} {L:List (Nat × TypeId × Array Value)} {n i k:Nat} {T:TypeId} {vs:Array Value}
def Desc:List (Nat × TypeId × Array Value)→Prop
 | []=>True
 | [_]=>True
 | a::b::t=>b.1<a.1∧Desc (b::t)
theorem Desc.of:∀ {L:List (Nat × TypeId × Array Value)},(L.map (·.1)).Pairwise (· > ·)→Desc L
 | [],_=>trivial
 | [_],_=>trivial
 | a::b::t,h=>by
  rw[List.map_cons,List.pairwise_cons] at h
  exact⟨h.1 _ (by simp),Desc.of h.2⟩
theorem St.desc (h:St w wc L):Desc L:=.of h.2.1
theorem St.nil (w:World):St w w []:=⟨Ext.rf w,by simp,fun e he=>by cases he⟩
theorem St.ext (h:St w wc L):Ext w wc:=h.1
theorem St.keep (h:St w wc L) (e:Ext wc w'):St w w' L:=⟨h.1.tr e,h.2.1,fun x hx=>⟨(h.2.2 x hx).1,(h.2.2 x hx).2.keep e⟩⟩
theorem St.add (h:St w wc L) (vs:Array Value) (T:TypeId):St w (wc.alloc (.cells vs T)) ((wc.heap.size,T,vs)::L):=by
 refine⟨h.1.al _,?_,?_⟩
 ·rw[List.map_cons,List.pairwise_cons]
  refine⟨fun m hm => ?_,h.2.1⟩
  obtain⟨e,he,rfl⟩:=List.mem_map.1 hm
  exact (h.2.2 e he).2.lt
 ·intro e he
  rcases List.mem_cons.1 he with rfl | he
  ·exact⟨h.1.size,Box.new rfl⟩
  ·exact⟨(h.2.2 e he).1,(h.2.2 e he).2.al _⟩
theorem St.add' (h:St w wc L) {vs:Array Value} {T:TypeId} (hn:n=wc.heap.size):St w (wc.alloc (.cells vs T)) ((n,T,vs)::L):=by subst hn;exact h.add vs T
theorem St.own (h:St w wc L) (hb:Box wc n T vs) (hw:w.heap.size≤n) (hn:∀ e∈L,e.1<n):St w wc ((n,T,vs)::L):=by
 refine⟨h.1,?_,?_⟩
 ·rw[List.map_cons,List.pairwise_cons]
  refine⟨fun m hm => ?_,h.2.1⟩
  obtain⟨e,he,rfl⟩:=List.mem_map.1 hm
  exact hn e he
 ·intro e he
  rcases List.mem_cons.1 he with rfl | he
  ·exact⟨hw,hb⟩
  ·exact h.2.2 e he
theorem St.own' {w2:World} (h:St w wc L) (e:Ext wc w2) (hb:Box w2 n T vs) (hn:n=wc.heap.size):St w w2 ((n,T,vs)::L):=by
 subst hn
 exact (h.keep e).own hb h.1.size (fun x hx=>(h.2.2 x hx).2.lt)
theorem St.box (h:St w wc L) (i:Nat) (hi:L[i]? = some (n,T,vs)):Box wc n T vs:=(h.2.2 _ (List.mem_of_getElem? hi)).2
theorem St.ge (h:St w wc L) (i:Nat) (hi:L[i]? = some (n,T,vs)):w.heap.size≤n:=(h.2.2 _ (List.mem_of_getElem? hi)).1
theorem St.lt (h:St w wc L) (i:Nat) (hi:L[i]? = some (n,T,vs)):n<wc.heap.size:=(h.box i hi).lt
theorem St.ne (h:St w wc L) (i j:Nat) {m:Nat} {U:TypeId} {us:Array Value} (hi:L[i]? = some (n,T,vs)) (hj:L[j]? = some (m,U,us)) (hij:i≠j):n≠m:=by
 rintro rfl
 have h1:(L.map (·.1))[i]? = some n:=by rw[List.getElem?_map,hi];rfl
 have h2:(L.map (·.1))[j]? = some n:=by rw[List.getElem?_map,hj];rfl
 exact hij ((List.getElem?_inj (List.getElem?_eq_some_iff.1 h1).1 (h.2.1.imp (fun h e=>by omega))).1 (h1.trans h2.symm))
theorem St.set1 (h:St w wc L) (i:Nat) (hi:L[i]? = some (n,T,vs)) (k:Nat) (u:Value):St w (wc.setCell ⟨n,k,none⟩ u) (L.set i (n,T,vs.setIfInBounds k u)):=by
 refine⟨h.1.st (h.ge i hi) _,?_,?_⟩
 ·have:(L.set i (n,T,vs.setIfInBounds k u)).map (·.1)=L.map (·.1):=by
   rw[List.map_set]
   apply List.ext_getElem?
   intro j
   rw[List.getElem?_set]
   split
   ·rename_i e
    subst e
    have hl:=(List.getElem?_eq_some_iff.1 hi).1
    rw[if_pos (by simpa using hl),List.getElem?_map,hi]
    rfl
   ·rfl
  rw[this];exact h.2.1
 ·intro e he
  obtain⟨j,hj⟩:=List.mem_iff_getElem?.1 he
  by_cases hij:i=j
  ·subst hij
   have hl:=(List.getElem?_eq_some_iff.1 hi).1
   rw[List.getElem?_set_self hl] at hj
   injection hj with hj
   subst hj
   exact⟨h.ge i hi,(h.box i hi).set1 _ _⟩
  ·rw[List.getElem?_set_ne hij] at hj
   have hm:=h.2.2 e (List.mem_of_getElem? hj)
   exact⟨hm.1,hm.2.far (h.ne j i hj hi (fun e=>hij e.symm)) _⟩
theorem St.set2 (h:St w wc L) (i:Nat) {a b:Value} (hi:L[i]? = some (n,T,#[a,b])) (u v:Value):St w ((wc.setCell ⟨n,0,none⟩ u).setCell ⟨n,1,none⟩ v) (L.set i (n,T,#[u,v])):=by
 have h1:=h.set1 i hi 0 u
 have hl:=(List.getElem?_eq_some_iff.1 hi).1
 have h2:=h1.set1 i (n:=n) (T:=T) (vs:=#[u,b]) (by rw[List.getElem?_set_self hl];rfl) 1 v
 rw[List.set_set] at h2
 exact h2
theorem St.facts (h:St w wc L) (i:Nat) {a b:Value} (hi:L[i]? = some (n,T,#[a,b])):wc.cell? ⟨n,0,none⟩=some a∧wc.cell? ⟨n,1,none⟩=some b∧wc.frozen? ⟨n,0,none⟩=false∧wc.frozen? ⟨n,1,none⟩=false:=(h.box i hi).facts
theorem St.kept2 (h:St w wc L) (i:Nat) {U:TypeId} (hi:L[i]? = some (n,T,vs)) (hT:U≠T) (u v:Value):Kept U wc ((wc.setCell ⟨n,0,none⟩ u).setCell ⟨n,1,none⟩ v):=(Kept.rf _ _).st2 (h.box i hi).ty hT u v
end
end Go.Proofs.Ytdjbfgfbpimakaa
end

section
namespace Go.Proofs.Ytdjbfgfbpimakaa.Z4
open Go.RowKit
theorem p4_le {j:Nat} (h:j≤5):(1:Int)≤10000^j∧(10000:Int)^j≤100000000000000000000:=by
 match j,h with
 | 0,_=>decide
 | 1,_=>decide
 | 2,_=>decide
 | 3,_=>decide
 | 4,_=>decide
 | 5,_=>decide
theorem p4_five {v:Int} (h:0≤v∧v≤9223372036854775808):0≤v∧v<10000^(5-0):=by
 have:(10000:Int)^(5-0)=100000000000000000000:=by decide
 omega
theorem of_step {v:Int} {k:Nat} (h:0≤v∧v<10000^(5-k)) (h0:0<v):k<5∧0≤v / 10000∧v / 10000<10000^(5-(k+1)):=by
 rcases Nat.lt_or_ge k 5 with hk | hk
 ·refine⟨hk,by omega,?_⟩
  have e:5-k=5-(k+1)+1:=by omega
  rw[e,Int.pow_succ] at h
  generalize (10000:Int)^(5-(k+1))=p at *
  omega
 ·rw[show 5-k=0 by omega] at h
  simp at h
  omega
theorem of_abs {n:Int} (h:-9223372036854775808≤n∧n<0):IntKind.u64.wrap (-IntKind.u64.wrap n) = -n:=by
 rw[IntKind.wrap_u64,IntKind.wrap_u64];omega
set_option maxRecDepth 100000 in
set_option maxHeartbeats 1000000 in
theorem of_any (n:Int) (w:World) (h:-9223372036854775808≤n∧n≤9223372036854775807) :
  Calls Try.prog 73 #[.int .i64 n] w (RetZ w n):=by
 have hsm:=hd_ ((bt_i64 h).sm (by omega))
 by_cases hn:n<0
 ·have hv:=hd_ (of_abs ⟨h.1,hn⟩)
  have HV:=hd_ (show sg true (-n)=n by simp[sg])
  have HB:=hd_ (show 0≤-n∧-n<10000^(5-0) from p4_five (by omega))
  go_enter Try.func73,Try.ntmps73
  go_wp2
  rw[hv.out]
  go_loopw [3,4] (fun uv ov wr => ∃ (v:Int) (so:SV) (o:List Int),uv = .int .u64 v∧ov = .slice so.a so.len so.cap∧Rw wr (w.heap.size+1) .i64 so o∧Dig o∧(0≤v∧v<10000^(5-o.length))∧valL o+v*10000^o.length=(-n)∧o.length≤5 ∧
    Ext (w.alloc (Obj.cells #[Value.bool false,Value.slice none 0 0] 45)) wr) (fun uv _ _=>(intOf uv).toNat)
  case atStart=>exact⟨_,⟨none,0,0⟩,[],rfl,rfl,Rw.nil_ _ _ _,(fun x hx=>by cases hx),HB.out,by simp[valL],by simp,Ext.rf _⟩
  case round =>
   obtain⟨v,so,o,rfl,rfl,hown,hdo,hv1,hval,ho5,hx⟩:=hrel
   have hsl:=hown.len
   obtain⟨oa,on,oc⟩:=so
   simp only at hsl
   subst hsl
   have hp:=(p4_le (j:=5-o.length) (by omega)).2
   have HV1:=hd_ hv1
   have hvb:0≤v∧v≤100000000000000000000:=by omega
   clear hp hv1
   replace hval:=hd_ hval
   have hvt:v<18446744073709551616:=by
    have h1:=hval.out
    have h2:=valL_nonneg hdo
    have h3:=(p4_le (j:=o.length) ho5).1
    have h4:=Int.mul_le_mul_of_nonneg_left h3 hvb.1
    omega
   by_cases hz:0<v
   ·have hs:=hd_ (of_step HV1.out hz)
    have hs5:o.length<5:=hs.out.1
    go_wp2_with ((refine wpL_app1 _ rfl _ _ 43 rfl .i64 8 Try.underlying43 infoI64 (w.alloc (Obj.cells #[Value.bool false,Value.slice none 0 0] 45)) ⟨oa,o.length,oc⟩ o _ rfl rfl (by simpa using hown) hx (by omega) (by omega) ?_);intro s5 w5 hrw5 hx5 hk5;rw[World.size_alloc] at hrw5)
    go_roundw
    case rel =>
     refine⟨v / 10000,s5,o++[v % 10000],rfl,rfl,hrw5,hdo.snoc (by omega),by rw[List.length_append];exact hs.out.2,?_,by simp;omega,hx5⟩
     have h1:=hval.out
     rw[valL_snoc,List.length_append,List.length_singleton,Int.pow_succ,←h1]
     generalize (10000:Int)^o.length=p
     have h2:v=10000*(v / 10000)+v % 10000:=by omega
     generalize v / 10000=a at *
     generalize v % 10000=b at *
     subst h2
     grind
    case measure=>first | (simp[intOf];done) | (simp[intOf];omega)
   ·obtain rfl:v=0:=by omega
    have HO:=hd_ (show valL o=(-n) by have:=hval.out;omega)
    go_wp2_with fail
    refine (made_any _ ⟨oa,o.length,oc⟩ o _ (hown.isL hdo.fit) hdo (by rw[HO.out,HV.out];exact hsm.out)).mono ?_
    rintro e w2 ⟨y,rfl,hy,hx2⟩
    rw[HO.out,HV.out] at hy
    have k0:w2.cell? ⟨w.heap.size,0,none⟩=some (Value.bool false):=cell_later hx2 (cell_later hx (by simp))
    have k1:w2.cell? ⟨w.heap.size,1,none⟩=some (Value.slice none 0 0):=cell_later hx2 (cell_later hx (by simp))
    have hsz:=hx.size
    have hsz2:=hx2.size
    simp only[World.size_alloc] at hsz
    have f0:∀ i,w2.frozen? ⟨w.heap.size,i,none⟩=false:=fun i=>(hx2.frozen (p:=⟨w.heap.size,i,none⟩) (by show w.heap.size<_;omega)).trans ((hx.frozen (p:=⟨w.heap.size,i,none⟩) (by simp)).trans (by simp))
    go_wp2
    refine bodyPost_ret (v:=.agg #[.bool y.n,.slice y.s.a y.s.len y.s.cap]) (by simp[results,Try.results73,go_sem,k0,k1]) rfl ⟨y,rfl,?_,?_⟩
    ·exact hy.kept ((Kept.rf _ _).st2 (T':=45) (((Ty.new' rfl).keep hx).keep hx2) (by decide) _ _)
    ·exact ((((Ext.rf w).al _).tr hx).tr hx2).st2 (Nat.le_refl _) _ _
 ·have HV:=hd_ (show sg (decide (n<0)) n=n by simp[sg,hn])
  have HB:=hd_ (show 0≤n∧n<10000^(5-0) from p4_five (by omega))
  go_enter Try.func73,Try.ntmps73
  go_wp2
  go_loopw [3,4] (fun uv ov wr => ∃ (v:Int) (so:SV) (o:List Int),uv = .int .u64 v∧ov = .slice so.a so.len so.cap∧Rw wr (w.heap.size+1) .i64 so o∧Dig o∧(0≤v∧v<10000^(5-o.length))∧valL o+v*10000^o.length=n∧o.length≤5 ∧
    Ext (w.alloc (Obj.cells #[Value.bool false,Value.slice none 0 0] 45)) wr) (fun uv _ _=>(intOf uv).toNat)
  case atStart=>exact⟨_,⟨none,0,0⟩,[],rfl,rfl,Rw.nil_ _ _ _,(fun x hx=>by cases hx),HB.out,by simp[valL],by simp,Ext.rf _⟩
  case round =>
   obtain⟨v,so,o,rfl,rfl,hown,hdo,hv1,hval,ho5,hx⟩:=hrel
   have hsl:=hown.len
   obtain⟨oa,on,oc⟩:=so
   simp only at hsl
   subst hsl
   have hp:=(p4_le (j:=5-o.length) (by omega)).2
   have HV1:=hd_ hv1
   have hvb:0≤v∧v≤100000000000000000000:=by omega
   clear hp hv1
   replace hval:=hd_ hval
   have hvt:v<18446744073709551616:=by
    have h1:=hval.out
    have h2:=valL_nonneg hdo
    have h3:=(p4_le (j:=o.length) ho5).1
    have h4:=Int.mul_le_mul_of_nonneg_left h3 hvb.1
    omega
   by_cases hz:0<v
   ·have hs:=hd_ (of_step HV1.out hz)
    have hs5:o.length<5:=hs.out.1
    go_wp2_with ((refine wpL_app1 _ rfl _ _ 43 rfl .i64 8 Try.underlying43 infoI64 (w.alloc (Obj.cells #[Value.bool false,Value.slice none 0 0] 45)) ⟨oa,o.length,oc⟩ o _ rfl rfl (by simpa using hown) hx (by omega) (by omega) ?_);intro s5 w5 hrw5 hx5 hk5;rw[World.size_alloc] at hrw5)
    go_roundw
    case rel =>
     refine⟨v / 10000,s5,o++[v % 10000],rfl,rfl,hrw5,hdo.snoc (by omega),by rw[List.length_append];exact hs.out.2,?_,by simp;omega,hx5⟩
     have h1:=hval.out
     rw[valL_snoc,List.length_append,List.length_singleton,Int.pow_succ,←h1]
     generalize (10000:Int)^o.length=p
     have h2:v=10000*(v / 10000)+v % 10000:=by omega
     generalize v / 10000=a at *
     generalize v % 10000=b at *
     subst h2
     grind
    case measure=>first | (simp[intOf];done) | (simp[intOf];omega)
   ·obtain rfl:v=0:=by omega
    have HO:=hd_ (show valL o=n by have:=hval.out;omega)
    go_wp2_with fail
    refine (made_any _ ⟨oa,o.length,oc⟩ o _ (hown.isL hdo.fit) hdo (by rw[HO.out,HV.out];exact hsm.out)).mono ?_
    rintro e w2 ⟨y,rfl,hy,hx2⟩
    rw[HO.out,HV.out] at hy
    have k0:w2.cell? ⟨w.heap.size,0,none⟩=some (Value.bool false):=cell_later hx2 (cell_later hx (by simp))
    have k1:w2.cell? ⟨w.heap.size,1,none⟩=some (Value.slice none 0 0):=cell_later hx2 (cell_later hx (by simp))
    have hsz:=hx.size
    have hsz2:=hx2.size
    simp only[World.size_alloc] at hsz
    have f0:∀ i,w2.frozen? ⟨w.heap.size,i,none⟩=false:=fun i=>(hx2.frozen (p:=⟨w.heap.size,i,none⟩) (by show w.heap.size<_;omega)).trans ((hx.frozen (p:=⟨w.heap.size,i,none⟩) (by simp)).trans (by simp))
    go_wp2
    refine bodyPost_ret (v:=.agg #[.bool y.n,.slice y.s.a y.s.len y.s.cap]) (by simp[results,Try.results73,go_sem,k0,k1]) rfl ⟨y,rfl,?_,?_⟩
    ·exact hy.kept ((Kept.rf _ _).st2 (T':=45) (((Ty.new' rfl).keep hx).keep hx2) (by decide) _ _)
    ·exact ((((Ext.rf w).al _).tr hx).tr hx2).st2 (Nat.le_refl _) _ _
end Go.Proofs.Ytdjbfgfbpimakaa.Z4
end

section
namespace Go.Proofs.Ytdjbfgfbpimakaa
open Go.RowKit
theorem parse_dec {t:List UInt8} (h:parseC t=0):dec (parseZ t)=t:=by
 unfold parseC at h
 split at h
 ·rename_i hok
  split at h
  ·rename_i hl
   unfold parseZ
   rw[if_pos hok,if_pos hl]
   exact dec_numVal hok
  ·omega
 ·omega
end Go.Proofs.Ytdjbfgfbpimakaa
end

section
namespace Go.Proofs.Ytdjbfgfbpimakaa.M
open Go.RowKit
set_option linter.unusedVariables false
def digs (B n:Nat):List Int:=if h:n=0∨B<2 then [] else ((n % B:Nat):Int)::digs B (n / B)
termination_by n
decreasing_by exact Nat.div_lt_self (by omega) (by omega)
theorem digs_eq {B:Nat} (hB:2≤B) {v:List Int→Int} (v0:v []=0) (v1:∀ x t,v (x::t)=x+B*v t):∀ l:List Int,(∀ x∈l,0≤x∧x<B)→(l=[]∨at_ l (l.length-1)≠0)→0≤v l∧(l≠[]→0<v l)∧digs B (v l).toNat=l
 | [],_,_=>by
  rw[v0]
  refine⟨by omega,fun h=>absurd rfl h,?_⟩
  rw[digs]
  simp
 | x::t,hd,hn=>by
  have hx:=hd x (by simp)
  have ih:=digs_eq hB v0 v1 t (fun y hy=>hd y (by simp[hy])) (by
   cases t with
   | nil=>exact .inl rfl
   | cons y t =>
    right
    rcases hn with h | h
    ·cases h
    ·simpa[at_] using h)
  obtain⟨i1,i2,i3⟩:=ih
  rw[v1]
  have hp0:0≤(B:Int)*v t:=Int.mul_nonneg (by omega) i1
  have hpos:0<x+B*v t:=by
   cases t with
   | nil =>
    rcases hn with h | h
    ·cases h
    ·simp[at_] at h;omega
   | cons y t =>
    have:=i2 (by simp)
    have:0<(B:Int)*v (y::t):=Int.mul_pos (by omega) this
    omega
  refine⟨by omega,fun _=>hpos,?_⟩
  have e:(x+B*v t).toNat=x.toNat+B*(v t).toNat:=by
   have:((x.toNat+B*(v t).toNat:Nat):Int)=x+B*v t:=by
    rw[Int.natCast_add,Int.natCast_mul,Int.toNat_of_nonneg hx.1,Int.toNat_of_nonneg i1]
   omega
  rw[digs,dif_neg (by omega),e]
  have h1:(x.toNat+B*(v t).toNat) % B=x.toNat:=by rw[Nat.add_mul_mod_self_left];exact Nat.mod_eq_of_lt (by omega)
  have h2:(x.toNat+B*(v t).toNat) / B=(v t).toNat:=by rw[Nat.add_mul_div_left _ _ (by omega),Nat.div_eq_of_lt (by omega)];omega
  rw[h1,h2,i3,Int.toNat_of_nonneg hx.1]
theorem digs_spec {B:Nat} (hB:2≤B) {v:List Int→Int} (v0:v []=0) (v1:∀ x t,v (x::t)=x+B*v t) (n:Nat):(∀ x∈digs B n,0≤x∧x<B)∧(digs B n=[]∨at_ (digs B n) ((digs B n).length-1)≠0)∧v (digs B n)=n:=by
 induction n using Nat.strongRecOn with
 | _ n ih =>
  by_cases hn:n=0
  ·subst hn
   have e:digs B 0=[]:=by rw[digs];simp
   rw[e,v0]
   exact⟨by simp,.inl rfl,rfl⟩
  ·have hlt:=Nat.div_lt_self (n:=n) (k:=B) (by omega) (by omega)
   obtain⟨i1,i2,i3⟩:=ih _ hlt
   have e:digs B n=((n % B:Nat):Int)::digs B (n / B):=by rw[digs,dif_neg (by omega)]
   have hm:=Nat.mod_lt n (show 0<B by omega)
   rw[e,v1,i3]
   refine⟨?_,.inr ?_,?_⟩
   ·intro x hx
    rcases List.mem_cons.1 hx with rfl | hx
    ·exact⟨by omega,by omega⟩
    ·exact i1 x hx
   ·rcases i2 with h | h
    ·rw[h]
     simp only[at_,List.length_singleton,Nat.sub_self,List.getD_cons_zero]
     rw[h,v0] at i3
     have hq:n / B=0:=by omega
     have:=Nat.div_add_mod n B
     rw[hq] at this
     omega
    ·have hne:digs B (n / B)≠[]:=by
      intro h0
      rw[h0] at h
      exact h rfl
     have:(((n % B:Nat):Int)::digs B (n / B)).length-1=(digs B (n / B)).length-1+1:=by
      have:=List.length_pos_iff.2 hne
      simp only[List.length_cons]
      omega
     rw[this]
     exact h
   ·have:=Nat.div_add_mod n B
    have h2:((n % B:Nat):Int)+(B:Int)*((n / B:Nat):Int)=((n % B+B*(n / B):Nat):Int):=by rw[Int.natCast_add,Int.natCast_mul]
    rw[h2]
    congr 1
    omega
def Av (A:List TypeId) (base:Nat→Prop) (w:World):Prop:=∀ b,base b→∀ c T fr,w.heap[b]? = some (.cells c T fr)→T ∉ A
abbrev NBs (base:Nat→Prop) (w:World):Nat→Prop:=fun b=>b<w.heap.size∧¬ base b
section
variable {P:Program} {A:List TypeId} {f:FuncId} {d d1 d2 d3:D} {w:World} {base:Nat→Prop} {N:Nat→Prop} {v:Value}
theorem V_str (t:List UInt8):V w N (.string (bs t)) (.str t):=V.str (bs t)
theorem str_V {t:List UInt8} (h:V w N v (.str t)):v = .string (bs t):=by
 generalize he:D.str t=e at h
 cases h with
 | str s=>injection he with he;subst he;rfl
 | _=>cases he
theorem int_V {k:IntKind} {n:Int} (h:V w N v (.int k n)):v = .int k n:=by
 generalize he:D.int k n=e at h
 cases h with
 | int k n=>injection he with h1 h2;subst h1 h2;rfl
 | _=>cases he
theorem bool_V {b:Bool} (h:V w N v (.bool b)):v = .bool b:=by
 generalize he:D.bool b=e at h
 cases h with
 | bool b=>injection he with h1;subst h1;rfl
 | _=>cases he
theorem V_lst {k:IntKind} {s:SV} {l:List Int} (hA:ET k∈A) (hav:Av A base w) (h:IsL w s k l):V w (NBs base w) (.slice s.a s.len s.cap) (.list (ET k) 1 (l.map (D.int k))):=by
 obtain⟨ao,cap,rfl,h1,h2,h3⟩:=h.open_
 by_cases hl:l=[]
 ·subst hl
  exact .empty _ _ _ _ h2
 ·obtain⟨b,off,rfl,⟨c,fr,hb⟩,hc⟩:=h3 (List.length_pos_iff.2 hl)
  have hlt:b<w.heap.size:=Ty.lt ⟨c,fr,hb⟩
  have hcell:∀ j,j<l.length→c[off+j]? = some (.int k (at_ l j)):=fun j hj=>by
   have:=hc j hj
   simp only[World.cell?,hb] at this
   simpa using this
  have:=V.list (w:=w) (N:=NBs base w) b off cap (ET k) 1 (l.map (D.int k)) c fr (.of hb) ⟨hlt,fun hh=>hav b hh _ _ _ hb hA⟩ (by simpa using h1) h2 ?_ ?_ ?_
  ·rw[List.length_map] at this
   exact this
  ·intro e he
   obtain⟨x,hx,rfl⟩:=List.mem_map.1 he
   exact⟨rfl,by simp[D.cells,D.one]⟩
  all_goals
   intro i e j q he hq
   rw[List.getElem?_map,Option.map_eq_some_iff] at he
   obtain⟨x,hx,rfl⟩:=he
   obtain⟨hi,hx⟩:=List.getElem?_eq_some_iff.1 hx
   have hci:=hcell i hi
   match j,hq with
   | 0,hq =>
    simp only[D.cells,List.getElem?_cons_zero,Option.some.injEq] at hq
    subst hq
    simp only[Nat.mul_one,Nat.add_zero]
    first
     | (exact (Array.getElem?_eq_some_iff.1 hci).1)
     | (rw[Array.getD_eq_getD_getElem?,hci,at_lt hi,hx];exact .int k x)
   | j+1,hq=>simp[D.cells] at hq
theorem V_isL {k:IntKind} {l:List Int} (h:V w N v (.list (ET k) 1 (l.map (D.int k)))) (hf:∀ x∈l,Fit k x):∃ s:SV,v = .slice s.a s.len s.cap∧IsL w s k l:=by
 generalize he:D.list (ET k) 1 (l.map (D.int k))=e at h
 cases h with
 | empty a cap T sz hc =>
  injection he with e1 e2 e3
  have:l=[]:=by simpa using e3
  subst this
  exact⟨⟨a,0,cap⟩,rfl,⟨⟨rfl,Nat.zero_le _,hc,by simp⟩,by simp⟩⟩
 | list b o cap T sz m c fr hb hn h1 h2 h3 h4 h5 =>
  injection he with e1 e2 e3
  subst e1 e2 e3
  obtain⟨T',hb,hT⟩:=hb
  obtain rfl:T'=ET k:=hT.resolve_right (by cases k<;>decide)
  refine⟨⟨some ⟨b,o,none⟩,l.length,cap⟩,by simp,IsL.mk_ (by simpa using h1) h2 (fun _=>⟨b,o,rfl,⟨c,fr,hb⟩,fun j hj => ?_⟩) hf⟩
  have hj':(l.map (D.int k))[j]? = some (.int k (at_ l j)):=by simp[at_,hj]
  have q1:=h4 j _ 0 _ hj' rfl
  have q2:=h5 j _ 0 _ hj' rfl
  simp only[Nat.mul_one,Nat.add_zero] at q1 q2
  rw[cell_at hb q1,int_V q2]
 | _=>cases he
theorem agg2_V {v1 v2:Value} (h1:V w N v1 d1) (h2:V w N v2 d2) (o1:d1.one=true) (o2:d2.one=true):V w N (.agg #[v1,v2]) (.agg [d1,d2]):=by
 refine .agg _ _ rfl (by simp[o1,o2]) fun i e he => ?_
 match i,he with
 | 0,he=>simp at he;subst he;exact h1
 | 1,he=>simp at he;subst he;exact h2
 | i+2,he=>simp at he
theorem agg4_V {v1 v2 v3 v4:Value} {d4:D} (h1:V w N v1 d1) (h2:V w N v2 d2) (h3:V w N v3 d3) (h4:V w N v4 d4) (o1:d1.one=true) (o2:d2.one=true) (o3:d3.one=true) (o4:d4.one=true):V w N (.agg #[v1,v2,v3,v4]) (.agg [d1,d2,d3,d4]):=by
 refine .agg _ _ rfl (by simp[o1,o2,o3,o4]) fun i e he => ?_
 match i,he with
 | 0,he=>simp at he;subst he;exact h1
 | 1,he=>simp at he;subst he;exact h2
 | 2,he=>simp at he;subst he;exact h3
 | 3,he=>simp at he;subst he;exact h4
 | i+4,he=>simp at he
theorem tup2_V {v1 v2:Value} (h1:V w N v1 d1) (h2:V w N v2 d2):V w N (.tuple #[v1,v2]) (.tup [d1,d2]):=by
 refine .tup _ _ rfl fun i e he => ?_
 match i,he with
 | 0,he=>simp at he;subst he;exact h1
 | 1,he=>simp at he;subst he;exact h2
 | i+2,he=>simp at he
theorem V_agg2 (h:V w N v (.agg [d1,d2])):∃ v1 v2,v = .agg #[v1,v2]∧V w N v1 d1∧V w N v2 d2:=by
 generalize he:D.agg [d1,d2]=e at h
 cases h with
 | agg cs l h1 h2 h3 =>
  injection he with he
  subst he
  obtain⟨cs⟩:=cs
  match cs,h1 with
  | [x,y],h1=>exact⟨x,y,rfl,h3 0 _ rfl,h3 1 _ rfl⟩
  | [],h1 | [_],h1 | _::_::_::_,h1=>simp at h1
 | _=>cases he
theorem V_agg4 {d4:D} (h:V w N v (.agg [d1,d2,d3,d4])):∃ v1 v2 v3 v4,v = .agg #[v1,v2,v3,v4]∧V w N v1 d1∧V w N v2 d2∧V w N v3 d3∧V w N v4 d4:=by
 generalize he:D.agg [d1,d2,d3,d4]=e at h
 cases h with
 | agg cs l h1 h2 h3 =>
  injection he with he
  subst he
  obtain⟨cs⟩:=cs
  match cs,h1 with
  | [x,y,z,t],h1=>exact⟨x,y,z,t,rfl,h3 0 _ rfl,h3 1 _ rfl,h3 2 _ rfl,h3 3 _ rfl⟩
  | [],h1 | [_],h1 | [_,_],h1 | [_,_,_],h1 | _::_::_::_::_::_,h1=>simp at h1
 | _=>cases he
theorem Av.later {w':World} (h:Av A base w) (hlow:∀ b,base b→b<w.heap.size) (e:Ext w w'):Av A base w':=fun b hb c T fr hc=>h b hb c T fr (by rw[←e.block b (hlow b hb)];exact hc)
theorem con1 (H:∀ (base:Nat→Prop) w v1,Av A base w→V w (NBs base w) v1 d1→Calls P f #[v1] w fun e w' => ∃ v,e = .returned v∧(∀ base,Av A base w'→V w' (NBs base w') v d)∧Ext w w'):Con P A f [d1] d:=by
 intro base w vs hlow hav hsz hargs
 have e:vs = #[vs.getD 0 undef]:=by
  obtain⟨vs⟩:=vs
  match vs,hsz with
  | [x],_=>rfl
  | [],h | _::_::_,h=>simp at h
 rw[e]
 refine (H base w _ hav (hargs 0 _ rfl)).mono ?_
 rintro e w' ⟨v,rfl,hv,hext⟩
 exact⟨v,rfl,hv base (Av.later hav hlow hext),hext⟩
theorem con2 (H:∀ (base:Nat→Prop) w v1 v2,Av A base w→V w (NBs base w) v1 d1→V w (NBs base w) v2 d2→Calls P f #[v1,v2] w fun e w' => ∃ v,e = .returned v∧(∀ base,Av A base w'→V w' (NBs base w') v d)∧Ext w w'):Con P A f [d1,d2] d:=by
 intro base w vs hlow hav hsz hargs
 have e:vs = #[vs.getD 0 undef,vs.getD 1 undef]:=by
  obtain⟨vs⟩:=vs
  match vs,hsz with
  | [x,y],_=>rfl
  | [],h | [_],h | _::_::_::_,h=>simp at h
 rw[e]
 refine (H base w _ _ hav (hargs 0 _ rfl) (hargs 1 _ rfl)).mono ?_
 rintro e w' ⟨v,rfl,hv,hext⟩
 exact⟨v,rfl,hv base (Av.later hav hlow hext),hext⟩
theorem con3 (H:∀ (base:Nat→Prop) w v1 v2 v3,Av A base w→V w (NBs base w) v1 d1→V w (NBs base w) v2 d2→V w (NBs base w) v3 d3→Calls P f #[v1,v2,v3] w fun e w' => ∃ v,e = .returned v∧(∀ base,Av A base w'→V w' (NBs base w') v d)∧Ext w w'):Con P A f [d1,d2,d3] d:=by
 intro base w vs hlow hav hsz hargs
 have e:vs = #[vs.getD 0 undef,vs.getD 1 undef,vs.getD 2 undef]:=by
  obtain⟨vs⟩:=vs
  match vs,hsz with
  | [x,y,z],_=>rfl
  | [],h | [_],h | [_,_],h | _::_::_::_::_,h=>simp at h
 rw[e]
 refine (H base w _ _ _ hav (hargs 0 _ rfl) (hargs 1 _ rfl) (hargs 2 _ rfl)).mono ?_
 rintro e w' ⟨v,rfl,hv,hext⟩
 exact⟨v,rfl,hv base (Av.later hav hlow hext),hext⟩
def AN:List TypeId:=[116,3]
def encI (z:Int):D:=.agg [.bool (decide (z<0)),.list 116 1 ((digs 4294967296 z.natAbs).map (D.int .u32))]
def encZ (z:Int):D:=.agg [.bool (decide (z<0)),.list 3 1 ((digs 10000 z.natAbs).map (D.int .i64))]
def encFI (a b:Int):D:=.agg [.bool (decide (a<0)),.list 116 1 ((digs 4294967296 a.natAbs).map (D.int .u32)),.bool (decide (b-1<0)),.list 116 1 ((digs 4294967296 (b-1).natAbs).map (D.int .u32))]
def encFZ (a b:Int):D:=.agg [.bool (decide (a<0)),.list 3 1 ((digs 10000 a.natAbs).map (D.int .i64)),.bool (decide (b<0)),.list 3 1 ((digs 10000 b.natAbs).map (D.int .i64))]
theorem I_parts {x:IV} {z:Int} (h:IsI w x z):∃ l,IsL w x.s .u32 l∧digs 4294967296 z.natAbs=l∧x.n=decide (z<0):=by
 obtain⟨l,h1,h2,h3,h4,h5⟩:=h
 obtain⟨g1,g2,g3⟩:=digs_eq (B:=4294967296) (by omega) (v:=valL) rfl (fun _ _=>rfl) l (fun x hx=>by have:=h1.2 x hx;simp only[Fit] at this;omega) h2
 refine⟨l,h1,?_,?_⟩
 ·rw[←g3]
  congr 1
  rw[h3]
  unfold sg
  split<;>omega
 ·cases hn:x.n
  ·rw[hn] at h3
   have:¬ z<0:=by rw[h3];simp[sg];omega
   simp[this]
  ·have hl:l≠[]:=fun e=>by have:=h4 e;rw[hn] at this;cases this
   have:=g2 hl
   have:z<0:=by rw[h3,hn];simp[sg];omega
   simp[this]
theorem Z_parts {x:IV} {z:Int} (h:Z4.IsZ w x z):∃ l,IsL w x.s .i64 l∧digs 10000 z.natAbs=l∧x.n=decide (z<0):=by
 obtain⟨l,h1,hd,h2,h3,h4,h5⟩:=h
 obtain⟨g1,g2,g3⟩:=digs_eq (B:=10000) (by omega) (v:=Z4.valL) rfl (fun _ _=>rfl) l (fun x hx=>by have:=hd x hx;omega) h2
 refine⟨l,h1,?_,?_⟩
 ·rw[←g3]
  congr 1
  rw[h3]
  unfold sg
  split<;>omega
 ·cases hn:x.n
  ·rw[hn] at h3
   have:¬ z<0:=by rw[h3];simp[sg];omega
   simp[this]
  ·have hl:l≠[]:=fun e=>by have:=h4 e;rw[hn] at this;cases this
   have:=g2 hl
   have:z<0:=by rw[h3,hn];simp[sg];omega
   simp[this]
theorem V_numI {x:IV} {z:Int} (h:IsI w x z) (hav:Av AN base w):V w (NBs base w) (.bool x.n) (.bool (decide (z<0)))∧V w (NBs base w) (.slice x.s.a x.s.len x.s.cap) (.list 116 1 ((digs 4294967296 z.natAbs).map (D.int .u32))):=by
 obtain⟨l,h1,h2,h3⟩:=I_parts h
 rw[h2,h3]
 exact⟨.bool _,V_lst (k:=.u32) (by simp[AN,ET]) hav h1⟩
theorem V_numZ {x:IV} {z:Int} (h:Z4.IsZ w x z) (hav:Av AN base w):V w (NBs base w) (.bool x.n) (.bool (decide (z<0)))∧V w (NBs base w) (.slice x.s.a x.s.len x.s.cap) (.list 3 1 ((digs 10000 z.natAbs).map (D.int .i64))):=by
 obtain⟨l,h1,h2,h3⟩:=Z_parts h
 rw[h2,h3]
 exact⟨.bool _,V_lst (k:=.i64) (by simp[AN,ET]) hav h1⟩
theorem V_encI {x:IV} {z:Int} (h:IsI w x z) (hav:Av AN base w):V w (NBs base w) (.agg #[.bool x.n,.slice x.s.a x.s.len x.s.cap]) (encI z):=agg2_V (V_numI h hav).1 (V_numI h hav).2 rfl rfl
theorem V_encZ {x:IV} {z:Int} (h:Z4.IsZ w x z) (hav:Av AN base w):V w (NBs base w) (.agg #[.bool x.n,.slice x.s.a x.s.len x.s.cap]) (encZ z):=agg2_V (V_numZ h hav).1 (V_numZ h hav).2 rfl rfl
theorem V_encFI {x y:IV} {a b:Int} (h:IsI w x a) (k:IsI w y (b-1)) (hav:Av AN base w):V w (NBs base w) (.agg #[.bool x.n,.slice x.s.a x.s.len x.s.cap,.bool y.n,.slice y.s.a y.s.len y.s.cap]) (encFI a b):=agg4_V (V_numI h hav).1 (V_numI h hav).2 (V_numI k hav).1 (V_numI k hav).2 rfl rfl rfl rfl
theorem V_encFZ {x y:IV} {a b:Int} (h:Z4.IsZ w x a) (k:Z4.IsZ w y b) (hav:Av AN base w):V w (NBs base w) (.agg #[.bool x.n,.slice x.s.a x.s.len x.s.cap,.bool y.n,.slice y.s.a y.s.len y.s.cap]) (encFZ a b):=agg4_V (V_numZ h hav).1 (V_numZ h hav).2 (V_numZ k hav).1 (V_numZ k hav).2 rfl rfl rfl rfl
theorem sg_abs (z:Int):z=sg (decide (z<0)) (z.natAbs:Int):=by
 unfold sg
 by_cases h:z<0
 ·rw[if_pos (by simpa using h)];omega
 ·rw[if_neg (by simpa using h)];omega
theorem numI_V {z:Int} {v1 v2:Value} (h1:V w N v1 (.bool (decide (z<0)))) (h2:V w N v2 (.list 116 1 ((digs 4294967296 z.natAbs).map (D.int .u32)))) (hs:Sm z):∃ x:IV,v1 = .bool x.n∧v2 = .slice x.s.a x.s.len x.s.cap∧IsI w x z:=by
 obtain⟨g1,g2,g3⟩:=digs_spec (B:=4294967296) (by omega) (v:=valL) rfl (fun _ _=>rfl) z.natAbs
 obtain⟨s,rfl,hl⟩:=V_isL (k:=.u32) h2 (fun x hx=>by have:=g1 x hx;simp only[Fit];omega)
 refine⟨⟨decide (z<0),s⟩,bool_V h1,rfl,_,hl,g2,?_,fun e => ?_,hs⟩
 ·rw[g3];exact sg_abs z
 ·rw[e] at g3
  have:(0:Int)=(z.natAbs:Int):=g3
  have:¬ z<0:=by omega
  simp[this]
theorem numZ_V {z:Int} {v1 v2:Value} (h1:V w N v1 (.bool (decide (z<0)))) (h2:V w N v2 (.list 3 1 ((digs 10000 z.natAbs).map (D.int .i64)))) (hs:Sm z):∃ x:IV,v1 = .bool x.n∧v2 = .slice x.s.a x.s.len x.s.cap∧Z4.IsZ w x z:=by
 obtain⟨g1,g2,g3⟩:=digs_spec (B:=10000) (by omega) (v:=Z4.valL) rfl (fun _ _=>rfl) z.natAbs
 obtain⟨s,rfl,hl⟩:=V_isL (k:=.i64) h2 (fun x hx=>by have:=g1 x hx;simp only[Fit];omega)
 refine⟨⟨decide (z<0),s⟩,bool_V h1,rfl,_,hl,fun x hx=>by have:=g1 x hx;omega,g2,?_,fun e => ?_,hs⟩
 ·rw[g3];exact sg_abs z
 ·rw[e] at g3
  have:(0:Int)=(z.natAbs:Int):=g3
  have:¬ z<0:=by omega
  simp[this]
theorem encI_V {z:Int} (h:V w N v (encI z)) (hs:Sm z):∃ x:IV,v = .agg #[.bool x.n,.slice x.s.a x.s.len x.s.cap]∧IsI w x z:=by
 obtain⟨v1,v2,rfl,h1,h2⟩:=V_agg2 h
 obtain⟨x,rfl,rfl,hx⟩:=numI_V h1 h2 hs
 exact⟨x,rfl,hx⟩
theorem encZ_V {z:Int} (h:V w N v (encZ z)) (hs:Sm z):∃ x:IV,v = .agg #[.bool x.n,.slice x.s.a x.s.len x.s.cap]∧Z4.IsZ w x z:=by
 obtain⟨v1,v2,rfl,h1,h2⟩:=V_agg2 h
 obtain⟨x,rfl,rfl,hx⟩:=numZ_V h1 h2 hs
 exact⟨x,rfl,hx⟩
theorem encFI_V {a b:Int} (h:V w N v (encFI a b)) (hs:Sm a) (hb:Sm (b-1)):∃ x y:IV,v = .agg #[.bool x.n,.slice x.s.a x.s.len x.s.cap,.bool y.n,.slice y.s.a y.s.len y.s.cap]∧IsI w x a∧IsI w y (b-1):=by
 obtain⟨v1,v2,v3,v4,rfl,h1,h2,h3,h4⟩:=V_agg4 h
 obtain⟨x,rfl,rfl,hx⟩:=numI_V h1 h2 hs
 obtain⟨y,rfl,rfl,hy⟩:=numI_V h3 h4 hb
 exact⟨x,y,rfl,hx,hy⟩
theorem encFZ_V {a b:Int} (h:V w N v (encFZ a b)) (hs:Sm a) (hb:Sm b):∃ x y:IV,v = .agg #[.bool x.n,.slice x.s.a x.s.len x.s.cap,.bool y.n,.slice y.s.a y.s.len y.s.cap]∧Z4.IsZ w x a∧Z4.IsZ w y b:=by
 obtain⟨v1,v2,v3,v4,rfl,h1,h2,h3,h4⟩:=V_agg4 h
 obtain⟨x,rfl,rfl,hx⟩:=numZ_V h1 h2 hs
 obtain⟨y,rfl,rfl,hy⟩:=numZ_V h3 h4 hb
 exact⟨x,y,rfl,hx,hy⟩
def flt (c p:Int):D:=.agg [.int .i64 c,.int .i64 p]
theorem V_flt (c p:Int):V w N (.agg #[.int .i64 c,.int .i64 p]) (flt c p):=agg2_V (.int _ _) (.int _ _) rfl rfl
end
end Go.Proofs.Ytdjbfgfbpimakaa.M
end

section
namespace Go.Proofs.Ytdjbfgfbpimakaa
open Go.RowKit
def Cs (w:World) (L:List (Nat × Nat × Value)):Prop:=∀ e∈L,w.cell? ⟨e.1,e.2.1,none⟩=some e.2.2
section
variable {w w':World} {L:List (Nat × Nat × Value)}
theorem Cs.nil (w:World):Cs w []:=fun e he=>by cases he
theorem Cs.cons {b k:Nat} {v:Value} (h:w.cell? ⟨b,k,none⟩=some v) (t:Cs w L):Cs w ((b,k,v)::L):=fun e he=>by
 rcases List.mem_cons.1 he with rfl | he
 ·exact h
 ·exact t e he
theorem cs_cons {b k:Nat} {v:Value}:Cs w ((b,k,v)::L)↔w.cell? ⟨b,k,none⟩=some v∧Cs w L:=
 ⟨fun h=>⟨h _ (.head _),fun e he=>h e (.tail _ he)⟩,fun h=>Cs.cons h.1 h.2⟩
theorem cs_nil:Cs w []↔True:=⟨fun _=>trivial,fun _=>Cs.nil w⟩
def Off (n:Nat):List (Nat × Nat × Value)→Prop
 | []=>True
 | e::t=>n≠e.1∧Off n t
theorem Off.mem {n:Nat} (h:Off n L):∀ e∈L,n≠e.1:=by
 induction L with
 | nil=>intro e he;cases he
 | cons x t ih =>
  intro e he
  rcases List.mem_cons.1 he with rfl | he
  ·exact h.1
  ·exact ih h.2 e he
theorem Cs.st2 {n:Nat} (h:Cs w L) (hn:Off n L) (u v:Value):Cs ((w.setCell ⟨n,0,none⟩ u).setCell ⟨n,1,none⟩ v) L:=fun e he=>cell_st2' (h e he) (hn.mem e he) _ _
theorem Cs.st1 {n k:Nat} (h:Cs w L) (hn:Off n L) (u:Value):Cs (w.setCell ⟨n,k,none⟩ u) L:=fun e he=>by
 rw[World.cell?_setCell_other _ _ _ _ (by intro e';have:=hn.mem e he;rw[Addr.mk.injEq] at e';omega)]
 exact h e he
end
theorem run_append_none_any {P:Program} {w:World} (base:Nat) (t ty e:TypeId) (i:TypeInfo) (size:Nat) (c:Nat) (ht:P.underlying t=some (.slice e)) (hi:P.info? e=some i)
  (v:Value) (n:Nat) (xs:List Value) (hown:w.ownsRow base e size v n xs) :
  (Builtin.append_ #[t,t] ty #[v,.slice none 0 c]).run P w = .ok v w:=by
 rcases hown.2 with⟨rfl,rfl⟩ | ⟨g,cap,cur,rfl,_,_,hnc,_⟩
 ·simp[Builtin.append_,run_underlying ht,sizeOf,typeInfo,hi,Builtin.lenOf,Builtin.firstCells]
 ·simp[Builtin.append_,run_underlying ht,sizeOf,typeInfo,hi,Builtin.lenOf,Builtin.firstCells,hnc,storeCells]
theorem op_appN {P:Program} (w:World) {o:Oper} {a:Act} {K:Act→World→Prop} {Q:Exit→Act→World→Prop} (sl x:Operand) (t:TypeId)
  (ho:o.op = .call { callee:=.builtin .append,args:=#[sl,x],argTypes:=#[t,t] })
  (k:IntKind) (bytes:Nat) (ht:P.underlying t=some (.slice (ET k))) (hinfo:(P.info? (ET k)).map (fun i=>(i.zero,i.size,i.bytes))=some (some (.int k 0),1,bytes))
  (W0:World) (s u:SV) (l m:List Int) (hs:a.eval sl = .slice s.a s.len s.cap) (hx:a.eval x = .slice u.a u.len u.cap) (hown:Rw w W0.heap.size k s l) (hu:IsL w u k m) (hE:Ext W0 w)
  (hb:(l.length+m.length)*bytes≤140737488355328) (h63:l.length+m.length≤9223372036854775807)
  (h:∀ (s':SV) (w':World),Rw w' W0.heap.size k s' (l++m)→Ext W0 w'→K (a.put o.dst (.slice s'.a s'.len s'.cap)) w') :
  o.wp P a w K Q:=by
 obtain⟨i,hi,hz0,hz1,hz2⟩:=info_parts hinfo
 obtain⟨ao,cap,rfl,hc1,hc2,hop⟩:=hu.open_
 rcases ao with _ | ad
 ·have h0:m.length=0:=by
   rcases Nat.eq_zero_or_pos m.length with h0 | h0
   ·exact h0
   ·obtain⟨b,off,ha,_⟩:=hop h0
    cases ha
  have hm:m=[]:=List.eq_nil_of_length_eq_zero h0
  subst hm
  have hrun:=run_append_none_any (P:=P) (w:=w) W0.heap.size t o.type (ET k) i 1 cap ht hi (.slice s.a s.len s.cap) l.length (l.map (Value.int k)) hown
  unfold Oper.wp
  simp[execOp,ho,resolve,invoke,builtin,hs,hx,hrun,Result.andThen]
  exact h s w (by simpa using hown) hE
 ·refine wp_append_own (P:=P) w sl x t ho W0.heap.size (ET k) i _ 1 bytes ht hi hz0 hz1 hz2 rfl (by omega) (.slice s.a s.len s.cap) l.length (l.map (Value.int k)) hs hown ad m.length cap (m.map (Value.int k)) hx (by simp)
   ?_ (by intro v hv;obtain⟨z,_,rfl⟩:=List.mem_map.1 hv;rfl) h63 hb hE.size ?_
  ·intro j v hv
   have hj:j<m.length:=by
    have:=(List.getElem?_eq_some_iff.1 hv).1
    simpa using this
   obtain⟨b,off,ha,_,hc⟩:=hop (by omega)
   injection ha with ha
   subst ha
   have h1:=hc j hj
   rw[at_lt hj] at h1
   simp[hj] at hv
   rw[←hv]
   by_cases hj0:j=0
   ·subst hj0;simpa[Addr.add] using h1
   ·simpa[Addr.add,hj0] using h1
  ·intro v' w' hown' hgr _
   have hform:∃ s':SV,v' = .slice s'.a s'.len s'.cap:=by
    rcases hown'.2 with⟨e,_⟩ | ⟨g,cap,cur,e,_⟩
    ·exact⟨⟨none,0,0⟩,e⟩
    ·exact⟨⟨some ⟨g,0,none⟩,_,cap⟩,e⟩
   obtain⟨s',rfl⟩:=hform
   refine h s' w' ?_ (hE.gr hgr ?_)
   ·unfold Rw
    rw[List.length_append,List.map_append]
    exact hown'
   ·intro g hg
    rcases hown.2 with⟨e,_⟩ | ⟨g',cap,cur,e,hb',_⟩
    ·rw[e] at hg;cases hg
    ·rw[e] at hg
     simp only[Value.ownBlock,Option.some.injEq] at hg
     omega
end Go.Proofs.Ytdjbfgfbpimakaa
end

section
namespace Go.Proofs.Ytdjbfgfbpimakaa
open Go.RowKit
abbrev AE:=Nat × TypeId × Array Value
section
variable {P:Program} {ops:Array Oper} {Q:Exit→Act→World→Prop} {md:Region.Mode} {S A B:World→Prop} {xa xb:Nat}
end
end Go.Proofs.Ytdjbfgfbpimakaa
end

section
namespace Go.Proofs.Ytdjbfgfbpimakaa
open Go.RowKit
theorem bt_gcd {a b:Int} {n:Nat} (ha:Bt a n) (hb:Bt b n):Bt (Int.gcd a b) n:=by
 by_cases h:a=0
 ·subst h
  rw[Int.gcd_zero_left]
  exact hb.le (by simp)
 ·have h1:Int.gcd a b≤a.natAbs:=Nat.le_of_dvd (by omega) (Nat.gcd_dvd_left _ _)
  exact ha.le (by simpa using h1)
theorem bt_ediv {a:Int} {n:Nat} (b:Int) (h:Bt a n):Bt (a / b) n:=h.le (Int.natAbs_ediv_le_natAbs a b)
theorem bt_emod {a b:Int} {n:Nat} (hb:b≠0) (h:Bt b n):Bt (a % b) n:=by
 have h1:=Int.emod_nonneg a hb
 have h2:=Int.emod_lt a hb
 exact h.le (by omega)
theorem dec_zero:dec 0=[48]:=by unfold dec decN;rw[if_neg (by omega)];rfl
end Go.Proofs.Ytdjbfgfbpimakaa
end

section
namespace Go.Proofs.Ytdjbfgfbpimakaa
end Go.Proofs.Ytdjbfgfbpimakaa
end

section
namespace Go.Proofs.Ytdjbfgfbpimakaa
theorem rdec_last {n:Nat} (h:0<n):∃ c t,(rdec n).reverse=c::t∧48<c.toNat∧c.toNat≤57:=by
 induction n using Nat.strongRecOn with
 | ind n ih =>
  rw[rdec_pos h]
  rcases Nat.eq_zero_or_pos (n / 10) with h1 | h1
  ·rw[h1,rdec_zero]
   refine⟨dch (n % 10),[],rfl,?_⟩
   rw[dch_toNat (by omega)]
   omega
  ·obtain⟨c,t,h2,h3⟩:=ih (n / 10) (by omega) h1
   exact⟨c,t++[dch (n % 10)],by rw[List.reverse_cons,h2];rfl,h3⟩
theorem decN_head {n:Nat}:∃ c t,decN n=c::t∧48≤c.toNat∧c.toNat≤57∧(c=48→n=0):=by
 unfold decN
 split
 ·rename_i h;exact⟨48,[],rfl,by decide,by decide,fun _=>h⟩
 ·rename_i h
  obtain⟨c,t,h1,h2,h3⟩:=rdec_last (n:=n) (by omega)
  refine⟨c,t,h1,by omega,h3,fun e => ?_⟩
  subst e
  simp at h2
theorem dec_parts (z:Int):isNeg (dec z)=decide (z<0)∧body (dec z)=decN z.natAbs:=by
 obtain⟨c,t,hc,h1,h2,_⟩:=decN_head (n:=z.natAbs)
 unfold dec
 by_cases hz:z<0
 ·rw[if_pos hz]
  have:isNeg (45::decN z.natAbs)=true:=by simp[isNeg]
  exact⟨by rw[this];simp[hz],by rw[body_neg this];rfl⟩
 ·rw[if_neg hz]
  have:isNeg (decN z.natAbs)=false:=by
   rw[hc]
   simp only[isNeg,List.head?_cons]
   rw[beq_eq_false_iff_ne]
   intro e
   injection e with e
   subst e
   simp at h1
  exact⟨by rw[this];simp[hz],by rw[body_pos this]⟩
end Go.Proofs.Ytdjbfgfbpimakaa
end

section
namespace Go.Proofs.Ytdjbfgfbpimakaa
open Go.RowKit
def Vs (w wc:World) (L:List (Nat × TypeId × Array Value)):Prop:=
 Ext w wc∧(L.map (·.1)).Nodup∧∀ e∈L,w.heap.size≤e.1∧Box wc e.1 e.2.1 e.2.2
section
variable {w wc w':World} {L:List (Nat × TypeId × Array Value)} {n i k:Nat} {T:TypeId} {vs:Array Value}
theorem Vs.nil (w:World):Vs w w []:=⟨Ext.rf w,by simp,fun e he=>by cases he⟩
theorem Vs.ext (h:Vs w wc L):Ext w wc:=h.1
theorem Vs.keep (h:Vs w wc L) (e:Ext wc w'):Vs w w' L:=⟨h.1.tr e,h.2.1,fun x hx=>⟨(h.2.2 x hx).1,(h.2.2 x hx).2.keep e⟩⟩
theorem Vs.add (h:Vs w wc L) (vs:Array Value) (T:TypeId):Vs w (wc.alloc (.cells vs T)) ((wc.heap.size,T,vs)::L):=by
 refine⟨h.1.al _,?_,?_⟩
 ·rw[List.map_cons,List.nodup_cons]
  refine⟨fun hm => ?_,h.2.1⟩
  obtain⟨e,he,he1⟩:=List.mem_map.1 hm
  have:=(h.2.2 e he).2.lt
  omega
 ·intro e he
  rcases List.mem_cons.1 he with rfl | he
  ·exact⟨h.1.size,Box.new rfl⟩
  ·exact⟨(h.2.2 e he).1,(h.2.2 e he).2.al _⟩
theorem Vs.add' (h:Vs w wc L) {vs:Array Value} {T:TypeId} (hn:n=wc.heap.size):Vs w (wc.alloc (.cells vs T)) ((n,T,vs)::L):=by subst hn;exact h.add vs T
theorem Vs.box (h:Vs w wc L) (i:Nat) (hi:L[i]? = some (n,T,vs)):Box wc n T vs:=(h.2.2 _ (List.mem_of_getElem? hi)).2
theorem Vs.ge (h:Vs w wc L) (i:Nat) (hi:L[i]? = some (n,T,vs)):w.heap.size≤n:=(h.2.2 _ (List.mem_of_getElem? hi)).1
theorem Vs.lt (h:Vs w wc L) (i:Nat) (hi:L[i]? = some (n,T,vs)):n<wc.heap.size:=(h.box i hi).lt
theorem Vs.ne (h:Vs w wc L) (i j:Nat) {m:Nat} {U:TypeId} {us:Array Value} (hi:L[i]? = some (n,T,vs)) (hj:L[j]? = some (m,U,us)) (hij:i≠j):n≠m:=by
 rintro rfl
 have h1:(L.map (·.1))[i]? = some n:=by rw[List.getElem?_map,hi];rfl
 have h2:(L.map (·.1))[j]? = some n:=by rw[List.getElem?_map,hj];rfl
 exact hij ((List.getElem?_inj (List.getElem?_eq_some_iff.1 h1).1 h.2.1).1 (h1.trans h2.symm))
theorem Vs.set1 (h:Vs w wc L) (i:Nat) (hi:L[i]? = some (n,T,vs)) (k:Nat) (u:Value):Vs w (wc.setCell ⟨n,k,none⟩ u) (L.set i (n,T,vs.setIfInBounds k u)):=by
 refine⟨h.1.st (h.ge i hi) _,?_,?_⟩
 ·have:(L.set i (n,T,vs.setIfInBounds k u)).map (·.1)=L.map (·.1):=by
   rw[List.map_set]
   apply List.ext_getElem?
   intro j
   rw[List.getElem?_set]
   split
   ·rename_i e
    subst e
    have hl:=(List.getElem?_eq_some_iff.1 hi).1
    rw[if_pos (by simpa using hl),List.getElem?_map,hi]
    rfl
   ·rfl
  rw[this];exact h.2.1
 ·intro e he
  obtain⟨j,hj⟩:=List.mem_iff_getElem?.1 he
  by_cases hij:i=j
  ·subst hij
   have hl:=(List.getElem?_eq_some_iff.1 hi).1
   rw[List.getElem?_set_self hl] at hj
   injection hj with hj
   subst hj
   exact⟨h.ge i hi,(h.box i hi).set1 _ _⟩
  ·rw[List.getElem?_set_ne hij] at hj
   have hm:=h.2.2 e (List.mem_of_getElem? hj)
   exact⟨hm.1,hm.2.far (h.ne j i hj hi (fun e=>hij e.symm)) _⟩
theorem Vs.set2 (h:Vs w wc L) (i:Nat) {a b:Value} (hi:L[i]? = some (n,T,#[a,b])) (u v:Value):Vs w ((wc.setCell ⟨n,0,none⟩ u).setCell ⟨n,1,none⟩ v) (L.set i (n,T,#[u,v])):=by
 have h1:=h.set1 i hi 0 u
 have hl:=(List.getElem?_eq_some_iff.1 hi).1
 have h2:=h1.set1 i (n:=n) (T:=T) (vs:=#[u,b]) (by rw[List.getElem?_set_self hl];rfl) 1 v
 rw[List.set_set] at h2
 exact h2
theorem Vs.tl {e:Nat × TypeId × Array Value} (h:Vs w wc (e::L)):Vs w wc L:=⟨h.1,(by have:=h.2.1;rw[List.map_cons,List.nodup_cons] at this;exact this.2),fun x hx=>h.2.2 x (.tail _ hx)⟩
theorem Vs.facts (h:Vs w wc L) (i:Nat) {a b:Value} (hi:L[i]? = some (n,T,#[a,b])):wc.cell? ⟨n,0,none⟩=some a∧wc.cell? ⟨n,1,none⟩=some b∧wc.frozen? ⟨n,0,none⟩=false∧wc.frozen? ⟨n,1,none⟩=false:=(h.box i hi).facts
theorem Vs.kept2 (h:Vs w wc L) (i:Nat) {U:TypeId} (hi:L[i]? = some (n,T,vs)) (hT:U≠T) (u v:Value):Kept U wc ((wc.setCell ⟨n,0,none⟩ u).setCell ⟨n,1,none⟩ v):=(Kept.rf _ _).st2 (h.box i hi).ty hT u v
end
end Go.Proofs.Ytdjbfgfbpimakaa
end

section
namespace Go.Proofs.Ytdjbfgfbpimakaa
open Go.RowKit
section
variable {w wc w':World} {L:List (Nat × TypeId × Array Value)} {n i:Nat} {T:TypeId}
theorem Vs.set4 (h:Vs w wc L) (i:Nat) {a b c d:Value} (hi:L[i]? = some (n,T,#[a,b,c,d])) (p q r s:Value) :
  Vs w ((((wc.setCell ⟨n,0,none⟩ p).setCell ⟨n,1,none⟩ q).setCell ⟨n,2,none⟩ r).setCell ⟨n,3,none⟩ s) (L.set i (n,T,#[p,q,r,s])):=by
 have hl:=(List.getElem?_eq_some_iff.1 hi).1
 have h1:=h.set1 i hi 0 p
 have h2:=h1.set1 i (n:=n) (T:=T) (vs:=#[p,b,c,d]) (by rw[List.getElem?_set_self hl];rfl) 1 q
 rw[List.set_set] at h2
 have h3:=h2.set1 i (n:=n) (T:=T) (vs:=#[p,q,c,d]) (by rw[List.getElem?_set_self hl];rfl) 2 r
 rw[List.set_set] at h3
 have h4:=h3.set1 i (n:=n) (T:=T) (vs:=#[p,q,r,d]) (by rw[List.getElem?_set_self hl];rfl) 3 s
 rw[List.set_set] at h4
 exact h4
theorem Vs.facts4 (h:Vs w wc L) (i:Nat) {a b c d:Value} (hi:L[i]? = some (n,T,#[a,b,c,d])) :
  wc.cell? ⟨n,0,none⟩=some a∧wc.cell? ⟨n,1,none⟩=some b∧wc.cell? ⟨n,2,none⟩=some c∧wc.cell? ⟨n,3,none⟩=some d ∧
  wc.frozen? ⟨n,0,none⟩=false∧wc.frozen? ⟨n,1,none⟩=false∧wc.frozen? ⟨n,2,none⟩=false∧wc.frozen? ⟨n,3,none⟩=false:=
 have hb:=h.box i hi
 ⟨hb.cell 0 rfl,hb.cell 1 rfl,hb.cell 2 rfl,hb.cell 3 rfl,hb.frozen 0,hb.frozen 1,hb.frozen 2,hb.frozen 3⟩
theorem Vs.kept4 (h:Vs w wc L) (i:Nat) {U:TypeId} {vs:Array Value} (hi:L[i]? = some (n,T,vs)) (hT:U≠T) (p q r s:Value) :
  Kept U wc ((((wc.setCell ⟨n,0,none⟩ p).setCell ⟨n,1,none⟩ q).setCell ⟨n,2,none⟩ r).setCell ⟨n,3,none⟩ s):=
 (((((Kept.rf U wc).st (p:=⟨n,0,none⟩) (h.box i hi).ty hT p).st (p:=⟨n,1,none⟩) ((h.box i hi).ty.st _ _) hT q).st (p:=⟨n,2,none⟩) (((h.box i hi).ty.st _ _).st _ _) hT r).st (p:=⟨n,3,none⟩) ((((h.box i hi).ty.st _ _).st _ _).st _ _) hT s)
theorem Cs.st4 {w:World} {L:List (Nat × Nat × Value)} {n:Nat} (h:Cs w L) (hn:Off n L) (p q r s:Value) :
  Cs ((((w.setCell ⟨n,0,none⟩ p).setCell ⟨n,1,none⟩ q).setCell ⟨n,2,none⟩ r).setCell ⟨n,3,none⟩ s) L:=(((h.st1 hn p).st1 hn q).st1 hn r).st1 hn s
end
end Go.Proofs.Ytdjbfgfbpimakaa
end

section
namespace Go.Proofs.Ytdjbfgfbpimakaa.Z4
open Go.RowKit
theorem isZ_nonneg {w:World} {x:IV} {z:Int} (h:IsZ w x z) (hz:0≤z):∃ l,IsL w x.s .i64 l∧Norm l∧Dig l∧valL l=z∧l.length≤10825960652800:=by
 obtain⟨l,hl,hn,hd,hle,he,_,_⟩:=h.open_
 refine⟨l,hl,hn,hd,?_,hle⟩
 have:=valL_nonneg hd
 unfold sg at he
 split at he<;>omega
theorem isZ_size {w:World} {x:IV} {z:Int} (h:IsZ w x z):∃ l,IsL w x.s .i64 l∧Norm l∧Dig l∧valL l=z.natAbs∧l.length≤10825960652800:=by
 obtain⟨l,hl,hn,hd,hle,he,_,_⟩:=h.open_
 refine⟨l,hl,hn,hd,?_,hle⟩
 have:=valL_nonneg hd
 rw[he,natAbs_sg]
 omega
theorem madeAbs_any (x:IV) (z:Int) (w:World) (h:IsZ w x z):Calls Try.prog 87 #[.bool false,.slice x.s.a x.s.len x.s.cap] w (RetZ w (z.natAbs:Int)):=by
 obtain⟨l,hl,hn,hd,hv,_⟩:=isZ_size h
 have h1:sg false (valL l)=(z.natAbs:Int):=hv
 have:=made_any false x.s l w hl hd (by rw[h1];obtain⟨_,_,_,_,_,_,h6⟩:=h;exact h6.le (by omega))
 rw[h1] at this
 exact this
end Go.Proofs.Ytdjbfgfbpimakaa.Z4
end
