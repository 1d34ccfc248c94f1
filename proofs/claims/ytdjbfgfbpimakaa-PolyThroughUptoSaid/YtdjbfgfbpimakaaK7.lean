/- Gcd: the walk. Small. The reference's ZText. NumReckons: the walk. A call's variables: which blocks they are, what they hold. The reference's ZOf, ZSmall. NumReads: the walk. Numbers in the small machine's words: what reads as a number, and contracts turned. Regions that draw their order: what the cells hold till a store comes; one operation 'append(own, more...)'. A region in whatever order whose new variables may come up at any time: the calls ahead of its stores are walked as if the others only made memory; behind them, the new variables lie in whatever new blocks. NumLaws: the walk. Bezout: plain laws. A number written and read. A call's variables, in no order of their blocks. Variables of four cells: fractions. The reference's ZAbs. The reference's ZDiv. The reference's ZGcd, ZAbs. -/
import Derived.Test.YtdjbfgfbpimakaaDivEx
import Derived.Deep.LoopGhost
import Derived.Test.YtdjbfgfbpimakaaTextx
import Derived.Test.YtdjbfgfbpimakaaK3
import Derived.Test.YtdjbfgfbpimakaaK4
import Derived.Test.YtdjbfgfbpimakaaK6
import Derived.Test.YtdjbfgfbpimakaaK5
import Derived.Test.YtdjbfgfbpimakaaK1
section
namespace Go.Proofs.Ytdjbfgfbpimakaa
open Go.RowKit
theorem div_any (x y:IV) (a b:Int) (w:World) (hx:IsI w x a) (hy:IsI w y b) (hb:b≠0) :
  Calls Try.prog 68 #[.agg #[.bool x.n,.slice x.s.a x.s.len x.s.cap],.agg #[.bool y.n,.slice y.s.a y.s.len y.s.cap]] w (RetDiv w (a / b) (a % b) 0):=div_ok x y a b w hx hy hb
theorem wpG_begin {P:Program} {ops:Array Oper} {Q:Exit→Act→World→Prop} {S:World→Prop} {id:Nat} {a:Act} {w:World} (A B:World→Prop) (xa xb:Nat) (hm:P.follows .mixedOrders=true) (hS:∀ w',Ext w w'→S w'∧A w'∧B w')
  (h:∀ w',Ext w w'→Shows S A B xa xb (Array.replicate ops.size false) w'→wpG P .any ops Q S A B xa xb ops.size (Array.replicate ops.size false) a w'):(Code.region id ops true).wp P Q a w:=
 wpG_region A B xa xb hm (hS _ (Ext.rf w).dr) (h _ (Ext.rf w).dr)
structure GcdSt (w wc:World) (x y:IV) (a b:Int):Prop where
 ext:Ext w wc
 ba:Box wc w.heap.size 37 (iv x)
 bb:Box wc (w.heap.size+1) 37 (iv y)
 rr:Box wc (w.heap.size+1+1) 37 (iv zI)
 hx:IsI wc x a
 hy:IsI wc y b
section
variable {w wc w':World} {x y z:IV} {a b v:Int}
theorem GcdSt.keep (h:GcdSt w wc x y a b) (e:Ext wc w'):GcdSt w w' x y a b:=
 ⟨h.ext.tr e,h.ba.keep e,h.bb.keep e,h.rr.keep e,h.hx.keep e,h.hy.keep e⟩
theorem GcdSt.stA (h:GcdSt w wc x y a b) (hz:IsI wc z v) :
  GcdSt w ((wc.setCell ⟨w.heap.size,0,none⟩ (.bool z.n)).setCell ⟨w.heap.size,1,none⟩ (.slice z.s.a z.s.len z.s.cap)) z y v b:=
 ⟨h.ext.st2 (by omega) _ _,h.ba.set2 _ _,h.bb.far2 (by omega) _ _,h.rr.far2 (by omega) _ _,hz.st2 h.ba (by decide) _ _,h.hy.st2 h.ba (by decide) _ _⟩
theorem GcdSt.stB (h:GcdSt w wc x y a b) (hz:IsI wc z v) :
  GcdSt w ((wc.setCell ⟨w.heap.size+1,0,none⟩ (.bool z.n)).setCell ⟨w.heap.size+1,1,none⟩ (.slice z.s.a z.s.len z.s.cap)) x z a v:=
 ⟨h.ext.st2 (by omega) _ _,h.ba.far2 (by omega) _ _,h.bb.set2 _ _,h.rr.far2 (by omega) _ _,h.hx.st2 h.bb (by decide) _ _,hz.st2 h.bb (by decide) _ _⟩
theorem GcdSt.start (w:World) (hx:IsI w x a) (hy:IsI w y b) :
  GcdSt w (((w.alloc (Obj.cells (iv x) 37)).alloc (Obj.cells (iv y) 37)).alloc (Obj.cells (iv zI) 37)) x y a b:=by
 have e:Ext w (((w.alloc (Obj.cells (iv x) 37)).alloc (Obj.cells (iv y) 37)).alloc (Obj.cells (iv zI) 37)):=(((Ext.rf w).al _).al _).al _
 exact⟨e,((Box.new rfl).al _).al _,(Box.new (by simp)).al _,Box.new (by simp),hx.keep e,hy.keep e⟩
end
theorem len_zero_iff {w:World} {x:IV} {z:Int} (h:IsI w x z):x.s.len=0↔z=0:=by
 obtain⟨l,hl,hn,hd,_,hz,h0,_⟩:=h.open_
 have e:x.s.len=l.length:=hl.1.1
 rw[e,hz]
 constructor
 ·intro h
  rw[List.eq_nil_of_length_eq_zero h]
  unfold sg;split<;>simp[valL]
 ·intro h
  have:valL l=0:=by unfold sg at h;split at h<;>omega
  rw[(valL_eq_zero hd hn).1 this];rfl
theorem isI_abs {w:World} {x:IV} {z:Int} (h:IsI w x z):∃ l,IsL w x.s .u32 l∧sg false (valL l)=z.natAbs∧Sm (sg false (valL l)):=by
 obtain⟨l,hl,hn,hd,_,hz,h0,hs⟩:=h.open_
 have h1:=valL_nonneg hd
 have e:sg false (valL l)=z.natAbs:=by rw[hz,natAbs_sg,sg_false];omega
 exact⟨l,hl,e,by rw[e];exact hs.le (by omega)⟩
theorem gcd_step {a b:Int}:Int.gcd b (a % b)=Int.gcd a b:=by
 have e:=Int.mul_ediv_add_emod a b
 apply Nat.dvd_antisymm
 ·rw[←Int.natCast_dvd_natCast]
  have h1:=Int.gcd_dvd_left b (a % b)
  have h2:=Int.gcd_dvd_right b (a % b)
  refine Int.dvd_coe_gcd ?_ h1
  have h3:=Int.dvd_add (Int.dvd_mul_of_dvd_left (c:=a / b) h1) h2
  rwa[e] at h3
 ·rw[←Int.natCast_dvd_natCast]
  have h1:=Int.gcd_dvd_left a b
  have h2:=Int.gcd_dvd_right a b
  refine Int.dvd_coe_gcd h2 ?_
  rw[show a % b=a-b*(a / b) by omega]
  exact Int.dvd_sub h1 (Int.dvd_mul_of_dvd_left h2)
set_option maxRecDepth 100000 in
set_option maxHeartbeats 4000000 in
theorem gcd_any (x y:IV) (a b:Int) (w:World) (hx:IsI w x a) (hy:IsI w y b) :
  Calls Try.prog 67 #[.agg #[.bool x.n,.slice x.s.a x.s.len x.s.cap],.agg #[.bool y.n,.slice y.s.a y.s.len y.s.cap]] w (RetI w (Int.gcd a b)):=by
 have S0:=hd_ (GcdSt.start w hx hy)
 go_enter Try.func67,Try.ntmps67
 go_wp2
 go_loopg [8] b.natAbs (fun g s8 wr => ∃ (x' y':IV) (a' b':Int),GcdSt w wr x' y' a' b'∧Int.gcd a' b'=Int.gcd a b∧b'.natAbs=g)
 case atStart=>exact⟨_,_,_,_,S0.out,rfl,rfl⟩
 case round =>
  clear S0 hx hy
  obtain⟨x',y',a',b',S,hg,rfl⟩:=hrel
  replace hg:=hd_ hg
  obtain⟨c0,c1,-,-⟩:=S.ba.facts
  obtain⟨c2,c3,-,-⟩:=S.bb.facts
  have hlz:=len_zero_iff S.hy
  by_cases hb:b'=0
  ·have hl0:y'.s.len=0:=hlz.2 hb
   obtain⟨l,hl,hlv,hls⟩:=isI_abs S.hx
   have hres:Hd (sg false (valL l)=Int.gcd a b):=hd_ (by rw[hlv,←hg.out,hb];simp)
   replace hlv:=hd_ hlv
   clear hlz
   replace hb:=hd_ hb
   go_wp2_with fail
   refine (made_any false x'.s l _ hl hls).mono ?_
   rintro e w1 ⟨z,rfl,hz,h1⟩
   have S1:=S.keep h1
   obtain⟨d0,d1,d2,d3⟩:=S1.rr.facts
   clear c0 c1 c2 c3
   go_wp2
   refine bodyPost_ret (v:=.agg #[.bool z.n,.slice z.s.a z.s.len z.s.cap]) (by simp[results,Try.results67,go_sem,d0,d1]) rfl ⟨z,rfl,?_,S1.ext.st2 (by omega) _ _⟩
   rw[hres.out] at hz
   exact hz.st2 S1.rr (by decide) _ _
  ·have hl0:0<y'.s.len:=by
    rcases Nat.eq_zero_or_pos y'.s.len with h | h
    ·exact absurd (hlz.1 h) hb
    ·exact h
   clear hlz
   go_wp2_with fail
   refine (div_any x' y' a' b' _ S.hx S.hy hb).mono ?_
   rintro e w1 ⟨q,r,rfl,hq,hr,h1⟩
   have S1:=S.keep h1
   clear c0 c1 c2 c3
   go_wp2
   obtain⟨W2,hW2⟩:∃ W2,W2=((w1.alloc (Obj.cells #[Value.bool q.n,Value.slice q.s.a q.s.len q.s.cap] 37)).alloc (Obj.cells #[Value.bool r.n,Value.slice r.s.a r.s.len r.s.cap] 37)).alloc (Obj.cells #[Value.int IntKind.i64 0,Value.int IntKind.i64 0] 27):=⟨_,rfl⟩
   have e12:Ext w1 W2:=by rw[hW2];exact (((Ext.rf _).al _).al _).al _
   have S2:=S1.keep e12
   have br:Box W2 (w1.heap.size+1) 37 (iv r):=by rw[hW2];exact (Box.new (by simp)).al _
   have hr2:=hr.keep e12
   rw[←hW2]
   have hz0:w.heap.size+1<w1.heap.size:=S1.bb.lt
   clear hW2 hq hr S h1 S1
   have hEnd:∀ W3,Ext W2 W3→EndSt [(w.heap.size,37),(w.heap.size+1,37)] w W2 W3:=fun W3 hW=>by
    refine⟨S2.ext.tr hW,.of hW,fun e he => ?_⟩
    simp only[List.mem_cons,List.not_mem_nil,or_false] at he
    rcases he with rfl | rfl
    ·exact⟨Nat.le_refl _,(S2.keep hW).ba.bx,by show 116≠37;decide⟩
    ·exact⟨by simp,(S2.keep hW).bb.bx,by show 116≠37;decide⟩
   refine wpG_begin (S:=(fun w'=>EndSt [(w.heap.size,37),(w.heap.size+1,37)] w W2 w'∧w'.cell? ⟨w1.heap.size+1,0,none⟩=some (Value.bool r.n)∧w'.cell? ⟨w1.heap.size+1,1,none⟩=some (Value.slice r.s.a r.s.len r.s.cap))) (fun _=>True) (fun w'=>w'.cell? ⟨w.heap.size+1,0,none⟩=some (Value.bool y'.n)∧w'.cell? ⟨w.heap.size+1,1,none⟩=some (Value.slice y'.s.a y'.s.len y'.s.cap)) 2 3 (by kernel_rfl) (fun W3 hW3 => ?_) (fun W3 hW3 hHeld => ?_)
   ·(have S3:=S2.keep hW3;obtain⟨c4,c5,f4,f5⟩:=S3.ba.facts;obtain⟨c6,c7,f6,f7⟩:=S3.bb.facts;obtain⟨r0,r1,-,-⟩:=(br.keep hW3).facts)
    (exact⟨⟨hEnd _ hW3,r0,r1⟩,trivial,c6,c7⟩)
   (have S3:=S2.keep hW3;obtain⟨c4,c5,f4,f5⟩:=S3.ba.facts;obtain⟨c6,c7,f6,f7⟩:=S3.bb.facts;obtain⟨r0,r1,-,-⟩:=(br.keep hW3).facts)
   refine wpG_takeB (i:=0) (oi:=_) (v:=?_) rfl (by kernel_rfl) (by kernel_rfl) (by kernel_rfl) (by decide) (by decide) (by kernel_rfl) (by kernel_rfl) (fun _ _ _ h=>h) (Or.inl ⟨by rfl,?_⟩) hHeld ?_
   rotate_left
   ·intro w hSw;(try dsimp only at hSw);go_simp;(try with_reducible rfl)
   (try simp only[putR])
   replace hHeld:=hHeld.more 0
   refine wpG_take (i:=1) (oi:=_) (v:=?_) rfl (by kernel_rfl) (by kernel_rfl) (by kernel_rfl) (by decide) (by decide) (fun _ _ _ h=>h) (Or.inl ⟨by rfl,?_⟩) hHeld ?_
   rotate_left
   ·intro w hSw;(try dsimp only at hSw);go_simp;(try with_reducible rfl)
   (try simp only[putR])
   replace hHeld:=hHeld.more 1
   refine wpG_step (i:=2) (o:=_) (by kernel_rfl) rfl (fun K hK => ?_)
   go_simp
   refine hK.out _ _ ⟨?_,notF (by kernel_rfl),fun _ => ?_⟩ (fun hHeld' => ?_)
   ·(try dsimp only)
    (first | (with_reducible exact trivial) | (with_reducible exact⟨hHeld.s.1.h1 _ _,cell_st2' hHeld.s.2.1 (by omega) _ _,cell_st2' hHeld.s.2.2 (by omega) _ _⟩) | (with_reducible exact⟨hHeld.s.1.h2 _ _,cell_st2' hHeld.s.2.1 (by omega) _ _,cell_st2' hHeld.s.2.2 (by omega) _ _⟩) | (with_reducible exact⟨cell_st2' (hHeld.b (by kernel_rfl)).1 (by omega) _ _,cell_st2' (hHeld.b (by kernel_rfl)).2 (by omega) _ _⟩))
   ·(try dsimp only)
    (first | (with_reducible exact trivial) | (with_reducible exact⟨hHeld.s.1.h1 _ _,cell_st2' hHeld.s.2.1 (by omega) _ _,cell_st2' hHeld.s.2.2 (by omega) _ _⟩) | (with_reducible exact⟨hHeld.s.1.h2 _ _,cell_st2' hHeld.s.2.1 (by omega) _ _,cell_st2' hHeld.s.2.2 (by omega) _ _⟩) | (with_reducible exact⟨cell_st2' (hHeld.b (by kernel_rfl)).1 (by omega) _ _,cell_st2' (hHeld.b (by kernel_rfl)).2 (by omega) _ _⟩))
   clear hHeld
   have hHeld:=hHeld'
   clear hHeld'
   clear hK K
   (try simp only[putR])
   refine wpG_step (i:=3) (o:=_) (by kernel_rfl) rfl (fun K hK => ?_)
   go_simp
   refine hK.out _ _ ⟨?_,notF (by kernel_rfl),notF (by kernel_rfl)⟩ (fun hHeld' => ?_)
   ·(try dsimp only)
    (first | (with_reducible exact trivial) | (with_reducible exact⟨hHeld.s.1.h1 _ _,cell_st2' hHeld.s.2.1 (by omega) _ _,cell_st2' hHeld.s.2.2 (by omega) _ _⟩) | (with_reducible exact⟨hHeld.s.1.h2 _ _,cell_st2' hHeld.s.2.1 (by omega) _ _,cell_st2' hHeld.s.2.2 (by omega) _ _⟩) | (with_reducible exact⟨cell_st2' (hHeld.b (by kernel_rfl)).1 (by omega) _ _,cell_st2' (hHeld.b (by kernel_rfl)).2 (by omega) _ _⟩))
   clear hHeld
   have hHeld:=hHeld'
   clear hHeld'
   clear hK K
   (try simp only[putR])
   refine wpG_done (by kernel_rfl) ?_ _
   go_wp2
   go_roundg ((a' % b').natAbs)
   case rel=>exact⟨y',r,b',a' % b',(S3.stA S3.hy).stB ((hr2.keep hW3).st2 S3.ba (by decide) _ _),by rw[gcd_step];exact hg.out,rfl⟩
   case measure =>
    have h1:=Int.emod_nonneg a' hb
    have h2:=Int.emod_lt a' hb
    omega
end Go.Proofs.Ytdjbfgfbpimakaa
end

section
namespace Go.Proofs.Ytdjbfgfbpimakaa
open Go.RowKit
end Go.Proofs.Ytdjbfgfbpimakaa
end

section
namespace Go.Proofs.Ytdjbfgfbpimakaa.Z4
open Go.RowKit
end Go.Proofs.Ytdjbfgfbpimakaa.Z4
end

section
namespace Go.Proofs.Ytdjbfgfbpimakaa
open Go.RowKit
end Go.Proofs.Ytdjbfgfbpimakaa
end

section
namespace Go.Proofs.Ytdjbfgfbpimakaa
open Go.RowKit
def St (w wc:World) (L:List (Nat × TypeId × Array Value)):Prop:=
 Ext w wc∧(L.map (·.1)).Pairwise (· > ·)∧∀ e∈L,w.heap.size≤e.1∧Box wc e.1 e.2.1 e.2.2
theorem Box.set1 {w:World} {n:Nat} {T:TypeId} {vs:Array Value} (h:Box w n T vs) (k:Nat) (u:Value):Box (w.setCell ⟨n,k,none⟩ u) n T (vs.setIfInBounds k u):=by
 unfold Box at h ⊢
 simp[World.setCell,Array.getElem?_modify,h]
section
variable {w wc w':World} {L:List (Nat × TypeId × Array Value)} {n i k:Nat} {T:TypeId} {vs:Array Value}
theorem St.nil (w:World):St w w []:=⟨Ext.rf w,by simp,fun e he=>by cases he⟩
theorem St.keep (h:St w wc L) (e:Ext wc w'):St w w' L:=⟨h.1.tr e,h.2.1,fun x hx=>⟨(h.2.2 x hx).1,(h.2.2 x hx).2.keep e⟩⟩
theorem St.dr (h:St w wc L):St w wc.drew L:=h.keep (Ext.rf _).dr
theorem St.box (h:St w wc L) (i:Nat) (hi:L[i]? = some (n,T,vs)):Box wc n T vs:=(h.2.2 _ (List.mem_of_getElem? hi)).2
theorem St.lt (h:St w wc L) (i:Nat) (hi:L[i]? = some (n,T,vs)):n<wc.heap.size:=(h.box i hi).lt
def Wr (n:Nat) (T:TypeId) (w3 w':World):Prop:=(∀ b,b<w3.heap.size→b≠n→w'.heap[b]? = w3.heap[b]?)∧w3.heap.size≤w'.heap.size∧Bx w' T n
theorem Wr.keep {w3 w' w'':World} (h:Wr n T w3 w') (e:Ext w' w''):Wr n T w3 w'':=⟨fun b hb hn=>(e.block b (Nat.lt_of_lt_of_le hb h.2.1)).trans (h.1 b hb hn),Nat.le_trans h.2.1 e.size,h.2.2.keep e⟩
theorem Wr.st2 {w3 w':World} (h:Wr n T w3 w') (u v:Value):Wr n T w3 ((w'.setCell ⟨n,0,none⟩ u).setCell ⟨n,1,none⟩ v):=
 ⟨fun b hb hn=>(Below.heap_setCell _ ⟨n,1,none⟩ _ b hn).trans ((Below.heap_setCell _ ⟨n,0,none⟩ _ b hn).trans (h.1 b hb hn)),by simpa using h.2.1,h.2.2.st2 _ _⟩
theorem Wr.cell {w3 w':World} (h:Wr n T w3 w') {m k:Nat} {v:Value} (hm:w3.cell? ⟨m,k,none⟩=some v) (hn:m≠n):w'.cell? ⟨m,k,none⟩=some v:=by
 have hl:m<w3.heap.size:=by
  rcases Nat.lt_or_ge m w3.heap.size with h | h
  ·exact h
  ·simp[World.cell?,Array.getElem?_eq_none h] at hm
 exact (World.cell?_of_block (w:=w3) (w':=w') (a:=⟨m,k,none⟩) (h.1 m hl hn)).trans hm
end
end Go.Proofs.Ytdjbfgfbpimakaa
end

section
namespace Go.Proofs.Ytdjbfgfbpimakaa.Z4
open Go.RowKit
end Go.Proofs.Ytdjbfgfbpimakaa.Z4
end

section
namespace Go.Proofs.Ytdjbfgfbpimakaa
open Go.RowKit
theorem parse_dec {t:List UInt8} (h:parseC t=0):dec (parseZ t)=t:=by
 unfold parseC at h
 split at h
 ·rename_i hok
  split at h
  ·rename_i hl
   unfold parseZ
   rw[if_pos hok,if_pos hl]
   exact dec_numVal hok
  ·omega
 ·omega
end Go.Proofs.Ytdjbfgfbpimakaa
end

section
namespace Go.Proofs.Ytdjbfgfbpimakaa.M
open Go.RowKit
set_option linter.unusedVariables false
def digs (B n:Nat):List Int:=if h:n=0∨B<2 then [] else ((n % B:Nat):Int)::digs B (n / B)
termination_by n
decreasing_by exact Nat.div_lt_self (by omega) (by omega)
theorem digs_eq {B:Nat} (hB:2≤B) {v:List Int→Int} (v0:v []=0) (v1:∀ x t,v (x::t)=x+B*v t):∀ l:List Int,(∀ x∈l,0≤x∧x<B)→(l=[]∨at_ l (l.length-1)≠0)→0≤v l∧(l≠[]→0<v l)∧digs B (v l).toNat=l
 | [],_,_=>by
  rw[v0]
  refine⟨by omega,fun h=>absurd rfl h,?_⟩
  rw[digs]
  simp
 | x::t,hd,hn=>by
  have hx:=hd x (by simp)
  have ih:=digs_eq hB v0 v1 t (fun y hy=>hd y (by simp[hy])) (by
   cases t with
   | nil=>exact .inl rfl
   | cons y t =>
    right
    rcases hn with h | h
    ·cases h
    ·simpa[at_] using h)
  obtain⟨i1,i2,i3⟩:=ih
  rw[v1]
  have hp0:0≤(B:Int)*v t:=Int.mul_nonneg (by omega) i1
  have hpos:0<x+B*v t:=by
   cases t with
   | nil =>
    rcases hn with h | h
    ·cases h
    ·simp[at_] at h;omega
   | cons y t =>
    have:=i2 (by simp)
    have:0<(B:Int)*v (y::t):=Int.mul_pos (by omega) this
    omega
  refine⟨by omega,fun _=>hpos,?_⟩
  have e:(x+B*v t).toNat=x.toNat+B*(v t).toNat:=by
   have:((x.toNat+B*(v t).toNat:Nat):Int)=x+B*v t:=by
    rw[Int.natCast_add,Int.natCast_mul,Int.toNat_of_nonneg hx.1,Int.toNat_of_nonneg i1]
   omega
  rw[digs,dif_neg (by omega),e]
  have h1:(x.toNat+B*(v t).toNat) % B=x.toNat:=by rw[Nat.add_mul_mod_self_left];exact Nat.mod_eq_of_lt (by omega)
  have h2:(x.toNat+B*(v t).toNat) / B=(v t).toNat:=by rw[Nat.add_mul_div_left _ _ (by omega),Nat.div_eq_of_lt (by omega)];omega
  rw[h1,h2,i3,Int.toNat_of_nonneg hx.1]
theorem digs_spec {B:Nat} (hB:2≤B) {v:List Int→Int} (v0:v []=0) (v1:∀ x t,v (x::t)=x+B*v t) (n:Nat):(∀ x∈digs B n,0≤x∧x<B)∧(digs B n=[]∨at_ (digs B n) ((digs B n).length-1)≠0)∧v (digs B n)=n:=by
 induction n using Nat.strongRecOn with
 | _ n ih =>
  by_cases hn:n=0
  ·subst hn
   have e:digs B 0=[]:=by rw[digs];simp
   rw[e,v0]
   exact⟨by simp,.inl rfl,rfl⟩
  ·have hlt:=Nat.div_lt_self (n:=n) (k:=B) (by omega) (by omega)
   obtain⟨i1,i2,i3⟩:=ih _ hlt
   have e:digs B n=((n % B:Nat):Int)::digs B (n / B):=by rw[digs,dif_neg (by omega)]
   have hm:=Nat.mod_lt n (show 0<B by omega)
   rw[e,v1,i3]
   refine⟨?_,.inr ?_,?_⟩
   ·intro x hx
    rcases List.mem_cons.1 hx with rfl | hx
    ·exact⟨by omega,by omega⟩
    ·exact i1 x hx
   ·rcases i2 with h | h
    ·rw[h]
     simp only[at_,List.length_singleton,Nat.sub_self,List.getD_cons_zero]
     rw[h,v0] at i3
     have hq:n / B=0:=by omega
     have:=Nat.div_add_mod n B
     rw[hq] at this
     omega
    ·have hne:digs B (n / B)≠[]:=by
      intro h0
      rw[h0] at h
      exact h rfl
     have:(((n % B:Nat):Int)::digs B (n / B)).length-1=(digs B (n / B)).length-1+1:=by
      have:=List.length_pos_iff.2 hne
      simp only[List.length_cons]
      omega
     rw[this]
     exact h
   ·have:=Nat.div_add_mod n B
    have h2:((n % B:Nat):Int)+(B:Int)*((n / B:Nat):Int)=((n % B+B*(n / B):Nat):Int):=by rw[Int.natCast_add,Int.natCast_mul]
    rw[h2]
    congr 1
    omega
def Av (A:List TypeId) (base:Nat→Prop) (w:World):Prop:=∀ b,base b→∀ c T fr,w.heap[b]? = some (.cells c T fr)→T ∉ A
abbrev NBs (base:Nat→Prop) (w:World):Nat→Prop:=fun b=>b<w.heap.size∧¬ base b
section
variable {P:Program} {A:List TypeId} {f:FuncId} {d d1 d2 d3:D} {w:World} {base:Nat→Prop} {N:Nat→Prop} {v:Value}
theorem V_str (t:List UInt8):V w N (.string (bs t)) (.str t):=V.str (bs t)
theorem str_V {t:List UInt8} (h:V w N v (.str t)):v = .string (bs t):=by
 generalize he:D.str t=e at h
 cases h with
 | str s=>injection he with he;subst he;rfl
 | _=>cases he
theorem int_V {k:IntKind} {n:Int} (h:V w N v (.int k n)):v = .int k n:=by
 generalize he:D.int k n=e at h
 cases h with
 | int k n=>injection he with h1 h2;subst h1 h2;rfl
 | _=>cases he
theorem bool_V {b:Bool} (h:V w N v (.bool b)):v = .bool b:=by
 generalize he:D.bool b=e at h
 cases h with
 | bool b=>injection he with h1;subst h1;rfl
 | _=>cases he
theorem V_lst {k:IntKind} {s:SV} {l:List Int} (hA:ET k∈A) (hav:Av A base w) (h:IsL w s k l):V w (NBs base w) (.slice s.a s.len s.cap) (.list (ET k) 1 (l.map (D.int k))):=by
 obtain⟨ao,cap,rfl,h1,h2,h3⟩:=h.open_
 by_cases hl:l=[]
 ·subst hl
  exact .empty _ _ _ _ h2
 ·obtain⟨b,off,rfl,⟨c,fr,hb⟩,hc⟩:=h3 (List.length_pos_iff.2 hl)
  have hlt:b<w.heap.size:=Ty.lt ⟨c,fr,hb⟩
  have hcell:∀ j,j<l.length→c[off+j]? = some (.int k (at_ l j)):=fun j hj=>by
   have:=hc j hj
   simp only[World.cell?,hb] at this
   simpa using this
  have:=V.list (w:=w) (N:=NBs base w) b off cap (ET k) 1 (l.map (D.int k)) c fr (.of hb) ⟨hlt,fun hh=>hav b hh _ _ _ hb hA⟩ (by simpa using h1) h2 ?_ ?_ ?_
  ·rw[List.length_map] at this
   exact this
  ·intro e he
   obtain⟨x,hx,rfl⟩:=List.mem_map.1 he
   exact⟨rfl,by simp[D.cells,D.one]⟩
  all_goals
   intro i e j q he hq
   rw[List.getElem?_map,Option.map_eq_some_iff] at he
   obtain⟨x,hx,rfl⟩:=he
   obtain⟨hi,hx⟩:=List.getElem?_eq_some_iff.1 hx
   have hci:=hcell i hi
   match j,hq with
   | 0,hq =>
    simp only[D.cells,List.getElem?_cons_zero,Option.some.injEq] at hq
    subst hq
    simp only[Nat.mul_one,Nat.add_zero]
    first
     | (exact (Array.getElem?_eq_some_iff.1 hci).1)
     | (rw[Array.getD_eq_getD_getElem?,hci,at_lt hi,hx];exact .int k x)
   | j+1,hq=>simp[D.cells] at hq
theorem V_isL {k:IntKind} {l:List Int} (h:V w N v (.list (ET k) 1 (l.map (D.int k)))) (hf:∀ x∈l,Fit k x):∃ s:SV,v = .slice s.a s.len s.cap∧IsL w s k l:=by
 generalize he:D.list (ET k) 1 (l.map (D.int k))=e at h
 cases h with
 | empty a cap T sz hc =>
  injection he with e1 e2 e3
  have:l=[]:=by simpa using e3
  subst this
  exact⟨⟨a,0,cap⟩,rfl,⟨⟨rfl,Nat.zero_le _,hc,by simp⟩,by simp⟩⟩
 | list b o cap T sz m c fr hb hn h1 h2 h3 h4 h5 =>
  injection he with e1 e2 e3
  subst e1 e2 e3
  obtain⟨T',hb,hT⟩:=hb
  obtain rfl:T'=ET k:=hT.resolve_right (by cases k<;>decide)
  refine⟨⟨some ⟨b,o,none⟩,l.length,cap⟩,by simp,IsL.mk_ (by simpa using h1) h2 (fun _=>⟨b,o,rfl,⟨c,fr,hb⟩,fun j hj => ?_⟩) hf⟩
  have hj':(l.map (D.int k))[j]? = some (.int k (at_ l j)):=by simp[at_,hj]
  have q1:=h4 j _ 0 _ hj' rfl
  have q2:=h5 j _ 0 _ hj' rfl
  simp only[Nat.mul_one,Nat.add_zero] at q1 q2
  rw[cell_at hb q1,int_V q2]
 | _=>cases he
theorem agg2_V {v1 v2:Value} (h1:V w N v1 d1) (h2:V w N v2 d2) (o1:d1.one=true) (o2:d2.one=true):V w N (.agg #[v1,v2]) (.agg [d1,d2]):=by
 refine .agg _ _ rfl (by simp[o1,o2]) fun i e he => ?_
 match i,he with
 | 0,he=>simp at he;subst he;exact h1
 | 1,he=>simp at he;subst he;exact h2
 | i+2,he=>simp at he
theorem agg4_V {v1 v2 v3 v4:Value} {d4:D} (h1:V w N v1 d1) (h2:V w N v2 d2) (h3:V w N v3 d3) (h4:V w N v4 d4) (o1:d1.one=true) (o2:d2.one=true) (o3:d3.one=true) (o4:d4.one=true):V w N (.agg #[v1,v2,v3,v4]) (.agg [d1,d2,d3,d4]):=by
 refine .agg _ _ rfl (by simp[o1,o2,o3,o4]) fun i e he => ?_
 match i,he with
 | 0,he=>simp at he;subst he;exact h1
 | 1,he=>simp at he;subst he;exact h2
 | 2,he=>simp at he;subst he;exact h3
 | 3,he=>simp at he;subst he;exact h4
 | i+4,he=>simp at he
theorem tup2_V {v1 v2:Value} (h1:V w N v1 d1) (h2:V w N v2 d2):V w N (.tuple #[v1,v2]) (.tup [d1,d2]):=by
 refine .tup _ _ rfl fun i e he => ?_
 match i,he with
 | 0,he=>simp at he;subst he;exact h1
 | 1,he=>simp at he;subst he;exact h2
 | i+2,he=>simp at he
theorem tup3_V {v1 v2 v3:Value} (h1:V w N v1 d1) (h2:V w N v2 d2) (h3:V w N v3 d3):V w N (.tuple #[v1,v2,v3]) (.tup [d1,d2,d3]):=by
 refine .tup _ _ rfl fun i e he => ?_
 match i,he with
 | 0,he=>simp at he;subst he;exact h1
 | 1,he=>simp at he;subst he;exact h2
 | 2,he=>simp at he;subst he;exact h3
 | i+3,he=>simp at he
theorem V_agg2 (h:V w N v (.agg [d1,d2])):∃ v1 v2,v = .agg #[v1,v2]∧V w N v1 d1∧V w N v2 d2:=by
 generalize he:D.agg [d1,d2]=e at h
 cases h with
 | agg cs l h1 h2 h3 =>
  injection he with he
  subst he
  obtain⟨cs⟩:=cs
  match cs,h1 with
  | [x,y],h1=>exact⟨x,y,rfl,h3 0 _ rfl,h3 1 _ rfl⟩
  | [],h1 | [_],h1 | _::_::_::_,h1=>simp at h1
 | _=>cases he
theorem V_agg4 {d4:D} (h:V w N v (.agg [d1,d2,d3,d4])):∃ v1 v2 v3 v4,v = .agg #[v1,v2,v3,v4]∧V w N v1 d1∧V w N v2 d2∧V w N v3 d3∧V w N v4 d4:=by
 generalize he:D.agg [d1,d2,d3,d4]=e at h
 cases h with
 | agg cs l h1 h2 h3 =>
  injection he with he
  subst he
  obtain⟨cs⟩:=cs
  match cs,h1 with
  | [x,y,z,t],h1=>exact⟨x,y,z,t,rfl,h3 0 _ rfl,h3 1 _ rfl,h3 2 _ rfl,h3 3 _ rfl⟩
  | [],h1 | [_],h1 | [_,_],h1 | [_,_,_],h1 | _::_::_::_::_::_,h1=>simp at h1
 | _=>cases he
theorem Av.later {w':World} (h:Av A base w) (hlow:∀ b,base b→b<w.heap.size) (e:Ext w w'):Av A base w':=fun b hb c T fr hc=>h b hb c T fr (by rw[←e.block b (hlow b hb)];exact hc)
theorem con1 (H:∀ (base:Nat→Prop) w v1,Av A base w→V w (NBs base w) v1 d1→Calls P f #[v1] w fun e w' => ∃ v,e = .returned v∧(∀ base,Av A base w'→V w' (NBs base w') v d)∧Ext w w'):Con P A f [d1] d:=by
 intro base w vs hlow hav hsz hargs
 have e:vs = #[vs.getD 0 undef]:=by
  obtain⟨vs⟩:=vs
  match vs,hsz with
  | [x],_=>rfl
  | [],h | _::_::_,h=>simp at h
 rw[e]
 refine (H base w _ hav (hargs 0 _ rfl)).mono ?_
 rintro e w' ⟨v,rfl,hv,hext⟩
 exact⟨v,rfl,hv base (Av.later hav hlow hext),hext⟩
theorem con2 (H:∀ (base:Nat→Prop) w v1 v2,Av A base w→V w (NBs base w) v1 d1→V w (NBs base w) v2 d2→Calls P f #[v1,v2] w fun e w' => ∃ v,e = .returned v∧(∀ base,Av A base w'→V w' (NBs base w') v d)∧Ext w w'):Con P A f [d1,d2] d:=by
 intro base w vs hlow hav hsz hargs
 have e:vs = #[vs.getD 0 undef,vs.getD 1 undef]:=by
  obtain⟨vs⟩:=vs
  match vs,hsz with
  | [x,y],_=>rfl
  | [],h | [_],h | _::_::_::_,h=>simp at h
 rw[e]
 refine (H base w _ _ hav (hargs 0 _ rfl) (hargs 1 _ rfl)).mono ?_
 rintro e w' ⟨v,rfl,hv,hext⟩
 exact⟨v,rfl,hv base (Av.later hav hlow hext),hext⟩
def AN:List TypeId:=[116,3]
def encI (z:Int):D:=.agg [.bool (decide (z<0)),.list 116 1 ((digs 4294967296 z.natAbs).map (D.int .u32))]
def encZ (z:Int):D:=.agg [.bool (decide (z<0)),.list 3 1 ((digs 10000 z.natAbs).map (D.int .i64))]
def encFI (a b:Int):D:=.agg [.bool (decide (a<0)),.list 116 1 ((digs 4294967296 a.natAbs).map (D.int .u32)),.bool (decide (b-1<0)),.list 116 1 ((digs 4294967296 (b-1).natAbs).map (D.int .u32))]
def encFZ (a b:Int):D:=.agg [.bool (decide (a<0)),.list 3 1 ((digs 10000 a.natAbs).map (D.int .i64)),.bool (decide (b<0)),.list 3 1 ((digs 10000 b.natAbs).map (D.int .i64))]
theorem I_parts {x:IV} {z:Int} (h:IsI w x z):∃ l,IsL w x.s .u32 l∧digs 4294967296 z.natAbs=l∧x.n=decide (z<0):=by
 obtain⟨l,h1,h2,h3,h4,h5⟩:=h
 obtain⟨g1,g2,g3⟩:=digs_eq (B:=4294967296) (by omega) (v:=valL) rfl (fun _ _=>rfl) l (fun x hx=>by have:=h1.2 x hx;simp only[Fit] at this;omega) h2
 refine⟨l,h1,?_,?_⟩
 ·rw[←g3]
  congr 1
  rw[h3]
  unfold sg
  split<;>omega
 ·cases hn:x.n
  ·rw[hn] at h3
   have:¬ z<0:=by rw[h3];simp[sg];omega
   simp[this]
  ·have hl:l≠[]:=fun e=>by have:=h4 e;rw[hn] at this;cases this
   have:=g2 hl
   have:z<0:=by rw[h3,hn];simp[sg];omega
   simp[this]
theorem V_numI {x:IV} {z:Int} (h:IsI w x z) (hav:Av AN base w):V w (NBs base w) (.bool x.n) (.bool (decide (z<0)))∧V w (NBs base w) (.slice x.s.a x.s.len x.s.cap) (.list 116 1 ((digs 4294967296 z.natAbs).map (D.int .u32))):=by
 obtain⟨l,h1,h2,h3⟩:=I_parts h
 rw[h2,h3]
 exact⟨.bool _,V_lst (k:=.u32) (by simp[AN,ET]) hav h1⟩
theorem V_encI {x:IV} {z:Int} (h:IsI w x z) (hav:Av AN base w):V w (NBs base w) (.agg #[.bool x.n,.slice x.s.a x.s.len x.s.cap]) (encI z):=agg2_V (V_numI h hav).1 (V_numI h hav).2 rfl rfl
theorem V_encFI {x y:IV} {a b:Int} (h:IsI w x a) (k:IsI w y (b-1)) (hav:Av AN base w):V w (NBs base w) (.agg #[.bool x.n,.slice x.s.a x.s.len x.s.cap,.bool y.n,.slice y.s.a y.s.len y.s.cap]) (encFI a b):=agg4_V (V_numI h hav).1 (V_numI h hav).2 (V_numI k hav).1 (V_numI k hav).2 rfl rfl rfl rfl
theorem sg_abs (z:Int):z=sg (decide (z<0)) (z.natAbs:Int):=by
 unfold sg
 by_cases h:z<0
 ·rw[if_pos (by simpa using h)];omega
 ·rw[if_neg (by simpa using h)];omega
theorem numI_V {z:Int} {v1 v2:Value} (h1:V w N v1 (.bool (decide (z<0)))) (h2:V w N v2 (.list 116 1 ((digs 4294967296 z.natAbs).map (D.int .u32)))) (hs:Sm z):∃ x:IV,v1 = .bool x.n∧v2 = .slice x.s.a x.s.len x.s.cap∧IsI w x z:=by
 obtain⟨g1,g2,g3⟩:=digs_spec (B:=4294967296) (by omega) (v:=valL) rfl (fun _ _=>rfl) z.natAbs
 obtain⟨s,rfl,hl⟩:=V_isL (k:=.u32) h2 (fun x hx=>by have:=g1 x hx;simp only[Fit];omega)
 refine⟨⟨decide (z<0),s⟩,bool_V h1,rfl,_,hl,g2,?_,fun e => ?_,hs⟩
 ·rw[g3];exact sg_abs z
 ·rw[e] at g3
  have:(0:Int)=(z.natAbs:Int):=g3
  have:¬ z<0:=by omega
  simp[this]
theorem encI_V {z:Int} (h:V w N v (encI z)) (hs:Sm z):∃ x:IV,v = .agg #[.bool x.n,.slice x.s.a x.s.len x.s.cap]∧IsI w x z:=by
 obtain⟨v1,v2,rfl,h1,h2⟩:=V_agg2 h
 obtain⟨x,rfl,rfl,hx⟩:=numI_V h1 h2 hs
 exact⟨x,rfl,hx⟩
theorem encFI_V {a b:Int} (h:V w N v (encFI a b)) (hs:Sm a) (hb:Sm (b-1)):∃ x y:IV,v = .agg #[.bool x.n,.slice x.s.a x.s.len x.s.cap,.bool y.n,.slice y.s.a y.s.len y.s.cap]∧IsI w x a∧IsI w y (b-1):=by
 obtain⟨v1,v2,v3,v4,rfl,h1,h2,h3,h4⟩:=V_agg4 h
 obtain⟨x,rfl,rfl,hx⟩:=numI_V h1 h2 hs
 obtain⟨y,rfl,rfl,hy⟩:=numI_V h3 h4 hb
 exact⟨x,y,rfl,hx,hy⟩
def flt (c p:Int):D:=.agg [.int .i64 c,.int .i64 p]
theorem V_flt (c p:Int):V w N (.agg #[.int .i64 c,.int .i64 p]) (flt c p):=agg2_V (.int _ _) (.int _ _) rfl rfl
end
end Go.Proofs.Ytdjbfgfbpimakaa.M
end

section
namespace Go.Proofs.Ytdjbfgfbpimakaa
open Go.RowKit
def Cs (w:World) (L:List (Nat × Nat × Value)):Prop:=∀ e∈L,w.cell? ⟨e.1,e.2.1,none⟩=some e.2.2
section
variable {w w':World} {L:List (Nat × Nat × Value)}
theorem Cs.nil (w:World):Cs w []:=fun e he=>by cases he
theorem Cs.cons {b k:Nat} {v:Value} (h:w.cell? ⟨b,k,none⟩=some v) (t:Cs w L):Cs w ((b,k,v)::L):=fun e he=>by
 rcases List.mem_cons.1 he with rfl | he
 ·exact h
 ·exact t e he
theorem cs_cons {b k:Nat} {v:Value}:Cs w ((b,k,v)::L)↔w.cell? ⟨b,k,none⟩=some v∧Cs w L:=
 ⟨fun h=>⟨h _ (.head _),fun e he=>h e (.tail _ he)⟩,fun h=>Cs.cons h.1 h.2⟩
theorem cs_nil:Cs w []↔True:=⟨fun _=>trivial,fun _=>Cs.nil w⟩
theorem Cs.keep (h:Cs w L) (e:Ext w w'):Cs w' L:=fun x hx=>cell_later e (h x hx)
def Off (n:Nat):List (Nat × Nat × Value)→Prop
 | []=>True
 | e::t=>n≠e.1∧Off n t
theorem Off.mem {n:Nat} (h:Off n L):∀ e∈L,n≠e.1:=by
 induction L with
 | nil=>intro e he;cases he
 | cons x t ih =>
  intro e he
  rcases List.mem_cons.1 he with rfl | he
  ·exact h.1
  ·exact ih h.2 e he
theorem Cs.st2 {n:Nat} (h:Cs w L) (hn:Off n L) (u v:Value):Cs ((w.setCell ⟨n,0,none⟩ u).setCell ⟨n,1,none⟩ v) L:=fun e he=>cell_st2' (h e he) (hn.mem e he) _ _
theorem Cs.st1 {n k:Nat} (h:Cs w L) (hn:Off n L) (u:Value):Cs (w.setCell ⟨n,k,none⟩ u) L:=fun e he=>by
 rw[World.cell?_setCell_other _ _ _ _ (by intro e';have:=hn.mem e he;rw[Addr.mk.injEq] at e';omega)]
 exact h e he
end
end Go.Proofs.Ytdjbfgfbpimakaa
end

section
namespace Go.Proofs.Ytdjbfgfbpimakaa
open Go.RowKit
abbrev AE:=Nat × TypeId × Array Value
section
variable {P:Program} {ops:Array Oper} {Q:Exit→Act→World→Prop} {md:Region.Mode} {S A B:World→Prop} {xa xb:Nat}
end
end Go.Proofs.Ytdjbfgfbpimakaa
end

section
namespace Go.Proofs.Ytdjbfgfbpimakaa
open Go.RowKit
theorem bt_ediv {a:Int} {n:Nat} (b:Int) (h:Bt a n):Bt (a / b) n:=h.le (Int.natAbs_ediv_le_natAbs a b)
theorem dec_zero:dec 0=[48]:=by unfold dec decN;rw[if_neg (by omega)];rfl
end Go.Proofs.Ytdjbfgfbpimakaa
end

section
namespace Go.Proofs.Ytdjbfgfbpimakaa
end Go.Proofs.Ytdjbfgfbpimakaa
end

section
namespace Go.Proofs.Ytdjbfgfbpimakaa
end Go.Proofs.Ytdjbfgfbpimakaa
end

section
namespace Go.Proofs.Ytdjbfgfbpimakaa
open Go.RowKit
def Vs (w wc:World) (L:List (Nat × TypeId × Array Value)):Prop:=
 Ext w wc∧(L.map (·.1)).Nodup∧∀ e∈L,w.heap.size≤e.1∧Box wc e.1 e.2.1 e.2.2
section
variable {w wc w':World} {L:List (Nat × TypeId × Array Value)} {n i k:Nat} {T:TypeId} {vs:Array Value}
theorem Vs.nil (w:World):Vs w w []:=⟨Ext.rf w,by simp,fun e he=>by cases he⟩
theorem Vs.ext (h:Vs w wc L):Ext w wc:=h.1
theorem Vs.keep (h:Vs w wc L) (e:Ext wc w'):Vs w w' L:=⟨h.1.tr e,h.2.1,fun x hx=>⟨(h.2.2 x hx).1,(h.2.2 x hx).2.keep e⟩⟩
theorem Vs.dr (h:Vs w wc L):Vs w wc.drew L:=h.keep (Ext.rf _).dr
theorem Vs.add (h:Vs w wc L) (vs:Array Value) (T:TypeId):Vs w (wc.alloc (.cells vs T)) ((wc.heap.size,T,vs)::L):=by
 refine⟨h.1.al _,?_,?_⟩
 ·rw[List.map_cons,List.nodup_cons]
  refine⟨fun hm => ?_,h.2.1⟩
  obtain⟨e,he,he1⟩:=List.mem_map.1 hm
  have:=(h.2.2 e he).2.lt
  omega
 ·intro e he
  rcases List.mem_cons.1 he with rfl | he
  ·exact⟨h.1.size,Box.new rfl⟩
  ·exact⟨(h.2.2 e he).1,(h.2.2 e he).2.al _⟩
theorem Vs.add' (h:Vs w wc L) {vs:Array Value} {T:TypeId} (hn:n=wc.heap.size):Vs w (wc.alloc (.cells vs T)) ((n,T,vs)::L):=by subst hn;exact h.add vs T
theorem Vs.box (h:Vs w wc L) (i:Nat) (hi:L[i]? = some (n,T,vs)):Box wc n T vs:=(h.2.2 _ (List.mem_of_getElem? hi)).2
theorem Vs.ge (h:Vs w wc L) (i:Nat) (hi:L[i]? = some (n,T,vs)):w.heap.size≤n:=(h.2.2 _ (List.mem_of_getElem? hi)).1
theorem Vs.lt (h:Vs w wc L) (i:Nat) (hi:L[i]? = some (n,T,vs)):n<wc.heap.size:=(h.box i hi).lt
theorem Vs.ne (h:Vs w wc L) (i j:Nat) {m:Nat} {U:TypeId} {us:Array Value} (hi:L[i]? = some (n,T,vs)) (hj:L[j]? = some (m,U,us)) (hij:i≠j):n≠m:=by
 rintro rfl
 have h1:(L.map (·.1))[i]? = some n:=by rw[List.getElem?_map,hi];rfl
 have h2:(L.map (·.1))[j]? = some n:=by rw[List.getElem?_map,hj];rfl
 exact hij ((List.getElem?_inj (List.getElem?_eq_some_iff.1 h1).1 h.2.1).1 (h1.trans h2.symm))
theorem Vs.set1 (h:Vs w wc L) (i:Nat) (hi:L[i]? = some (n,T,vs)) (k:Nat) (u:Value):Vs w (wc.setCell ⟨n,k,none⟩ u) (L.set i (n,T,vs.setIfInBounds k u)):=by
 refine⟨h.1.st (h.ge i hi) _,?_,?_⟩
 ·have:(L.set i (n,T,vs.setIfInBounds k u)).map (·.1)=L.map (·.1):=by
   rw[List.map_set]
   apply List.ext_getElem?
   intro j
   rw[List.getElem?_set]
   split
   ·rename_i e
    subst e
    have hl:=(List.getElem?_eq_some_iff.1 hi).1
    rw[if_pos (by simpa using hl),List.getElem?_map,hi]
    rfl
   ·rfl
  rw[this];exact h.2.1
 ·intro e he
  obtain⟨j,hj⟩:=List.mem_iff_getElem?.1 he
  by_cases hij:i=j
  ·subst hij
   have hl:=(List.getElem?_eq_some_iff.1 hi).1
   rw[List.getElem?_set_self hl] at hj
   injection hj with hj
   subst hj
   exact⟨h.ge i hi,(h.box i hi).set1 _ _⟩
  ·rw[List.getElem?_set_ne hij] at hj
   have hm:=h.2.2 e (List.mem_of_getElem? hj)
   exact⟨hm.1,hm.2.far (h.ne j i hj hi (fun e=>hij e.symm)) _⟩
theorem Vs.set2 (h:Vs w wc L) (i:Nat) {a b:Value} (hi:L[i]? = some (n,T,#[a,b])) (u v:Value):Vs w ((wc.setCell ⟨n,0,none⟩ u).setCell ⟨n,1,none⟩ v) (L.set i (n,T,#[u,v])):=by
 have h1:=h.set1 i hi 0 u
 have hl:=(List.getElem?_eq_some_iff.1 hi).1
 have h2:=h1.set1 i (n:=n) (T:=T) (vs:=#[u,b]) (by rw[List.getElem?_set_self hl];rfl) 1 v
 rw[List.set_set] at h2
 exact h2
theorem Vs.facts (h:Vs w wc L) (i:Nat) {a b:Value} (hi:L[i]? = some (n,T,#[a,b])):wc.cell? ⟨n,0,none⟩=some a∧wc.cell? ⟨n,1,none⟩=some b∧wc.frozen? ⟨n,0,none⟩=false∧wc.frozen? ⟨n,1,none⟩=false:=(h.box i hi).facts
theorem Vs.kept2 (h:Vs w wc L) (i:Nat) {U:TypeId} (hi:L[i]? = some (n,T,vs)) (hT:U≠T) (u v:Value):Kept U wc ((wc.setCell ⟨n,0,none⟩ u).setCell ⟨n,1,none⟩ v):=(Kept.rf _ _).st2 (h.box i hi).ty hT u v
end
end Go.Proofs.Ytdjbfgfbpimakaa
end

section
namespace Go.Proofs.Ytdjbfgfbpimakaa
open Go.RowKit
section
variable {w wc w':World} {L:List (Nat × TypeId × Array Value)} {n i:Nat} {T:TypeId}
theorem Vs.set4 (h:Vs w wc L) (i:Nat) {a b c d:Value} (hi:L[i]? = some (n,T,#[a,b,c,d])) (p q r s:Value) :
  Vs w ((((wc.setCell ⟨n,0,none⟩ p).setCell ⟨n,1,none⟩ q).setCell ⟨n,2,none⟩ r).setCell ⟨n,3,none⟩ s) (L.set i (n,T,#[p,q,r,s])):=by
 have hl:=(List.getElem?_eq_some_iff.1 hi).1
 have h1:=h.set1 i hi 0 p
 have h2:=h1.set1 i (n:=n) (T:=T) (vs:=#[p,b,c,d]) (by rw[List.getElem?_set_self hl];rfl) 1 q
 rw[List.set_set] at h2
 have h3:=h2.set1 i (n:=n) (T:=T) (vs:=#[p,q,c,d]) (by rw[List.getElem?_set_self hl];rfl) 2 r
 rw[List.set_set] at h3
 have h4:=h3.set1 i (n:=n) (T:=T) (vs:=#[p,q,r,d]) (by rw[List.getElem?_set_self hl];rfl) 3 s
 rw[List.set_set] at h4
 exact h4
theorem Vs.facts4 (h:Vs w wc L) (i:Nat) {a b c d:Value} (hi:L[i]? = some (n,T,#[a,b,c,d])) :
  wc.cell? ⟨n,0,none⟩=some a∧wc.cell? ⟨n,1,none⟩=some b∧wc.cell? ⟨n,2,none⟩=some c∧wc.cell? ⟨n,3,none⟩=some d ∧
  wc.frozen? ⟨n,0,none⟩=false∧wc.frozen? ⟨n,1,none⟩=false∧wc.frozen? ⟨n,2,none⟩=false∧wc.frozen? ⟨n,3,none⟩=false:=
 have hb:=h.box i hi
 ⟨hb.cell 0 rfl,hb.cell 1 rfl,hb.cell 2 rfl,hb.cell 3 rfl,hb.frozen 0,hb.frozen 1,hb.frozen 2,hb.frozen 3⟩
theorem Vs.kept4 (h:Vs w wc L) (i:Nat) {U:TypeId} {vs:Array Value} (hi:L[i]? = some (n,T,vs)) (hT:U≠T) (p q r s:Value) :
  Kept U wc ((((wc.setCell ⟨n,0,none⟩ p).setCell ⟨n,1,none⟩ q).setCell ⟨n,2,none⟩ r).setCell ⟨n,3,none⟩ s):=
 (((((Kept.rf U wc).st (p:=⟨n,0,none⟩) (h.box i hi).ty hT p).st (p:=⟨n,1,none⟩) ((h.box i hi).ty.st _ _) hT q).st (p:=⟨n,2,none⟩) (((h.box i hi).ty.st _ _).st _ _) hT r).st (p:=⟨n,3,none⟩) ((((h.box i hi).ty.st _ _).st _ _).st _ _) hT s)
theorem Cs.st4 {w:World} {L:List (Nat × Nat × Value)} {n:Nat} (h:Cs w L) (hn:Off n L) (p q r s:Value) :
  Cs ((((w.setCell ⟨n,0,none⟩ p).setCell ⟨n,1,none⟩ q).setCell ⟨n,2,none⟩ r).setCell ⟨n,3,none⟩ s) L:=(((h.st1 hn p).st1 hn q).st1 hn r).st1 hn s
end
end Go.Proofs.Ytdjbfgfbpimakaa
end

section
namespace Go.Proofs.Ytdjbfgfbpimakaa.Z4
open Go.RowKit
end Go.Proofs.Ytdjbfgfbpimakaa.Z4
end

section
namespace Go.Proofs.Ytdjbfgfbpimakaa.Z4
open Go.RowKit
end Go.Proofs.Ytdjbfgfbpimakaa.Z4
end

section
namespace Go.Proofs.Ytdjbfgfbpimakaa
open Go.RowKit
namespace Z4
end Z4
end Go.Proofs.Ytdjbfgfbpimakaa
end
