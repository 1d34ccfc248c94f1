/- Div: the walk. -/
import Derived.Test.YtdjbfgfbpimakaaK6
import Derived.Deep.DeepCutAuto
namespace Go.Proofs.Ytdjbfgfbpimakaa
open Go.RowKit
theorem sg_false (z:Int):sg false z=z:=rfl
theorem div_unique {a b q r:Int} (h:a=b*q+r) (h0:0≤r) (h1:r<b.natAbs):a / b=q∧a % b=r:=by
 have hb:b≠0:=by rintro rfl;simp at h1;omega
 have e:=Int.mul_ediv_add_emod a b
 have g0:=Int.emod_nonneg a hb
 have g1:=Int.emod_lt a hb
 have hd:b*(q-a / b)=a % b-r:=by rw[Int.mul_sub];omega
 have hq:q-a / b=0:=by
  by_cases hz:q-a / b=0
  ·exact hz
  ·exfalso
   have h2:=congrArg Int.natAbs hd
   rw[Int.natAbs_mul] at h2
   have h3:1≤(q-a / b).natAbs:=by omega
   have h4:=Nat.mul_le_mul_left b.natAbs h3
   omega
 have e2:q=a / b:=by omega
 subst e2
 exact⟨rfl,by omega⟩
theorem div_signs {m n:Bool} {A B:Int} (_hA:0≤A) (hB:0<B) :
  ((m=false∨A % B=0)→sg m A / sg n B=sg (!(m == n)) (A / B)∧sg m A % sg n B=A % B) ∧
  (m=true→0<A % B→sg m A / sg n B=sg (!(m == n)) (A / B+1)∧sg m A % sg n B=B-A % B):=by
 have e:=Int.mul_ediv_add_emod A B
 have g0:=Int.emod_nonneg A (show B≠0 by omega)
 have g1:=Int.emod_lt_of_pos A hB
 generalize A / B=q at *
 generalize A % B=r at *
 have hn:(sg n B).natAbs=B.natAbs:=natAbs_sg n B
 constructor
 ·intro h
  apply div_unique
  ·cases m<;>cases n<;>simp[sg] at *<;>grind
  ·exact g0
  ·rw[hn];omega
 ·rintro rfl hr
  apply div_unique
  ·cases n<;>simp[sg]<;>grind
  ·omega
  ·rw[hn];omega
theorem div_le {A B:Int} (hA:0≤A) (hB:0<B):0≤A / B∧A / B≤A∧0≤A % B∧A % B<B∧A % B≤A∧(0<A % B→A / B+1≤A):=by
 have e:=Int.mul_ediv_add_emod A B
 have g0:=Int.emod_nonneg A (show B≠0 by omega)
 have g1:=Int.emod_lt_of_pos A hB
 have g2:0≤A / B:=Int.ediv_nonneg hA (by omega)
 have g3:=Int.ediv_le_self B hA
 refine⟨g2,g3,g0,g1,?_,fun h => ?_⟩
 ·have:=Int.mul_nonneg (show 0≤B by omega) g2;omega
 ·have:=Int.mul_le_mul_of_nonneg_right (show 1≤B by omega) g2;omega
def RetDiv (w:World) (q r c:Int) (e:Ending) (w':World):Prop:=
 ∃ x y:IV,e = .returned (.tuple #[.agg #[.bool x.n,.slice x.s.a x.s.len x.s.cap],.agg #[.bool y.n,.slice y.s.a y.s.len y.s.cap],.agg #[.int .i64 c,.int .i64 0]])∧IsI w' x q∧IsI w' y r∧Ext w w'
structure DivSt (w wc:World) (x y xq xr:IV) (a b q r:Int):Prop where
 ext:Ext w wc
 ba:Box wc w.heap.size 37 (iv x)
 bb:Box wc (w.heap.size+1) 37 (iv y)
 rq:Box wc (w.heap.size+1+1) 37 (iv zI)
 rr:Box wc (w.heap.size+1+1+1) 37 (iv zI)
 rf:Box wc (w.heap.size+1+1+1+1) 27 #[.int .i64 0,.int .i64 0]
 bq:Box wc (w.heap.size+1+1+1+1+1) 37 (iv xq)
 br:Box wc (w.heap.size+1+1+1+1+1+1) 37 (iv xr)
 hx:IsI wc x a
 hy:IsI wc y b
 hq:IsI wc xq q
 hr:IsI wc xr r
section
variable {w wc w':World} {x y xq xr z:IV} {a b q r v:Int}
theorem DivSt.keep (h:DivSt w wc x y xq xr a b q r) (e:Ext wc w'):DivSt w w' x y xq xr a b q r:=
 ⟨h.ext.tr e,h.ba.keep e,h.bb.keep e,h.rq.keep e,h.rr.keep e,h.rf.keep e,h.bq.keep e,h.br.keep e,h.hx.keep e,h.hy.keep e,h.hq.keep e,h.hr.keep e⟩
theorem DivSt.stQ (h:DivSt w wc x y xq xr a b q r) (hz:IsI wc z v) :
  DivSt w ((wc.setCell ⟨w.heap.size+1+1+1+1+1,0,none⟩ (.bool z.n)).setCell ⟨w.heap.size+1+1+1+1+1,1,none⟩ (.slice z.s.a z.s.len z.s.cap)) x y z xr a b v r:=
 ⟨h.ext.st2 (by omega) _ _,h.ba.far2 (by omega) _ _,h.bb.far2 (by omega) _ _,h.rq.far2 (by omega) _ _,h.rr.far2 (by omega) _ _,h.rf.far2 (by omega) _ _,h.bq.set2 _ _,h.br.far2 (by omega) _ _,
  h.hx.st2 h.bq (by decide) _ _,h.hy.st2 h.bq (by decide) _ _,hz.st2 h.bq (by decide) _ _,h.hr.st2 h.bq (by decide) _ _⟩
theorem DivSt.stR (h:DivSt w wc x y xq xr a b q r) (hz:IsI wc z v) :
  DivSt w ((wc.setCell ⟨w.heap.size+1+1+1+1+1+1,0,none⟩ (.bool z.n)).setCell ⟨w.heap.size+1+1+1+1+1+1,1,none⟩ (.slice z.s.a z.s.len z.s.cap)) x y xq z a b q v:=
 ⟨h.ext.st2 (by omega) _ _,h.ba.far2 (by omega) _ _,h.bb.far2 (by omega) _ _,h.rq.far2 (by omega) _ _,h.rr.far2 (by omega) _ _,h.rf.far2 (by omega) _ _,h.bq.far2 (by omega) _ _,h.br.set2 _ _,
  h.hx.st2 h.br (by decide) _ _,h.hy.st2 h.br (by decide) _ _,h.hq.st2 h.br (by decide) _ _,hz.st2 h.br (by decide) _ _⟩
theorem DivSt.start (w:World) (hx:IsI w x a) (hy:IsI w y b) :
  DivSt w (((((((w.alloc (Obj.cells (iv x) 37)).alloc (Obj.cells (iv y) 37)).alloc (Obj.cells (iv zI) 37)).alloc (Obj.cells (iv zI) 37)).alloc (Obj.cells #[.int .i64 0,.int .i64 0] 27)).alloc (Obj.cells (iv zI) 37)).alloc (Obj.cells (iv zI) 37)) x y zI zI a b 0 0:=by
 have e:Ext w (((((((w.alloc (Obj.cells (iv x) 37)).alloc (Obj.cells (iv y) 37)).alloc (Obj.cells (iv zI) 37)).alloc (Obj.cells (iv zI) 37)).alloc (Obj.cells #[.int .i64 0,.int .i64 0] 27)).alloc (Obj.cells (iv zI) 37)).alloc (Obj.cells (iv zI) 37)):=
  (((((((Ext.rf w).al _).al _).al _).al _).al _).al _).al _
 exact⟨e,((((((Box.new rfl).al _).al _).al _).al _).al _).al _,(((((Box.new (by simp)).al _).al _).al _).al _).al _,((((Box.new (by simp)).al _).al _).al _).al _,(((Box.new (by simp)).al _).al _).al _,((Box.new (by simp)).al _).al _,(Box.new (by simp)).al _,Box.new (by simp),
  hx.keep e,hy.keep e,isI_zero _,isI_zero _⟩
theorem DivSt.size (h:DivSt w wc x y xq xr a b q r):w.heap.size+6<wc.heap.size:=h.br.lt
end
abbrev DivL (w:World):List (Nat × TypeId):=[(w.heap.size+1+1,37),(w.heap.size+1+1+1,37),(w.heap.size+1+1+1+1,27)]
theorem end5_keep {L:List (Nat × TypeId)} {w wc w' w'':World} {p1 p2 p3 p4 p5:Addr} {v1 v2 v3 v4 v5:Value} (h:EndSt L w wc w'∧w'.cell? p1=some v1∧w'.cell? p2=some v2∧w'.cell? p3=some v3∧w'.cell? p4=some v4∧w'.cell? p5=some v5) (e:Ext w' w'') :
  EndSt L w wc w''∧w''.cell? p1=some v1∧w''.cell? p2=some v2∧w''.cell? p3=some v3∧w''.cell? p4=some v4∧w''.cell? p5=some v5:=
 ⟨h.1.keep e,cell_later e h.2.1,cell_later e h.2.2.1,cell_later e h.2.2.2.1,cell_later e h.2.2.2.2.1,cell_later e h.2.2.2.2.2⟩
theorem end5_st {L:List (Nat × TypeId)} {w wc w':World} {b:Nat} {T:TypeId} {p1 p2 p3 p4 p5:Addr} {v1 v2 v3 v4 v5:Value} (h:EndSt L w wc w'∧w'.cell? p1=some v1∧w'.cell? p2=some v2∧w'.cell? p3=some v3∧w'.cell? p4=some v4∧w'.cell? p5=some v5)
  (hb:(b,T)∈L) (h1:b≠p1.block) (h2:b≠p2.block) (h3:b≠p3.block) (h4:b≠p4.block) (h5:b≠p5.block) (u v:Value) :
  EndSt L w wc ((w'.setCell ⟨b,0,none⟩ u).setCell ⟨b,1,none⟩ v)∧((w'.setCell ⟨b,0,none⟩ u).setCell ⟨b,1,none⟩ v).cell? p1=some v1∧((w'.setCell ⟨b,0,none⟩ u).setCell ⟨b,1,none⟩ v).cell? p2=some v2∧((w'.setCell ⟨b,0,none⟩ u).setCell ⟨b,1,none⟩ v).cell? p3=some v3∧((w'.setCell ⟨b,0,none⟩ u).setCell ⟨b,1,none⟩ v).cell? p4=some v4∧((w'.setCell ⟨b,0,none⟩ u).setCell ⟨b,1,none⟩ v).cell? p5=some v5:=
 ⟨h.1.st2 hb _ _,cell_st2 h.2.1 h1 _ _,cell_st2 h.2.2.1 h2 _ _,cell_st2 h.2.2.2.1 h3 _ _,cell_st2 h.2.2.2.2.1 h4 _ _,cell_st2 h.2.2.2.2.2 h5 _ _⟩
theorem divEnd_st1 {w wc w':World} {v1 v2 v3 v4 v5:Value} (h:EndSt (DivL w) w wc w'∧w'.cell? ⟨w.heap.size,0,none⟩=some v1∧w'.cell? ⟨w.heap.size+1,0,none⟩=some v2∧w'.cell? ⟨w.heap.size+1+1+1+1+1,1,none⟩=some v3∧w'.cell? ⟨w.heap.size+1+1+1+1+1+1,0,none⟩=some v4∧w'.cell? ⟨w.heap.size+1+1+1+1+1+1,1,none⟩=some v5) (u v:Value):EndSt (DivL w) w wc ((w'.setCell ⟨w.heap.size+1+1,0,none⟩ u).setCell ⟨w.heap.size+1+1,1,none⟩ v)∧((w'.setCell ⟨w.heap.size+1+1,0,none⟩ u).setCell ⟨w.heap.size+1+1,1,none⟩ v).cell? ⟨w.heap.size,0,none⟩=some v1∧((w'.setCell ⟨w.heap.size+1+1,0,none⟩ u).setCell ⟨w.heap.size+1+1,1,none⟩ v).cell? ⟨w.heap.size+1,0,none⟩=some v2∧((w'.setCell ⟨w.heap.size+1+1,0,none⟩ u).setCell ⟨w.heap.size+1+1,1,none⟩ v).cell? ⟨w.heap.size+1+1+1+1+1,1,none⟩=some v3∧((w'.setCell ⟨w.heap.size+1+1,0,none⟩ u).setCell ⟨w.heap.size+1+1,1,none⟩ v).cell? ⟨w.heap.size+1+1+1+1+1+1,0,none⟩=some v4∧((w'.setCell ⟨w.heap.size+1+1,0,none⟩ u).setCell ⟨w.heap.size+1+1,1,none⟩ v).cell? ⟨w.heap.size+1+1+1+1+1+1,1,none⟩=some v5:=
 end5_st h (T:=37) (.head _) (by intro e;dsimp only at e;omega) (by intro e;dsimp only at e;omega) (by intro e;dsimp only at e;omega) (by intro e;dsimp only at e;omega) (by intro e;dsimp only at e;omega) _ _
theorem divEnd_st2 {w wc w':World} {v1 v2 v3 v4 v5:Value} (h:EndSt (DivL w) w wc w'∧w'.cell? ⟨w.heap.size,0,none⟩=some v1∧w'.cell? ⟨w.heap.size+1,0,none⟩=some v2∧w'.cell? ⟨w.heap.size+1+1+1+1+1,1,none⟩=some v3∧w'.cell? ⟨w.heap.size+1+1+1+1+1+1,0,none⟩=some v4∧w'.cell? ⟨w.heap.size+1+1+1+1+1+1,1,none⟩=some v5) (u v:Value):EndSt (DivL w) w wc ((w'.setCell ⟨w.heap.size+1+1+1,0,none⟩ u).setCell ⟨w.heap.size+1+1+1,1,none⟩ v)∧((w'.setCell ⟨w.heap.size+1+1+1,0,none⟩ u).setCell ⟨w.heap.size+1+1+1,1,none⟩ v).cell? ⟨w.heap.size,0,none⟩=some v1∧((w'.setCell ⟨w.heap.size+1+1+1,0,none⟩ u).setCell ⟨w.heap.size+1+1+1,1,none⟩ v).cell? ⟨w.heap.size+1,0,none⟩=some v2∧((w'.setCell ⟨w.heap.size+1+1+1,0,none⟩ u).setCell ⟨w.heap.size+1+1+1,1,none⟩ v).cell? ⟨w.heap.size+1+1+1+1+1,1,none⟩=some v3∧((w'.setCell ⟨w.heap.size+1+1+1,0,none⟩ u).setCell ⟨w.heap.size+1+1+1,1,none⟩ v).cell? ⟨w.heap.size+1+1+1+1+1+1,0,none⟩=some v4∧((w'.setCell ⟨w.heap.size+1+1+1,0,none⟩ u).setCell ⟨w.heap.size+1+1+1,1,none⟩ v).cell? ⟨w.heap.size+1+1+1+1+1+1,1,none⟩=some v5:=
 end5_st h (T:=37) (.tail _ (.head _)) (by intro e;dsimp only at e;omega) (by intro e;dsimp only at e;omega) (by intro e;dsimp only at e;omega) (by intro e;dsimp only at e;omega) (by intro e;dsimp only at e;omega) _ _
theorem divEnd_st3 {w wc w':World} {v1 v2 v3 v4 v5:Value} (h:EndSt (DivL w) w wc w'∧w'.cell? ⟨w.heap.size,0,none⟩=some v1∧w'.cell? ⟨w.heap.size+1,0,none⟩=some v2∧w'.cell? ⟨w.heap.size+1+1+1+1+1,1,none⟩=some v3∧w'.cell? ⟨w.heap.size+1+1+1+1+1+1,0,none⟩=some v4∧w'.cell? ⟨w.heap.size+1+1+1+1+1+1,1,none⟩=some v5) (u v:Value):EndSt (DivL w) w wc ((w'.setCell ⟨w.heap.size+1+1+1+1,0,none⟩ u).setCell ⟨w.heap.size+1+1+1+1,1,none⟩ v)∧((w'.setCell ⟨w.heap.size+1+1+1+1,0,none⟩ u).setCell ⟨w.heap.size+1+1+1+1,1,none⟩ v).cell? ⟨w.heap.size,0,none⟩=some v1∧((w'.setCell ⟨w.heap.size+1+1+1+1,0,none⟩ u).setCell ⟨w.heap.size+1+1+1+1,1,none⟩ v).cell? ⟨w.heap.size+1,0,none⟩=some v2∧((w'.setCell ⟨w.heap.size+1+1+1+1,0,none⟩ u).setCell ⟨w.heap.size+1+1+1+1,1,none⟩ v).cell? ⟨w.heap.size+1+1+1+1+1,1,none⟩=some v3∧((w'.setCell ⟨w.heap.size+1+1+1+1,0,none⟩ u).setCell ⟨w.heap.size+1+1+1+1,1,none⟩ v).cell? ⟨w.heap.size+1+1+1+1+1+1,0,none⟩=some v4∧((w'.setCell ⟨w.heap.size+1+1+1+1,0,none⟩ u).setCell ⟨w.heap.size+1+1+1+1,1,none⟩ v).cell? ⟨w.heap.size+1+1+1+1+1+1,1,none⟩=some v5:=
 end5_st h (T:=27) (.tail _ (.tail _ (.head _))) (by intro e;dsimp only at e;omega) (by intro e;dsimp only at e;omega) (by intro e;dsimp only at e;omega) (by intro e;dsimp only at e;omega) (by intro e;dsimp only at e;omega) _ _
theorem DivSt.end_ {w wc:World} {x y xq xr:IV} {a b q r:Int} (h:DivSt w wc x y xq xr a b q r):EndSt (DivL w) w wc wc.drew:=by
 refine⟨h.ext.dr,(Kept.rf _ _).dr,fun e he => ?_⟩
 simp only[DivL,List.mem_cons,List.not_mem_nil,or_false] at he
 rcases he with rfl | rfl | rfl
 ·exact⟨by simp;omega,h.rq.dr.bx,by show 116≠37;decide⟩
 ·exact⟨by simp;omega,h.rr.dr.bx,by show 116≠37;decide⟩
 ·exact⟨by simp;omega,h.rf.dr.bx,by show 116≠27;decide⟩
set_option maxRecDepth 100000 in
set_option maxHeartbeats 4000000 in
theorem div_ok (x y:IV) (a b:Int) (w:World) (hx:IsI w x a) (hy:IsI w y b) (hb:b≠0) :
  Calls Try.prog 68 #[.agg #[.bool x.n,.slice x.s.a x.s.len x.s.cap],.agg #[.bool y.n,.slice y.s.a y.s.len y.s.cap]] w (RetDiv w (a / b) (a % b) 0):=by
 obtain⟨la,hla,na,da,hlea,hza,h0a,hsa⟩:=hx.open_
 obtain⟨lb,hlb,nb,db,hleb,hzb,h0b,hsb⟩:=hy.open_
 have HLA:=hd_ hla;have HLB:=hd_ hlb
 have hlb0:0<lb.length:=by
  rcases Nat.eq_zero_or_pos lb.length with h | h
  ·have h1:=List.eq_nil_of_length_eq_zero h
   subst h1
   rw[hzb] at hb
   exact absurd (by unfold sg;split<;>simp[valL]) hb
  ·exact h
 have hA0:=valL_nonneg da
 have hB0:0<valL lb:=valL_pos' db nb (by rintro rfl;simp at hlb0)
 have hDL:=hd_ (div_le hA0 hB0)
 have hsA:Hd (Sm (valL la)):=hd_ (by rw[hza] at hsa;exact hsa.le (by rw[natAbs_sg];exact Nat.le_refl _))
 obtain⟨ny,sy⟩:=y
 obtain⟨bo,cb,rfl,hcb,hcbm,hopb⟩:=hlb.open_
 obtain⟨b2,ob,rfl,hbb,gb⟩:=hopb hlb0
 simp only at hzb h0b
 have hbz:((lb.length:Int) == 0)=false:=by rw[beq_eq_false_iff_ne];omega
 have S0:=hd_ (DivSt.start w hx hy)
 have g00:=hd_ (gb 0 hlb0)
 clear hopb gb
 go_enter Try.func68,Try.ntmps68
 go_wp2_with fail
 refine (order_any x.s ⟨some ⟨b2,ob,none⟩,lb.length,cb⟩ la lb _ (HLA.out.keep S0.out.ext) (HLB.out.keep S0.out.ext) na nb).mono ?_
 rintro e w1 ⟨rfl,h1⟩
 have S1:=S0.out.keep h1
 go_upto_if 25 with fail
 go_cut [] (fun wc => ∃ xq xr,DivSt w wc x ⟨ny,⟨some ⟨b2,ob,none⟩,lb.length,cb⟩⟩ xq xr a b (valL la / valL lb) (valL la % valL lb))
 case first =>
  obtain⟨S1c0,S1c1,-,-⟩:=S1.ba.facts
  obtain⟨S1c2,S1c3,-,-⟩:=S1.bb.facts
  obtain⟨S1c4,S1c5,S1f4,S1f5⟩:=S1.bq.facts
  obtain⟨S1c6,S1c7,S1f6,S1f7⟩:=S1.br.facts
  by_cases hlt:valL la<valL lb
  ·have hcm:cmpZ (valL la) (valL lb)<0:=by rw[cmpZ_lt hlt];omega
   have hq0:=hd_ (show valL la / valL lb=0 from Int.ediv_eq_zero_of_lt hA0 hlt)
   have hr0:=hd_ (show valL la % valL lb=valL la from Int.emod_eq_of_lt hA0 hlt)
   clear hlt
   go_wp2_with fail
   refine (made_any false x.s la _ (HLA.out.keep (S0.out.ext.tr h1)) hsA.out).mono ?_
   rintro e w2 ⟨z,rfl,hz,h2⟩
   have S2:=S1.keep h2
   clear S1c0 S1c1 S1c2 S1c3 S1c4 S1c5 S1c6 S1c7 S1f4 S1f5 S1f6 S1f7
   obtain⟨S2c0,S2c1,-,-⟩:=S2.ba.facts
   obtain⟨S2c2,S2c3,-,-⟩:=S2.bb.facts
   obtain⟨S2c4,S2c5,S2f4,S2f5⟩:=S2.bq.facts
   obtain⟨S2c6,S2c7,S2f6,S2f7⟩:=S2.br.facts
   go_wp2
   go_meet
   case rel =>
    rw[hq0.out,hr0.out]
    exact⟨_,_,S2.stR hz⟩
  ·have hcm:0≤cmpZ (valL la) (valL lb):=by
                          rcases Int.lt_or_eq_of_le (Int.not_lt.1 hlt) with h | h
                          ·rw[cmpZ_gt h];omega
                          ·rw[cmpZ_eq h.symm];omega
   by_cases hone:lb.length=1
   ·have hone':((lb.length:Int) == 1)=true:=by rw[beq_iff_eq];omega
    have g0:=((S0.out.ext.tr h1).cell (p:=⟨b2,ob,none⟩) hbb.lt).trans (by simpa using g00.out)
    have hbl:=Nat.lt_of_lt_of_le hbb.lt (S0.out.ext.tr h1).size
    have hz0:=S1.size
    have hm0:w.heap.size<w1.heap.size:=by omega
    have hm1:w.heap.size+1<w1.heap.size:=by omega
    have fb:=db.at_ 0
    have hv1:valL lb=at_ lb 0:=by
     obtain⟨d,rfl⟩:=List.length_eq_one_iff.1 hone
     simp[valL,at_]
    have HV1:=hd_ hv1
    have hd1:1≤at_ lb 0:=by omega
    clear hlt hv1
    replace hone:=hd_ hone
    go_wp2
    go_region_held3 (fun w'=>Ext w1 w'∧(∀ b o,b<w1.heap.size→w'.cell? ⟨b,o,none⟩=w1.cell? ⟨b,o,none⟩)) (first | assumption | exact held_of (Ext.rf _).dr | exact held_of (Ext.tr (held_ext (by assumption)) hx)) (first | (go_at_call 94;((with_reducible refine (short_any x.s la (at_ lb 0) _ (HLA.out.keep ((S0.out.ext.tr h1).tr (held_ext (by assumption)))) (by omega) ⟨hd1,fb.2⟩).mono ?_);rintro e w' ⟨ss,ls,rfl,hls,-,hvs,hx⟩)))
    have hE:Ext w1 w':=held_ext (by assumption)
    have S2:=S1.keep hE
    rw[←HV1.out] at hvs
    replace hvs:=hd_ hvs
    have hrb:=hd_ hDL.out.2.2
    clear S1c0 S1c1 S1c2 S1c3 S1c4 S1c5 S1c6 S1c7 S1f4 S1f5 S1f6 S1f7 hm0 hm1 g0 hz0
    obtain⟨S2c0,S2c1,-,-⟩:=S2.ba.facts
    obtain⟨S2c2,S2c3,-,-⟩:=S2.bb.facts
    obtain⟨S2c4,S2c5,S2f4,S2f5⟩:=S2.bq.facts
    obtain⟨S2c6,S2c7,S2f6,S2f7⟩:=S2.br.facts
    go_wp2_with fail
    refine (made_any false ss ls _ hls (by show Sm (valL ls);rw[hvs.out];exact hsA.out.le (by have:=hDL.out;omega))).mono ?_
    rintro e w3 ⟨z1,rfl,hz1,h3⟩
    have S3:=S2.keep h3
    clear S2c0 S2c1 S2c2 S2c3 S2c4 S2c5 S2c6 S2c7 S2f4 S2f5 S2f6 S2f7
    obtain⟨S3c0,S3c1,-,-⟩:=S3.ba.facts
    obtain⟨S3c2,S3c3,-,-⟩:=S3.bb.facts
    obtain⟨S3c4,S3c5,S3f4,S3f5⟩:=S3.bq.facts
    obtain⟨S3c6,S3c7,S3f6,S3f7⟩:=S3.br.facts
    go_wp2_with fail
    have hrest:Hd (valL la % at_ lb 0=valL la % valL lb):=hd_ (by rw[HV1.out])
    have h1r:valL [valL la % at_ lb 0]=valL la % at_ lb 0:=by simp[valL]
    refine (made_any false ⟨some ⟨w3.heap.size,0,none⟩,1,1⟩ [valL la % at_ lb 0] _ (isL_new rfl rfl rfl (by simp) (by intro v hv;simp only[List.mem_cons,List.not_mem_nil,or_false] at hv;subst hv;show 0≤_∧_≤_;rw[hrest.out];have:=hDL.out;have:=HV1.out;omega)) (by show Sm (valL _);rw[h1r,hrest.out];exact hsA.out.le (by have:=hDL.out;omega))).mono ?_
    rintro e w4 ⟨z2,rfl,hz2,h4⟩
    have S4:=(S3.keep ((Ext.rf _).al _)).keep h4
    clear S3c0 S3c1 S3c2 S3c3 S3c4 S3c5 S3c6 S3c7 S3f4 S3f5 S3f6 S3f7
    obtain⟨S4c0,S4c1,-,-⟩:=S4.ba.facts
    obtain⟨S4c2,S4c3,-,-⟩:=S4.bb.facts
    obtain⟨S4c4,S4c5,S4f4,S4f5⟩:=S4.bq.facts
    obtain⟨S4c6,S4c7,S4f6,S4f7⟩:=S4.br.facts
    have e1:=hd_ h1r
    clear h1r
    go_wp2
    go_meet
    case rel =>
     rw[←hvs.out,←hrest.out,←e1.out]
     exact⟨_,_,(S4.stQ ((hz1.keep ((Ext.rf _).al _)).keep h4)).stR (hz2.st2 S4.bq (by decide) _ _)⟩
   ·have hone':((lb.length:Int) == 1)=false:=by rw[beq_eq_false_iff_ne];omega
    have hbl:=len_le_of_val da db nb (by omega)
    clear hlt
    go_wp2_with fail
    refine (quotient_any x.s ⟨some ⟨b2,ob,none⟩,lb.length,cb⟩ la lb _ (HLA.out.keep (S0.out.ext.tr h1)) (HLB.out.keep (S0.out.ext.tr h1)) (by omega) (by omega) hbl nb).mono ?_
    rintro e w2 ⟨sq,sr,lq,lr,rfl,hlq,hlr,hvq,hvr,h2⟩
    have S2:=S1.keep h2
    replace hvq:=hd_ hvq
    replace hvr:=hd_ hvr
    clear S1c0 S1c1 S1c2 S1c3 S1c4 S1c5 S1c6 S1c7 S1f4 S1f5 S1f6 S1f7
    obtain⟨S2c0,S2c1,-,-⟩:=S2.ba.facts
    obtain⟨S2c2,S2c3,-,-⟩:=S2.bb.facts
    obtain⟨S2c4,S2c5,S2f4,S2f5⟩:=S2.bq.facts
    obtain⟨S2c6,S2c7,S2f6,S2f7⟩:=S2.br.facts
    go_wp2_with fail
    refine (made_any false sq lq _ hlq (by show Sm (valL lq);rw[hvq.out];exact hsA.out.le (by have:=hDL.out;omega))).mono ?_
    rintro e w3 ⟨z1,rfl,hz1,h3⟩
    have S3:=S2.keep h3
    clear S2c0 S2c1 S2c2 S2c3 S2c4 S2c5 S2c6 S2c7 S2f4 S2f5 S2f6 S2f7
    obtain⟨S3c0,S3c1,-,-⟩:=S3.ba.facts
    obtain⟨S3c2,S3c3,-,-⟩:=S3.bb.facts
    obtain⟨S3c4,S3c5,S3f4,S3f5⟩:=S3.bq.facts
    obtain⟨S3c6,S3c7,S3f6,S3f7⟩:=S3.br.facts
    go_wp2_with fail
    refine (made_any false sr lr _ (hlr.keep h3) (by show Sm (valL lr);rw[hvr.out];exact hsA.out.le (by have:=hDL.out;omega))).mono ?_
    rintro e w4 ⟨z2,rfl,hz2,h4⟩
    have S4:=S3.keep h4
    clear S3c0 S3c1 S3c2 S3c3 S3c4 S3c5 S3c6 S3c7 S3f4 S3f5 S3f6 S3f7
    obtain⟨S4c0,S4c1,-,-⟩:=S4.ba.facts
    obtain⟨S4c2,S4c3,-,-⟩:=S4.bb.facts
    obtain⟨S4c4,S4c5,S4f4,S4f5⟩:=S4.bq.facts
    obtain⟨S4c6,S4c7,S4f6,S4f7⟩:=S4.br.facts
    go_wp2
    go_meet
    case rel =>
     rw[←hvq.out,←hvr.out]
     exact⟨_,_,(S4.stQ (hz1.keep h4)).stR (hz2.st2 S4.bq (by decide) _ _)⟩
 case rest =>
  obtain⟨xq,xr,SC⟩:=hcut
  clear S1
  obtain⟨lr,hlr,nr,dr,hler,hzr,h0r,hsr⟩:=SC.hr.open_
  have hrl:xr.s.len=lr.length:=hlr.1.1
  have hvr:valL lr=valL la % valL lb:=by have:=valL_nonneg dr;have:=hDL.out;unfold sg at hzr;split at hzr<;>omega
  have hsg:=hd_ (div_signs (m:=x.n) (n:=ny) hA0 hB0)
  have hDS:=hDL.out
  have hqs:=hd_ (show ∀ q',0≤q'→q'≤valL la→Sm (sg (!(x.n == ny)) q') from fun q' h1 h2=>hsA.out.le (by rw[natAbs_sg];omega))
  replace hzr:=hd_ hzr
  clear h0r hsr
  obtain⟨Cc0,Cc1,-,-⟩:=SC.ba.facts
  obtain⟨Cc2,Cc3,-,-⟩:=SC.bb.facts
  obtain⟨Cc4,Cc5,Cf4,Cf5⟩:=SC.bq.facts
  obtain⟨Cc6,Cc7,Cf6,Cf7⟩:=SC.br.facts
  by_cases hxn:x.n=true
  ·by_cases hr0:0<valL la % valL lb
   ·have hl0:0<xr.s.len:=by
     rw[hrl]
     rcases Nat.eq_zero_or_pos lr.length with h | h
     ·rw[List.eq_nil_of_length_eq_zero h] at hvr;simp[valL] at hvr;omega
     ·exact h
    have h1:=hsg.out.2 hxn hr0
    rw[←hza,←hzb] at h1
    have h2:=hd_ (hqs.out _ (show 0≤valL la / valL lb+1 by have:=hDL.out.1;omega) (hDS.2.2.2.2.2 hr0))
    have h3:=hDS.2.2.2.2.2 hr0
    replace h1:=hd_ h1
    clear hrl
    go_upto_region 12 with fail
    replace hxn:=hd_ hxn
    go_cut [] (fun wx => ∃ xq xr,DivSt w wx x ⟨ny,⟨some ⟨b2,ob,none⟩,lb.length,cb⟩⟩ xq xr a b (valL la / valL lb+1) (valL lb-valL la % valL lb))
    case first =>
     obtain⟨m0,m1,-,-⟩:=SC.bb.dr.facts
     obtain⟨n0,n1,-,-⟩:=SC.bq.dr.facts
     obtain⟨n2,n3,-,-⟩:=SC.br.dr.facts
     have hEnd:EndSt [(w.heap.size+1+1+1+1+1,37),(w.heap.size+1+1+1+1+1+1,37)] w wc wc.drew:=by
      refine⟨SC.ext.dr,(Kept.rf _ _).dr,fun e he => ?_⟩
      simp only[List.mem_cons,List.not_mem_nil,or_false] at he
      rcases he with rfl | rfl
      ·exact⟨by simp;omega,SC.bq.dr.bx,by show 116≠37;decide⟩
      ·exact⟨by simp;omega,SC.br.dr.bx,by show 116≠37;decide⟩
     have hE:Ext wc wc.drew:=(Ext.rf _).dr
     have HLR:=hd_ hlr
     have HLB2:=hd_ (HLB.out.keep SC.ext)
     have hs1:Hd (Sm (valL la / valL lb+1)):=hd_ (hsA.out.le (by have:=hDL.out;omega))
     have hs2:Hd (Sm (valL lb-valL la % valL lb)):=hd_ ((show Sm (valL lb) by rw[hzb] at hsb;exact hsb.le (by rw[natAbs_sg];exact Nat.le_refl _)).le (by have:=hDL.out;omega))
     have hbl2:=len_le_of_val db dr nr (by have:=hDL.out;omega)
     have hle2:valL lr≤valL lb:=by have:=hDL.out;omega
     replace hvr:=hd_ hvr
     refine wpG_region (S:=(fun w'=>EndSt [(w.heap.size+1+1+1+1+1,37),(w.heap.size+1+1+1+1+1+1,37)] w wc w'∧w'.cell? ⟨w.heap.size+1,1,none⟩=some (Value.slice (some ⟨b2,ob,none⟩) lb.length cb))) (fun w'=>w'.cell? ⟨w.heap.size+1+1+1+1+1,0,none⟩=some (Value.bool xq.n)∧w'.cell? ⟨w.heap.size+1+1+1+1+1,1,none⟩=some (Value.slice xq.s.a xq.s.len xq.s.cap)) (fun w'=>w'.cell? ⟨w.heap.size+1+1+1+1+1+1,1,none⟩=some (Value.slice xr.s.a xr.s.len xr.s.cap)) 9 10 (by kernel_rfl) ⟨?_,?_,?_⟩ (fun hHeld => ?_)
     ·(try dsimp only)
      (first | (with_reducible exact⟨hEnd,m1⟩) | (with_reducible exact⟨n0,n1⟩) | (with_reducible exact n3) | (with_reducible exact⟨hHeld.s.1.h1 _ _,cell_st2' hHeld.s.2 (by omega) _ _⟩) | (with_reducible exact⟨hHeld.s.1.h2 _ _,cell_st2' hHeld.s.2 (by omega) _ _⟩) | (with_reducible exact cell_st2' (hHeld.b (by kernel_rfl)) (by omega) _ _) | (with_reducible exact⟨hHeld.s.1.keep hx,cell_later hx hHeld.s.2⟩) | (with_reducible exact⟨cell_later hx (hHeld.a (by kernel_rfl)).1,cell_later hx (hHeld.a (by kernel_rfl)).2⟩) | (with_reducible exact cell_later hx (hHeld.b (by kernel_rfl))))
     ·(try dsimp only)
      (first | (with_reducible exact⟨hEnd,m1⟩) | (with_reducible exact⟨n0,n1⟩) | (with_reducible exact n3) | (with_reducible exact⟨hHeld.s.1.h1 _ _,cell_st2' hHeld.s.2 (by omega) _ _⟩) | (with_reducible exact⟨hHeld.s.1.h2 _ _,cell_st2' hHeld.s.2 (by omega) _ _⟩) | (with_reducible exact cell_st2' (hHeld.b (by kernel_rfl)) (by omega) _ _) | (with_reducible exact⟨hHeld.s.1.keep hx,cell_later hx hHeld.s.2⟩) | (with_reducible exact⟨cell_later hx (hHeld.a (by kernel_rfl)).1,cell_later hx (hHeld.a (by kernel_rfl)).2⟩) | (with_reducible exact cell_later hx (hHeld.b (by kernel_rfl))))
     ·(try dsimp only)
      (first | (with_reducible exact⟨hEnd,m1⟩) | (with_reducible exact⟨n0,n1⟩) | (with_reducible exact n3) | (with_reducible exact⟨hHeld.s.1.h1 _ _,cell_st2' hHeld.s.2 (by omega) _ _⟩) | (with_reducible exact⟨hHeld.s.1.h2 _ _,cell_st2' hHeld.s.2 (by omega) _ _⟩) | (with_reducible exact cell_st2' (hHeld.b (by kernel_rfl)) (by omega) _ _) | (with_reducible exact⟨hHeld.s.1.keep hx,cell_later hx hHeld.s.2⟩) | (with_reducible exact⟨cell_later hx (hHeld.a (by kernel_rfl)).1,cell_later hx (hHeld.a (by kernel_rfl)).2⟩) | (with_reducible exact cell_later hx (hHeld.b (by kernel_rfl))))
     refine wpG_takeA (i:=0) (oi:=_) (v:=?_) rfl (by kernel_rfl) (by kernel_rfl) (by kernel_rfl) (by decide) (by decide) (by kernel_rfl) (by kernel_rfl) (fun _ _ _ h=>h) (Or.inl ⟨by rfl,?_⟩) hHeld ?_
     rotate_left
     ·intro w hSw;(try dsimp only at hSw);go_simp;(try with_reducible rfl)
     (try simp only[putR])
     replace hHeld:=hHeld.more 0
     refine wpG_take (i:=3) (oi:=_) (v:=?_) rfl (by kernel_rfl) (by kernel_rfl) (by kernel_rfl) (by decide) (by decide) (fun _ _ _ h=>h) (Or.inl ⟨by rfl,?_⟩) hHeld ?_
     rotate_left
     ·intro w hSw;(try dsimp only at hSw);go_simp;(try with_reducible rfl)
     (try simp only[putR])
     replace hHeld:=hHeld.more 3
     refine wpG_take (i:=4) (oi:=_) (v:=?_) rfl (by kernel_rfl) (by kernel_rfl) (by kernel_rfl) (by decide) (by decide) (fun _ _ _ h=>h) (Or.inl ⟨by rfl,?_⟩) hHeld ?_
     rotate_left
     ·intro w hSw;(try dsimp only at hSw);go_simp;(try with_reducible rfl)
     (try simp only[putR])
     replace hHeld:=hHeld.more 4
     refine wpG_take (i:=5) (oi:=_) (v:=?_) rfl (by kernel_rfl) (by kernel_rfl) (by kernel_rfl) (by decide) (by decide) (fun _ _ _ h=>h) (Or.inl ⟨by rfl,?_⟩) hHeld ?_
     rotate_left
     ·intro w hSw;(try dsimp only at hSw);go_simp;(try with_reducible rfl)
     (try simp only[putR])
     replace hHeld:=hHeld.more 5
     refine wpG_takeB (i:=6) (oi:=_) (v:=?_) rfl (by kernel_rfl) (by kernel_rfl) (by kernel_rfl) (by decide) (by decide) (by kernel_rfl) (by kernel_rfl) (fun _ _ _ h=>h) (Or.inl ⟨by rfl,?_⟩) hHeld ?_
     rotate_left
     ·intro w hSw;(try dsimp only at hSw);go_simp;(try with_reducible rfl)
     (try simp only[putR])
     replace hHeld:=hHeld.more 6
     refine wpG_step (i:=1) (o:=_) (by kernel_rfl) rfl (fun K hK => ?_)
     go_simp
     (first
           | (go_at_call 38;((with_reducible refine (of_any 1 _ (by omega)).mono ?_);rintro e w' ⟨y1,rfl,hy1,hx⟩;replace hE:=hE.tr hx))
           | (go_at_call 83;((with_reducible refine (add_any xq y1 (valL la / valL lb) 1 _ (SC.hq.keep hE) hy1 hs1.out).mono ?_);rintro e w' ⟨y2,rfl,hy2,hx⟩;replace hE:=hE.tr hx))
           | (go_at_call 96;((with_reducible refine (less_any ⟨some ⟨b2,ob,none⟩,lb.length,cb⟩ xr.s lb lr _ (HLB2.out.keep hE) (HLR.out.keep hE) (by omega) hbl2 hle2).mono ?_);rintro e w' ⟨s3,l3,rfl,hl3,-,hv3',hx⟩;have hv3:=hd_ hv3';clear hv3';replace hE:=hE.tr hx;replace hy2:=hy2.keep hx))
           | (go_at_call 79;((with_reducible refine (made_any false s3 l3 _ hl3 (by rw[sg_false,hv3.out,hvr.out];exact hs2.out)).mono ?_);rintro e w' ⟨y4,rfl,hy4,hx⟩;replace hE:=hE.tr hx;replace hy2:=hy2.keep hx;have SE:=SC.keep hE;obtain⟨q0,q1,q2,q3⟩:=SE.bq.facts;obtain⟨q4,q5,q6,q7⟩:=SE.br.facts)))
     (try go_wp2_with fail)
     refine hK.out _ _ ⟨?_,fun _ => ?_,fun _ => ?_⟩ (fun hHeld' => ?_)
     ·(try dsimp only)
      (first | (with_reducible exact⟨hEnd,m1⟩) | (with_reducible exact⟨n0,n1⟩) | (with_reducible exact n3) | (with_reducible exact⟨hHeld.s.1.h1 _ _,cell_st2' hHeld.s.2 (by omega) _ _⟩) | (with_reducible exact⟨hHeld.s.1.h2 _ _,cell_st2' hHeld.s.2 (by omega) _ _⟩) | (with_reducible exact cell_st2' (hHeld.b (by kernel_rfl)) (by omega) _ _) | (with_reducible exact⟨hHeld.s.1.keep hx,cell_later hx hHeld.s.2⟩) | (with_reducible exact⟨cell_later hx (hHeld.a (by kernel_rfl)).1,cell_later hx (hHeld.a (by kernel_rfl)).2⟩) | (with_reducible exact cell_later hx (hHeld.b (by kernel_rfl))))
     ·(try dsimp only)
      (first | (with_reducible exact⟨hEnd,m1⟩) | (with_reducible exact⟨n0,n1⟩) | (with_reducible exact n3) | (with_reducible exact⟨hHeld.s.1.h1 _ _,cell_st2' hHeld.s.2 (by omega) _ _⟩) | (with_reducible exact⟨hHeld.s.1.h2 _ _,cell_st2' hHeld.s.2 (by omega) _ _⟩) | (with_reducible exact cell_st2' (hHeld.b (by kernel_rfl)) (by omega) _ _) | (with_reducible exact⟨hHeld.s.1.keep hx,cell_later hx hHeld.s.2⟩) | (with_reducible exact⟨cell_later hx (hHeld.a (by kernel_rfl)).1,cell_later hx (hHeld.a (by kernel_rfl)).2⟩) | (with_reducible exact cell_later hx (hHeld.b (by kernel_rfl))))
     ·(try dsimp only)
      (first | (with_reducible exact⟨hEnd,m1⟩) | (with_reducible exact⟨n0,n1⟩) | (with_reducible exact n3) | (with_reducible exact⟨hHeld.s.1.h1 _ _,cell_st2' hHeld.s.2 (by omega) _ _⟩) | (with_reducible exact⟨hHeld.s.1.h2 _ _,cell_st2' hHeld.s.2 (by omega) _ _⟩) | (with_reducible exact cell_st2' (hHeld.b (by kernel_rfl)) (by omega) _ _) | (with_reducible exact⟨hHeld.s.1.keep hx,cell_later hx hHeld.s.2⟩) | (with_reducible exact⟨cell_later hx (hHeld.a (by kernel_rfl)).1,cell_later hx (hHeld.a (by kernel_rfl)).2⟩) | (with_reducible exact cell_later hx (hHeld.b (by kernel_rfl))))
     clear hHeld
     have hHeld:=hHeld'
     clear hHeld'
     clear hK K
     (try simp only[putR])
     refine wpG_step (i:=2) (o:=_) (by kernel_rfl) rfl (fun K hK => ?_)
     go_simp
     (first
           | (go_at_call 38;((with_reducible refine (of_any 1 _ (by omega)).mono ?_);rintro e w' ⟨y1,rfl,hy1,hx⟩;replace hE:=hE.tr hx))
           | (go_at_call 83;((with_reducible refine (add_any xq y1 (valL la / valL lb) 1 _ (SC.hq.keep hE) hy1 hs1.out).mono ?_);rintro e w' ⟨y2,rfl,hy2,hx⟩;replace hE:=hE.tr hx))
           | (go_at_call 96;((with_reducible refine (less_any ⟨some ⟨b2,ob,none⟩,lb.length,cb⟩ xr.s lb lr _ (HLB2.out.keep hE) (HLR.out.keep hE) (by omega) hbl2 hle2).mono ?_);rintro e w' ⟨s3,l3,rfl,hl3,-,hv3',hx⟩;have hv3:=hd_ hv3';clear hv3';replace hE:=hE.tr hx;replace hy2:=hy2.keep hx))
           | (go_at_call 79;((with_reducible refine (made_any false s3 l3 _ hl3 (by rw[sg_false,hv3.out,hvr.out];exact hs2.out)).mono ?_);rintro e w' ⟨y4,rfl,hy4,hx⟩;replace hE:=hE.tr hx;replace hy2:=hy2.keep hx;have SE:=SC.keep hE;obtain⟨q0,q1,q2,q3⟩:=SE.bq.facts;obtain⟨q4,q5,q6,q7⟩:=SE.br.facts)))
     (try go_wp2_with fail)
     refine hK.out _ _ ⟨?_,fun _ => ?_,fun _ => ?_⟩ (fun hHeld' => ?_)
     ·(try dsimp only)
      (first | (with_reducible exact⟨hEnd,m1⟩) | (with_reducible exact⟨n0,n1⟩) | (with_reducible exact n3) | (with_reducible exact⟨hHeld.s.1.h1 _ _,cell_st2' hHeld.s.2 (by omega) _ _⟩) | (with_reducible exact⟨hHeld.s.1.h2 _ _,cell_st2' hHeld.s.2 (by omega) _ _⟩) | (with_reducible exact cell_st2' (hHeld.b (by kernel_rfl)) (by omega) _ _) | (with_reducible exact⟨hHeld.s.1.keep hx,cell_later hx hHeld.s.2⟩) | (with_reducible exact⟨cell_later hx (hHeld.a (by kernel_rfl)).1,cell_later hx (hHeld.a (by kernel_rfl)).2⟩) | (with_reducible exact cell_later hx (hHeld.b (by kernel_rfl))))
     ·(try dsimp only)
      (first | (with_reducible exact⟨hEnd,m1⟩) | (with_reducible exact⟨n0,n1⟩) | (with_reducible exact n3) | (with_reducible exact⟨hHeld.s.1.h1 _ _,cell_st2' hHeld.s.2 (by omega) _ _⟩) | (with_reducible exact⟨hHeld.s.1.h2 _ _,cell_st2' hHeld.s.2 (by omega) _ _⟩) | (with_reducible exact cell_st2' (hHeld.b (by kernel_rfl)) (by omega) _ _) | (with_reducible exact⟨hHeld.s.1.keep hx,cell_later hx hHeld.s.2⟩) | (with_reducible exact⟨cell_later hx (hHeld.a (by kernel_rfl)).1,cell_later hx (hHeld.a (by kernel_rfl)).2⟩) | (with_reducible exact cell_later hx (hHeld.b (by kernel_rfl))))
     ·(try dsimp only)
      (first | (with_reducible exact⟨hEnd,m1⟩) | (with_reducible exact⟨n0,n1⟩) | (with_reducible exact n3) | (with_reducible exact⟨hHeld.s.1.h1 _ _,cell_st2' hHeld.s.2 (by omega) _ _⟩) | (with_reducible exact⟨hHeld.s.1.h2 _ _,cell_st2' hHeld.s.2 (by omega) _ _⟩) | (with_reducible exact cell_st2' (hHeld.b (by kernel_rfl)) (by omega) _ _) | (with_reducible exact⟨hHeld.s.1.keep hx,cell_later hx hHeld.s.2⟩) | (with_reducible exact⟨cell_later hx (hHeld.a (by kernel_rfl)).1,cell_later hx (hHeld.a (by kernel_rfl)).2⟩) | (with_reducible exact cell_later hx (hHeld.b (by kernel_rfl))))
     clear hHeld
     have hHeld:=hHeld'
     clear hHeld'
     clear hK K
     (try simp only[putR])
     refine wpG_step (i:=7) (o:=_) (by kernel_rfl) rfl (fun K hK => ?_)
     go_simp
     (first
           | (go_at_call 38;((with_reducible refine (of_any 1 _ (by omega)).mono ?_);rintro e w' ⟨y1,rfl,hy1,hx⟩;replace hE:=hE.tr hx))
           | (go_at_call 83;((with_reducible refine (add_any xq y1 (valL la / valL lb) 1 _ (SC.hq.keep hE) hy1 hs1.out).mono ?_);rintro e w' ⟨y2,rfl,hy2,hx⟩;replace hE:=hE.tr hx))
           | (go_at_call 96;((with_reducible refine (less_any ⟨some ⟨b2,ob,none⟩,lb.length,cb⟩ xr.s lb lr _ (HLB2.out.keep hE) (HLR.out.keep hE) (by omega) hbl2 hle2).mono ?_);rintro e w' ⟨s3,l3,rfl,hl3,-,hv3',hx⟩;have hv3:=hd_ hv3';clear hv3';replace hE:=hE.tr hx;replace hy2:=hy2.keep hx))
           | (go_at_call 79;((with_reducible refine (made_any false s3 l3 _ hl3 (by rw[sg_false,hv3.out,hvr.out];exact hs2.out)).mono ?_);rintro e w' ⟨y4,rfl,hy4,hx⟩;replace hE:=hE.tr hx;replace hy2:=hy2.keep hx;have SE:=SC.keep hE;obtain⟨q0,q1,q2,q3⟩:=SE.bq.facts;obtain⟨q4,q5,q6,q7⟩:=SE.br.facts)))
     (try go_wp2_with fail)
     refine hK.out _ _ ⟨?_,fun _ => ?_,fun _ => ?_⟩ (fun hHeld' => ?_)
     ·(try dsimp only)
      (first | (with_reducible exact⟨hEnd,m1⟩) | (with_reducible exact⟨n0,n1⟩) | (with_reducible exact n3) | (with_reducible exact⟨hHeld.s.1.h1 _ _,cell_st2' hHeld.s.2 (by omega) _ _⟩) | (with_reducible exact⟨hHeld.s.1.h2 _ _,cell_st2' hHeld.s.2 (by omega) _ _⟩) | (with_reducible exact cell_st2' (hHeld.b (by kernel_rfl)) (by omega) _ _) | (with_reducible exact⟨hHeld.s.1.keep hx,cell_later hx hHeld.s.2⟩) | (with_reducible exact⟨cell_later hx (hHeld.a (by kernel_rfl)).1,cell_later hx (hHeld.a (by kernel_rfl)).2⟩) | (with_reducible exact cell_later hx (hHeld.b (by kernel_rfl))))
     ·(try dsimp only)
      (first | (with_reducible exact⟨hEnd,m1⟩) | (with_reducible exact⟨n0,n1⟩) | (with_reducible exact n3) | (with_reducible exact⟨hHeld.s.1.h1 _ _,cell_st2' hHeld.s.2 (by omega) _ _⟩) | (with_reducible exact⟨hHeld.s.1.h2 _ _,cell_st2' hHeld.s.2 (by omega) _ _⟩) | (with_reducible exact cell_st2' (hHeld.b (by kernel_rfl)) (by omega) _ _) | (with_reducible exact⟨hHeld.s.1.keep hx,cell_later hx hHeld.s.2⟩) | (with_reducible exact⟨cell_later hx (hHeld.a (by kernel_rfl)).1,cell_later hx (hHeld.a (by kernel_rfl)).2⟩) | (with_reducible exact cell_later hx (hHeld.b (by kernel_rfl))))
     ·(try dsimp only)
      (first | (with_reducible exact⟨hEnd,m1⟩) | (with_reducible exact⟨n0,n1⟩) | (with_reducible exact n3) | (with_reducible exact⟨hHeld.s.1.h1 _ _,cell_st2' hHeld.s.2 (by omega) _ _⟩) | (with_reducible exact⟨hHeld.s.1.h2 _ _,cell_st2' hHeld.s.2 (by omega) _ _⟩) | (with_reducible exact cell_st2' (hHeld.b (by kernel_rfl)) (by omega) _ _) | (with_reducible exact⟨hHeld.s.1.keep hx,cell_later hx hHeld.s.2⟩) | (with_reducible exact⟨cell_later hx (hHeld.a (by kernel_rfl)).1,cell_later hx (hHeld.a (by kernel_rfl)).2⟩) | (with_reducible exact cell_later hx (hHeld.b (by kernel_rfl))))
     clear hHeld
     have hHeld:=hHeld'
     clear hHeld'
     clear hK K
     (try simp only[putR])
     refine wpG_step (i:=8) (o:=_) (by kernel_rfl) rfl (fun K hK => ?_)
     go_simp
     (first
           | (go_at_call 38;((with_reducible refine (of_any 1 _ (by omega)).mono ?_);rintro e w' ⟨y1,rfl,hy1,hx⟩;replace hE:=hE.tr hx))
           | (go_at_call 83;((with_reducible refine (add_any xq y1 (valL la / valL lb) 1 _ (SC.hq.keep hE) hy1 hs1.out).mono ?_);rintro e w' ⟨y2,rfl,hy2,hx⟩;replace hE:=hE.tr hx))
           | (go_at_call 96;((with_reducible refine (less_any ⟨some ⟨b2,ob,none⟩,lb.length,cb⟩ xr.s lb lr _ (HLB2.out.keep hE) (HLR.out.keep hE) (by omega) hbl2 hle2).mono ?_);rintro e w' ⟨s3,l3,rfl,hl3,-,hv3',hx⟩;have hv3:=hd_ hv3';clear hv3';replace hE:=hE.tr hx;replace hy2:=hy2.keep hx))
           | (go_at_call 79;((with_reducible refine (made_any false s3 l3 _ hl3 (by rw[sg_false,hv3.out,hvr.out];exact hs2.out)).mono ?_);rintro e w' ⟨y4,rfl,hy4,hx⟩;replace hE:=hE.tr hx;replace hy2:=hy2.keep hx;have SE:=SC.keep hE;obtain⟨q0,q1,q2,q3⟩:=SE.bq.facts;obtain⟨q4,q5,q6,q7⟩:=SE.br.facts)))
     (try go_wp2_with fail)
     refine hK.out _ _ ⟨?_,fun _ => ?_,fun _ => ?_⟩ (fun hHeld' => ?_)
     ·(try dsimp only)
      (first | (with_reducible exact⟨hEnd,m1⟩) | (with_reducible exact⟨n0,n1⟩) | (with_reducible exact n3) | (with_reducible exact⟨hHeld.s.1.h1 _ _,cell_st2' hHeld.s.2 (by omega) _ _⟩) | (with_reducible exact⟨hHeld.s.1.h2 _ _,cell_st2' hHeld.s.2 (by omega) _ _⟩) | (with_reducible exact cell_st2' (hHeld.b (by kernel_rfl)) (by omega) _ _) | (with_reducible exact⟨hHeld.s.1.keep hx,cell_later hx hHeld.s.2⟩) | (with_reducible exact⟨cell_later hx (hHeld.a (by kernel_rfl)).1,cell_later hx (hHeld.a (by kernel_rfl)).2⟩) | (with_reducible exact cell_later hx (hHeld.b (by kernel_rfl))))
     ·(try dsimp only)
      (first | (with_reducible exact⟨hEnd,m1⟩) | (with_reducible exact⟨n0,n1⟩) | (with_reducible exact n3) | (with_reducible exact⟨hHeld.s.1.h1 _ _,cell_st2' hHeld.s.2 (by omega) _ _⟩) | (with_reducible exact⟨hHeld.s.1.h2 _ _,cell_st2' hHeld.s.2 (by omega) _ _⟩) | (with_reducible exact cell_st2' (hHeld.b (by kernel_rfl)) (by omega) _ _) | (with_reducible exact⟨hHeld.s.1.keep hx,cell_later hx hHeld.s.2⟩) | (with_reducible exact⟨cell_later hx (hHeld.a (by kernel_rfl)).1,cell_later hx (hHeld.a (by kernel_rfl)).2⟩) | (with_reducible exact cell_later hx (hHeld.b (by kernel_rfl))))
     ·(try dsimp only)
      (first | (with_reducible exact⟨hEnd,m1⟩) | (with_reducible exact⟨n0,n1⟩) | (with_reducible exact n3) | (with_reducible exact⟨hHeld.s.1.h1 _ _,cell_st2' hHeld.s.2 (by omega) _ _⟩) | (with_reducible exact⟨hHeld.s.1.h2 _ _,cell_st2' hHeld.s.2 (by omega) _ _⟩) | (with_reducible exact cell_st2' (hHeld.b (by kernel_rfl)) (by omega) _ _) | (with_reducible exact⟨hHeld.s.1.keep hx,cell_later hx hHeld.s.2⟩) | (with_reducible exact⟨cell_later hx (hHeld.a (by kernel_rfl)).1,cell_later hx (hHeld.a (by kernel_rfl)).2⟩) | (with_reducible exact cell_later hx (hHeld.b (by kernel_rfl))))
     clear hHeld
     have hHeld:=hHeld'
     clear hHeld'
     clear hK K
     (try simp only[putR])
     refine wpG_step (i:=9) (o:=_) (by kernel_rfl) rfl (fun K hK => ?_)
     go_simp
     refine hK.out _ _ ⟨?_,notF (by kernel_rfl),fun _ => ?_⟩ (fun hHeld' => ?_)
     ·(try dsimp only)
      (first | (with_reducible exact⟨hEnd,m1⟩) | (with_reducible exact⟨n0,n1⟩) | (with_reducible exact n3) | (with_reducible exact⟨hHeld.s.1.h1 _ _,cell_st2' hHeld.s.2 (by omega) _ _⟩) | (with_reducible exact⟨hHeld.s.1.h2 _ _,cell_st2' hHeld.s.2 (by omega) _ _⟩) | (with_reducible exact cell_st2' (hHeld.b (by kernel_rfl)) (by omega) _ _) | (with_reducible exact⟨hHeld.s.1.keep hx,cell_later hx hHeld.s.2⟩) | (with_reducible exact⟨cell_later hx (hHeld.a (by kernel_rfl)).1,cell_later hx (hHeld.a (by kernel_rfl)).2⟩) | (with_reducible exact cell_later hx (hHeld.b (by kernel_rfl))))
     ·(try dsimp only)
      (first | (with_reducible exact⟨hEnd,m1⟩) | (with_reducible exact⟨n0,n1⟩) | (with_reducible exact n3) | (with_reducible exact⟨hHeld.s.1.h1 _ _,cell_st2' hHeld.s.2 (by omega) _ _⟩) | (with_reducible exact⟨hHeld.s.1.h2 _ _,cell_st2' hHeld.s.2 (by omega) _ _⟩) | (with_reducible exact cell_st2' (hHeld.b (by kernel_rfl)) (by omega) _ _) | (with_reducible exact⟨hHeld.s.1.keep hx,cell_later hx hHeld.s.2⟩) | (with_reducible exact⟨cell_later hx (hHeld.a (by kernel_rfl)).1,cell_later hx (hHeld.a (by kernel_rfl)).2⟩) | (with_reducible exact cell_later hx (hHeld.b (by kernel_rfl))))
     clear hHeld
     have hHeld:=hHeld'
     clear hHeld'
     clear hK K
     (try simp only[putR])
     refine wpG_step (i:=10) (o:=_) (by kernel_rfl) rfl (fun K hK => ?_)
     go_simp
     refine hK.out _ _ ⟨?_,notF (by kernel_rfl),notF (by kernel_rfl)⟩ (fun hHeld' => ?_)
     ·(try dsimp only)
      (first | (with_reducible exact⟨hEnd,m1⟩) | (with_reducible exact⟨n0,n1⟩) | (with_reducible exact n3) | (with_reducible exact⟨hHeld.s.1.h1 _ _,cell_st2' hHeld.s.2 (by omega) _ _⟩) | (with_reducible exact⟨hHeld.s.1.h2 _ _,cell_st2' hHeld.s.2 (by omega) _ _⟩) | (with_reducible exact cell_st2' (hHeld.b (by kernel_rfl)) (by omega) _ _) | (with_reducible exact⟨hHeld.s.1.keep hx,cell_later hx hHeld.s.2⟩) | (with_reducible exact⟨cell_later hx (hHeld.a (by kernel_rfl)).1,cell_later hx (hHeld.a (by kernel_rfl)).2⟩) | (with_reducible exact cell_later hx (hHeld.b (by kernel_rfl))))
     clear hHeld
     have hHeld:=hHeld'
     clear hHeld'
     clear hK K
     (try simp only[putR])
     refine wpG_done (by kernel_rfl) ?_ _
     go_wp2
     go_meet
     case rel =>
      rw[sg_false,hv3.out,hvr.out] at hy4
      exact⟨_,_,(SE.stQ hy2).stR (hy4.st2 SE.bq (by decide) _ _)⟩
    case rest =>
     obtain⟨xq',xr',SD⟩:=hcut
     go_upto_region 13 with fail
     clear hlr nr dr hler hzr hvr hsg hDS
     obtain⟨Ec0,Ec1,-,-⟩:=SD.ba.dr.facts
     obtain⟨Ec2,Ec3,-,-⟩:=SD.bb.dr.facts
     obtain⟨Ec4,Ec5,-,-⟩:=SD.bq.dr.facts
     obtain⟨Ec6,Ec7,-,-⟩:=SD.br.dr.facts
     obtain⟨lq,hlq,nq',dq,hleq,hzq,h0q,hsq⟩:=SD.hq.open_
     have hq0':=(show 0≤valL la / valL lb+1 by have:=hDL.out.1;omega)
     have hvq:=hd_ (show valL lq=(valL la / valL lb+1) from by have:=valL_nonneg dq;unfold sg at hzq;split at hzq<;>omega)
     clear Ec1 Ec3 Ec4
     refine wp_region_held_drew (S:=(fun w'=>EndSt (DivL w) w wc w'∧w'.cell? ⟨w.heap.size,0,none⟩=some (Value.bool x.n)∧w'.cell? ⟨w.heap.size+1,0,none⟩=some (Value.bool ny)∧w'.cell? ⟨w.heap.size+1+1+1+1+1,1,none⟩=some (Value.slice xq'.s.a xq'.s.len xq'.s.cap)∧w'.cell? ⟨w.heap.size+1+1+1+1+1+1,0,none⟩=some (Value.bool xr'.n)∧w'.cell? ⟨w.heap.size+1+1+1+1+1+1,1,none⟩=some (Value.slice xr'.s.a xr'.s.len xr'.s.cap))) (by kernel_rfl) ?_ (fun hHeld => ?_)
     ·(try dsimp only)
      (first | (with_reducible assumption) | (with_reducible exact⟨SD.end_,Ec0,Ec2,Ec5,Ec6,Ec7⟩) | (with_reducible exact divEnd_st1 (by assumption) _ _) | (with_reducible exact divEnd_st2 (by assumption) _ _) | (with_reducible exact divEnd_st3 (by assumption) _ _) | (with_reducible exact end5_keep (by assumption) hx))
     refine wpAnyH_take (i:=0) (oi:=_) (v:=?_) rfl (by kernel_rfl) (by kernel_rfl) (by kernel_rfl) (fun _ _ _ h=>h) (Or.inl ⟨by rfl,?_⟩) (by assumption) ?_
     rotate_left
     ·intro w hSw;(try dsimp only at hSw);go_simp;(try with_reducible rfl)
     (try simp only[putR])
     refine wpAnyH_take (i:=1) (oi:=_) (v:=?_) rfl (by kernel_rfl) (by kernel_rfl) (by kernel_rfl) (fun _ _ _ h=>h) (Or.inl ⟨by rfl,?_⟩) (by assumption) ?_
     rotate_left
     ·intro w hSw;(try dsimp only at hSw);go_simp;(try with_reducible rfl)
     (try simp only[putR])
     refine wpAnyH_take (i:=2) (oi:=_) (v:=?_) rfl (by kernel_rfl) (by kernel_rfl) (by kernel_rfl) (fun _ _ _ h=>h) (Or.inl ⟨by rfl,?_⟩) (by assumption) ?_
     rotate_left
     ·intro w hSw;(try dsimp only at hSw);go_simp;(try with_reducible rfl)
     (try simp only[putR])
     refine wpAnyH_take (i:=3) (oi:=_) (v:=?_) rfl (by kernel_rfl) (by kernel_rfl) (by kernel_rfl) (fun _ _ _ h=>h) (Or.inl ⟨by rfl,?_⟩) (by assumption) ?_
     rotate_left
     ·intro w hSw;(try dsimp only at hSw);go_simp;(try with_reducible rfl)
     (try simp only[putR])
     refine wpAnyH_take (i:=4) (oi:=_) (v:=?_) rfl (by kernel_rfl) (by kernel_rfl) (by kernel_rfl) (fun _ _ _ h=>h) (Or.inl ⟨by rfl,?_⟩) (by assumption) ?_
     rotate_left
     ·intro w hSw;(try dsimp only at hSw);go_simp;(try with_reducible rfl)
     (try simp only[putR])
     refine wpAnyH_take (i:=5) (oi:=_) (v:=?_) rfl (by kernel_rfl) (by kernel_rfl) (by kernel_rfl) (fun _ _ _ h=>h) (Or.inl ⟨by rfl,?_⟩) (by assumption) ?_
     rotate_left
     ·intro w hSw;(try dsimp only at hSw);go_simp;(try with_reducible rfl)
     (try simp only[putR])
     refine wpAnyH_take (i:=6) (oi:=_) (v:=?_) rfl (by kernel_rfl) (by kernel_rfl) (by kernel_rfl) (fun _ _ _ h=>h) (Or.inl ⟨by rfl,?_⟩) (by assumption) ?_
     rotate_left
     ·intro w hSw;(try dsimp only at hSw);go_simp;(try with_reducible rfl)
     (try simp only[putR])
     refine wpAnyH_take (i:=8) (oi:=_) (v:=?_) rfl (by kernel_rfl) (by kernel_rfl) (by kernel_rfl) (fun _ _ _ h=>h) (Or.inl ⟨by rfl,?_⟩) (by assumption) ?_
     rotate_left
     ·intro w hSw;(try dsimp only at hSw);go_simp;(try with_reducible rfl)
     (try simp only[putR])
     refine wpAnyH_take (i:=9) (oi:=_) (v:=?_) rfl (by kernel_rfl) (by kernel_rfl) (by kernel_rfl) (fun _ _ _ h=>h) (Or.inl ⟨by rfl,?_⟩) (by assumption) ?_
     rotate_left
     ·intro w hSw;(try dsimp only at hSw);go_simp;(try with_reducible rfl)
     (try simp only[putR])
     refine wpAnyH_ready (rs:=[7]) (by kernel_rfl) (by simp) ?_
     refine AllReadyH.cons (o:=_) rfl (fun K hK => ?_) AllReadyH.nil
     go_simp
     (first | (go_at_call 79;((with_reducible refine (made_any _ xq'.s lq _ (hlq.keep (Ext.rf _).dr) (by rw[hvq.out];exact h2.out)).mono ?_);rintro e w' ⟨z,rfl,hz,hx⟩;obtain⟨g0,g1,g2,g3⟩:=(SD.rq.dr.keep hx).facts;obtain⟨g4,g5,g6,g7⟩:=(SD.rr.dr.keep hx).facts;obtain⟨g8,g9,g10,g11⟩:=(SD.rf.dr.keep hx).facts)))
     (try go_wp2_with fail)
     refine hK.out _ _ ?_ (fun hHeld => ?_)
     ·(try dsimp only)
      (first | (with_reducible assumption) | (with_reducible exact⟨SD.end_,Ec0,Ec2,Ec5,Ec6,Ec7⟩) | (with_reducible exact divEnd_st1 (by assumption) _ _) | (with_reducible exact divEnd_st2 (by assumption) _ _) | (with_reducible exact divEnd_st3 (by assumption) _ _) | (with_reducible exact end5_keep (by assumption) hx))
     clear hK K
     (try simp only[putR])
     refine wpAnyH_ready (rs:=[10]) (by kernel_rfl) (by simp) ?_
     refine AllReadyH.cons (o:=_) rfl (fun K hK => ?_) AllReadyH.nil
     go_simp
     refine hK.out _ _ ?_ (fun hHeld => ?_)
     ·(try dsimp only)
      (first | (with_reducible assumption) | (with_reducible exact⟨SD.end_,Ec0,Ec2,Ec5,Ec6,Ec7⟩) | (with_reducible exact divEnd_st1 (by assumption) _ _) | (with_reducible exact divEnd_st2 (by assumption) _ _) | (with_reducible exact divEnd_st3 (by assumption) _ _) | (with_reducible exact end5_keep (by assumption) hx))
     clear hK K
     (try simp only[putR])
     refine wpAnyH_ready (rs:=[11]) (by kernel_rfl) (by simp) ?_
     refine AllReadyH.cons (o:=_) rfl (fun K hK => ?_) AllReadyH.nil
     go_simp
     refine hK.out _ _ ?_ (fun hHeld => ?_)
     ·(try dsimp only)
      (first | (with_reducible assumption) | (with_reducible exact⟨SD.end_,Ec0,Ec2,Ec5,Ec6,Ec7⟩) | (with_reducible exact divEnd_st1 (by assumption) _ _) | (with_reducible exact divEnd_st2 (by assumption) _ _) | (with_reducible exact divEnd_st3 (by assumption) _ _) | (with_reducible exact end5_keep (by assumption) hx))
     clear hK K
     (try simp only[putR])
     refine wpAnyH_ready (rs:=[12]) (by kernel_rfl) (by simp) ?_
     refine AllReadyH.cons (o:=_) rfl (fun K hK => ?_) AllReadyH.nil
     go_simp
     refine hK.out _ _ ?_ (fun hHeld => ?_)
     ·(try dsimp only)
      (first | (with_reducible assumption) | (with_reducible exact⟨SD.end_,Ec0,Ec2,Ec5,Ec6,Ec7⟩) | (with_reducible exact divEnd_st1 (by assumption) _ _) | (with_reducible exact divEnd_st2 (by assumption) _ _) | (with_reducible exact divEnd_st3 (by assumption) _ _) | (with_reducible exact end5_keep (by assumption) hx))
     clear hK K
     (try simp only[putR])
     refine wpAnyH_done (by kernel_rfl) ?_ _
     go_wp2
     have k2:=SD.rq.dr.keep hx
     have k3:=SD.rr.dr.keep hx
     have k4:=SD.rf.dr.keep hx
     refine bodyPost_ret (v:=.tuple #[.agg #[.bool z.n,.slice z.s.a z.s.len z.s.cap],.agg #[.bool xr'.n,.slice xr'.s.a xr'.s.len xr'.s.cap],.agg #[.int .i64 0,.int .i64 0]]) (by simp[results,Try.results68,go_sem,g0,g1,g4,g5,g8,g9]) rfl ⟨z,xr',rfl,?_,?_,hHeld.1.1⟩
     ·rw[h1.out.1,←hvq.out]
      exact ((hz.st2 k2 (by decide) _ _).st2 (k3.far2 (by omega) _ _) (by decide) _ _).st2 ((k4.far2 (by omega) _ _).far2 (by omega) _ _) (by decide) _ _
     ·rw[h1.out.2]
      exact SD.hr.kept hHeld.1.2.1
   ·have hl0:xr.s.len=0:=by
     rw[hrl,(valL_eq_zero dr nr).1 (by omega)];rfl
    have h1:=hsg.out.1 (.inr (by omega))
    rw[←hza,←hzb] at h1
    replace h1:=hd_ h1
    clear hrl
    go_upto_region 13 with fail
    replace hxn:=hd_ hxn
    replace hl0:=hd_ hl0
    clear hlr nr dr hler hzr hvr hsg hDS
    obtain⟨Ec0,Ec1,-,-⟩:=SC.ba.dr.facts
    obtain⟨Ec2,Ec3,-,-⟩:=SC.bb.dr.facts
    obtain⟨Ec4,Ec5,-,-⟩:=SC.bq.dr.facts
    obtain⟨Ec6,Ec7,-,-⟩:=SC.br.dr.facts
    obtain⟨lq,hlq,nq',dq,hleq,hzq,h0q,hsq⟩:=SC.hq.open_
    have hq0':=hDL.out.1
    have hvq:=hd_ (show valL lq=(valL la / valL lb) from by have:=valL_nonneg dq;unfold sg at hzq;split at hzq<;>omega)
    clear Ec1 Ec3 Ec4
    refine wp_region_held_drew (S:=(fun w'=>EndSt (DivL w) w wc w'∧w'.cell? ⟨w.heap.size,0,none⟩=some (Value.bool x.n)∧w'.cell? ⟨w.heap.size+1,0,none⟩=some (Value.bool ny)∧w'.cell? ⟨w.heap.size+1+1+1+1+1,1,none⟩=some (Value.slice xq.s.a xq.s.len xq.s.cap)∧w'.cell? ⟨w.heap.size+1+1+1+1+1+1,0,none⟩=some (Value.bool xr.n)∧w'.cell? ⟨w.heap.size+1+1+1+1+1+1,1,none⟩=some (Value.slice xr.s.a xr.s.len xr.s.cap))) (by kernel_rfl) ?_ (fun hHeld => ?_)
    ·(try dsimp only)
     (first | (with_reducible assumption) | (with_reducible exact⟨SC.end_,Ec0,Ec2,Ec5,Ec6,Ec7⟩) | (with_reducible exact divEnd_st1 (by assumption) _ _) | (with_reducible exact divEnd_st2 (by assumption) _ _) | (with_reducible exact divEnd_st3 (by assumption) _ _) | (with_reducible exact end5_keep (by assumption) hx))
    refine wpAnyH_take (i:=0) (oi:=_) (v:=?_) rfl (by kernel_rfl) (by kernel_rfl) (by kernel_rfl) (fun _ _ _ h=>h) (Or.inl ⟨by rfl,?_⟩) (by assumption) ?_
    rotate_left
    ·intro w hSw;(try dsimp only at hSw);go_simp;(try with_reducible rfl)
    (try simp only[putR])
    refine wpAnyH_take (i:=1) (oi:=_) (v:=?_) rfl (by kernel_rfl) (by kernel_rfl) (by kernel_rfl) (fun _ _ _ h=>h) (Or.inl ⟨by rfl,?_⟩) (by assumption) ?_
    rotate_left
    ·intro w hSw;(try dsimp only at hSw);go_simp;(try with_reducible rfl)
    (try simp only[putR])
    refine wpAnyH_take (i:=2) (oi:=_) (v:=?_) rfl (by kernel_rfl) (by kernel_rfl) (by kernel_rfl) (fun _ _ _ h=>h) (Or.inl ⟨by rfl,?_⟩) (by assumption) ?_
    rotate_left
    ·intro w hSw;(try dsimp only at hSw);go_simp;(try with_reducible rfl)
    (try simp only[putR])
    refine wpAnyH_take (i:=3) (oi:=_) (v:=?_) rfl (by kernel_rfl) (by kernel_rfl) (by kernel_rfl) (fun _ _ _ h=>h) (Or.inl ⟨by rfl,?_⟩) (by assumption) ?_
    rotate_left
    ·intro w hSw;(try dsimp only at hSw);go_simp;(try with_reducible rfl)
    (try simp only[putR])
    refine wpAnyH_take (i:=4) (oi:=_) (v:=?_) rfl (by kernel_rfl) (by kernel_rfl) (by kernel_rfl) (fun _ _ _ h=>h) (Or.inl ⟨by rfl,?_⟩) (by assumption) ?_
    rotate_left
    ·intro w hSw;(try dsimp only at hSw);go_simp;(try with_reducible rfl)
    (try simp only[putR])
    refine wpAnyH_take (i:=5) (oi:=_) (v:=?_) rfl (by kernel_rfl) (by kernel_rfl) (by kernel_rfl) (fun _ _ _ h=>h) (Or.inl ⟨by rfl,?_⟩) (by assumption) ?_
    rotate_left
    ·intro w hSw;(try dsimp only at hSw);go_simp;(try with_reducible rfl)
    (try simp only[putR])
    refine wpAnyH_take (i:=6) (oi:=_) (v:=?_) rfl (by kernel_rfl) (by kernel_rfl) (by kernel_rfl) (fun _ _ _ h=>h) (Or.inl ⟨by rfl,?_⟩) (by assumption) ?_
    rotate_left
    ·intro w hSw;(try dsimp only at hSw);go_simp;(try with_reducible rfl)
    (try simp only[putR])
    refine wpAnyH_take (i:=8) (oi:=_) (v:=?_) rfl (by kernel_rfl) (by kernel_rfl) (by kernel_rfl) (fun _ _ _ h=>h) (Or.inl ⟨by rfl,?_⟩) (by assumption) ?_
    rotate_left
    ·intro w hSw;(try dsimp only at hSw);go_simp;(try with_reducible rfl)
    (try simp only[putR])
    refine wpAnyH_take (i:=9) (oi:=_) (v:=?_) rfl (by kernel_rfl) (by kernel_rfl) (by kernel_rfl) (fun _ _ _ h=>h) (Or.inl ⟨by rfl,?_⟩) (by assumption) ?_
    rotate_left
    ·intro w hSw;(try dsimp only at hSw);go_simp;(try with_reducible rfl)
    (try simp only[putR])
    refine wpAnyH_ready (rs:=[7]) (by kernel_rfl) (by simp) ?_
    refine AllReadyH.cons (o:=_) rfl (fun K hK => ?_) AllReadyH.nil
    go_simp
    (first | (go_at_call 79;((with_reducible refine (made_any _ xq.s lq _ (hlq.keep (Ext.rf _).dr) (by rw[hvq.out];exact (hqs.out _ hDL.out.1 hDL.out.2.1))).mono ?_);rintro e w' ⟨z,rfl,hz,hx⟩;obtain⟨g0,g1,g2,g3⟩:=(SC.rq.dr.keep hx).facts;obtain⟨g4,g5,g6,g7⟩:=(SC.rr.dr.keep hx).facts;obtain⟨g8,g9,g10,g11⟩:=(SC.rf.dr.keep hx).facts)))
    (try go_wp2_with fail)
    refine hK.out _ _ ?_ (fun hHeld => ?_)
    ·(try dsimp only)
     (first | (with_reducible assumption) | (with_reducible exact⟨SC.end_,Ec0,Ec2,Ec5,Ec6,Ec7⟩) | (with_reducible exact divEnd_st1 (by assumption) _ _) | (with_reducible exact divEnd_st2 (by assumption) _ _) | (with_reducible exact divEnd_st3 (by assumption) _ _) | (with_reducible exact end5_keep (by assumption) hx))
    clear hK K
    (try simp only[putR])
    refine wpAnyH_ready (rs:=[10]) (by kernel_rfl) (by simp) ?_
    refine AllReadyH.cons (o:=_) rfl (fun K hK => ?_) AllReadyH.nil
    go_simp
    refine hK.out _ _ ?_ (fun hHeld => ?_)
    ·(try dsimp only)
     (first | (with_reducible assumption) | (with_reducible exact⟨SC.end_,Ec0,Ec2,Ec5,Ec6,Ec7⟩) | (with_reducible exact divEnd_st1 (by assumption) _ _) | (with_reducible exact divEnd_st2 (by assumption) _ _) | (with_reducible exact divEnd_st3 (by assumption) _ _) | (with_reducible exact end5_keep (by assumption) hx))
    clear hK K
    (try simp only[putR])
    refine wpAnyH_ready (rs:=[11]) (by kernel_rfl) (by simp) ?_
    refine AllReadyH.cons (o:=_) rfl (fun K hK => ?_) AllReadyH.nil
    go_simp
    refine hK.out _ _ ?_ (fun hHeld => ?_)
    ·(try dsimp only)
     (first | (with_reducible assumption) | (with_reducible exact⟨SC.end_,Ec0,Ec2,Ec5,Ec6,Ec7⟩) | (with_reducible exact divEnd_st1 (by assumption) _ _) | (with_reducible exact divEnd_st2 (by assumption) _ _) | (with_reducible exact divEnd_st3 (by assumption) _ _) | (with_reducible exact end5_keep (by assumption) hx))
    clear hK K
    (try simp only[putR])
    refine wpAnyH_ready (rs:=[12]) (by kernel_rfl) (by simp) ?_
    refine AllReadyH.cons (o:=_) rfl (fun K hK => ?_) AllReadyH.nil
    go_simp
    refine hK.out _ _ ?_ (fun hHeld => ?_)
    ·(try dsimp only)
     (first | (with_reducible assumption) | (with_reducible exact⟨SC.end_,Ec0,Ec2,Ec5,Ec6,Ec7⟩) | (with_reducible exact divEnd_st1 (by assumption) _ _) | (with_reducible exact divEnd_st2 (by assumption) _ _) | (with_reducible exact divEnd_st3 (by assumption) _ _) | (with_reducible exact end5_keep (by assumption) hx))
    clear hK K
    (try simp only[putR])
    refine wpAnyH_done (by kernel_rfl) ?_ _
    go_wp2
    have k2:=SC.rq.dr.keep hx
    have k3:=SC.rr.dr.keep hx
    have k4:=SC.rf.dr.keep hx
    refine bodyPost_ret (v:=.tuple #[.agg #[.bool z.n,.slice z.s.a z.s.len z.s.cap],.agg #[.bool xr.n,.slice xr.s.a xr.s.len xr.s.cap],.agg #[.int .i64 0,.int .i64 0]]) (by simp[results,Try.results68,go_sem,g0,g1,g4,g5,g8,g9]) rfl ⟨z,xr,rfl,?_,?_,hHeld.1.1⟩
    ·rw[h1.out.1,←hvq.out]
     exact ((hz.st2 k2 (by decide) _ _).st2 (k3.far2 (by omega) _ _) (by decide) _ _).st2 ((k4.far2 (by omega) _ _).far2 (by omega) _ _) (by decide) _ _
    ·rw[h1.out.2]
     exact SC.hr.kept hHeld.1.2.1
  ·replace hxn:x.n=false:=by simpa using hxn
   have h1:=hsg.out.1 (.inl hxn)
   rw[←hza,←hzb] at h1
   replace h1:=hd_ h1
   clear hrl
   go_upto_region 13 with fail
   replace hxn:=hd_ hxn
   clear hlr nr dr hler hzr hvr hsg hDS
   obtain⟨Ec0,Ec1,-,-⟩:=SC.ba.dr.facts
   obtain⟨Ec2,Ec3,-,-⟩:=SC.bb.dr.facts
   obtain⟨Ec4,Ec5,-,-⟩:=SC.bq.dr.facts
   obtain⟨Ec6,Ec7,-,-⟩:=SC.br.dr.facts
   obtain⟨lq,hlq,nq',dq,hleq,hzq,h0q,hsq⟩:=SC.hq.open_
   have hq0':=hDL.out.1
   have hvq:=hd_ (show valL lq=(valL la / valL lb) from by have:=valL_nonneg dq;unfold sg at hzq;split at hzq<;>omega)
   clear Ec1 Ec3 Ec4
   refine wp_region_held_drew (S:=(fun w'=>EndSt (DivL w) w wc w'∧w'.cell? ⟨w.heap.size,0,none⟩=some (Value.bool x.n)∧w'.cell? ⟨w.heap.size+1,0,none⟩=some (Value.bool ny)∧w'.cell? ⟨w.heap.size+1+1+1+1+1,1,none⟩=some (Value.slice xq.s.a xq.s.len xq.s.cap)∧w'.cell? ⟨w.heap.size+1+1+1+1+1+1,0,none⟩=some (Value.bool xr.n)∧w'.cell? ⟨w.heap.size+1+1+1+1+1+1,1,none⟩=some (Value.slice xr.s.a xr.s.len xr.s.cap))) (by kernel_rfl) ?_ (fun hHeld => ?_)
   ·(try dsimp only)
    (first | (with_reducible assumption) | (with_reducible exact⟨SC.end_,Ec0,Ec2,Ec5,Ec6,Ec7⟩) | (with_reducible exact divEnd_st1 (by assumption) _ _) | (with_reducible exact divEnd_st2 (by assumption) _ _) | (with_reducible exact divEnd_st3 (by assumption) _ _) | (with_reducible exact end5_keep (by assumption) hx))
   refine wpAnyH_take (i:=0) (oi:=_) (v:=?_) rfl (by kernel_rfl) (by kernel_rfl) (by kernel_rfl) (fun _ _ _ h=>h) (Or.inl ⟨by rfl,?_⟩) (by assumption) ?_
   rotate_left
   ·intro w hSw;(try dsimp only at hSw);go_simp;(try with_reducible rfl)
   (try simp only[putR])
   refine wpAnyH_take (i:=1) (oi:=_) (v:=?_) rfl (by kernel_rfl) (by kernel_rfl) (by kernel_rfl) (fun _ _ _ h=>h) (Or.inl ⟨by rfl,?_⟩) (by assumption) ?_
   rotate_left
   ·intro w hSw;(try dsimp only at hSw);go_simp;(try with_reducible rfl)
   (try simp only[putR])
   refine wpAnyH_take (i:=2) (oi:=_) (v:=?_) rfl (by kernel_rfl) (by kernel_rfl) (by kernel_rfl) (fun _ _ _ h=>h) (Or.inl ⟨by rfl,?_⟩) (by assumption) ?_
   rotate_left
   ·intro w hSw;(try dsimp only at hSw);go_simp;(try with_reducible rfl)
   (try simp only[putR])
   refine wpAnyH_take (i:=3) (oi:=_) (v:=?_) rfl (by kernel_rfl) (by kernel_rfl) (by kernel_rfl) (fun _ _ _ h=>h) (Or.inl ⟨by rfl,?_⟩) (by assumption) ?_
   rotate_left
   ·intro w hSw;(try dsimp only at hSw);go_simp;(try with_reducible rfl)
   (try simp only[putR])
   refine wpAnyH_take (i:=4) (oi:=_) (v:=?_) rfl (by kernel_rfl) (by kernel_rfl) (by kernel_rfl) (fun _ _ _ h=>h) (Or.inl ⟨by rfl,?_⟩) (by assumption) ?_
   rotate_left
   ·intro w hSw;(try dsimp only at hSw);go_simp;(try with_reducible rfl)
   (try simp only[putR])
   refine wpAnyH_take (i:=5) (oi:=_) (v:=?_) rfl (by kernel_rfl) (by kernel_rfl) (by kernel_rfl) (fun _ _ _ h=>h) (Or.inl ⟨by rfl,?_⟩) (by assumption) ?_
   rotate_left
   ·intro w hSw;(try dsimp only at hSw);go_simp;(try with_reducible rfl)
   (try simp only[putR])
   refine wpAnyH_take (i:=6) (oi:=_) (v:=?_) rfl (by kernel_rfl) (by kernel_rfl) (by kernel_rfl) (fun _ _ _ h=>h) (Or.inl ⟨by rfl,?_⟩) (by assumption) ?_
   rotate_left
   ·intro w hSw;(try dsimp only at hSw);go_simp;(try with_reducible rfl)
   (try simp only[putR])
   refine wpAnyH_take (i:=8) (oi:=_) (v:=?_) rfl (by kernel_rfl) (by kernel_rfl) (by kernel_rfl) (fun _ _ _ h=>h) (Or.inl ⟨by rfl,?_⟩) (by assumption) ?_
   rotate_left
   ·intro w hSw;(try dsimp only at hSw);go_simp;(try with_reducible rfl)
   (try simp only[putR])
   refine wpAnyH_take (i:=9) (oi:=_) (v:=?_) rfl (by kernel_rfl) (by kernel_rfl) (by kernel_rfl) (fun _ _ _ h=>h) (Or.inl ⟨by rfl,?_⟩) (by assumption) ?_
   rotate_left
   ·intro w hSw;(try dsimp only at hSw);go_simp;(try with_reducible rfl)
   (try simp only[putR])
   refine wpAnyH_ready (rs:=[7]) (by kernel_rfl) (by simp) ?_
   refine AllReadyH.cons (o:=_) rfl (fun K hK => ?_) AllReadyH.nil
   go_simp
   (first | (go_at_call 79;((with_reducible refine (made_any _ xq.s lq _ (hlq.keep (Ext.rf _).dr) (by rw[hvq.out];exact (hqs.out _ hDL.out.1 hDL.out.2.1))).mono ?_);rintro e w' ⟨z,rfl,hz,hx⟩;obtain⟨g0,g1,g2,g3⟩:=(SC.rq.dr.keep hx).facts;obtain⟨g4,g5,g6,g7⟩:=(SC.rr.dr.keep hx).facts;obtain⟨g8,g9,g10,g11⟩:=(SC.rf.dr.keep hx).facts)))
   (try go_wp2_with fail)
   refine hK.out _ _ ?_ (fun hHeld => ?_)
   ·(try dsimp only)
    (first | (with_reducible assumption) | (with_reducible exact⟨SC.end_,Ec0,Ec2,Ec5,Ec6,Ec7⟩) | (with_reducible exact divEnd_st1 (by assumption) _ _) | (with_reducible exact divEnd_st2 (by assumption) _ _) | (with_reducible exact divEnd_st3 (by assumption) _ _) | (with_reducible exact end5_keep (by assumption) hx))
   clear hK K
   (try simp only[putR])
   refine wpAnyH_ready (rs:=[10]) (by kernel_rfl) (by simp) ?_
   refine AllReadyH.cons (o:=_) rfl (fun K hK => ?_) AllReadyH.nil
   go_simp
   refine hK.out _ _ ?_ (fun hHeld => ?_)
   ·(try dsimp only)
    (first | (with_reducible assumption) | (with_reducible exact⟨SC.end_,Ec0,Ec2,Ec5,Ec6,Ec7⟩) | (with_reducible exact divEnd_st1 (by assumption) _ _) | (with_reducible exact divEnd_st2 (by assumption) _ _) | (with_reducible exact divEnd_st3 (by assumption) _ _) | (with_reducible exact end5_keep (by assumption) hx))
   clear hK K
   (try simp only[putR])
   refine wpAnyH_ready (rs:=[11]) (by kernel_rfl) (by simp) ?_
   refine AllReadyH.cons (o:=_) rfl (fun K hK => ?_) AllReadyH.nil
   go_simp
   refine hK.out _ _ ?_ (fun hHeld => ?_)
   ·(try dsimp only)
    (first | (with_reducible assumption) | (with_reducible exact⟨SC.end_,Ec0,Ec2,Ec5,Ec6,Ec7⟩) | (with_reducible exact divEnd_st1 (by assumption) _ _) | (with_reducible exact divEnd_st2 (by assumption) _ _) | (with_reducible exact divEnd_st3 (by assumption) _ _) | (with_reducible exact end5_keep (by assumption) hx))
   clear hK K
   (try simp only[putR])
   refine wpAnyH_ready (rs:=[12]) (by kernel_rfl) (by simp) ?_
   refine AllReadyH.cons (o:=_) rfl (fun K hK => ?_) AllReadyH.nil
   go_simp
   refine hK.out _ _ ?_ (fun hHeld => ?_)
   ·(try dsimp only)
    (first | (with_reducible assumption) | (with_reducible exact⟨SC.end_,Ec0,Ec2,Ec5,Ec6,Ec7⟩) | (with_reducible exact divEnd_st1 (by assumption) _ _) | (with_reducible exact divEnd_st2 (by assumption) _ _) | (with_reducible exact divEnd_st3 (by assumption) _ _) | (with_reducible exact end5_keep (by assumption) hx))
   clear hK K
   (try simp only[putR])
   refine wpAnyH_done (by kernel_rfl) ?_ _
   go_wp2
   have k2:=SC.rq.dr.keep hx
   have k3:=SC.rr.dr.keep hx
   have k4:=SC.rf.dr.keep hx
   refine bodyPost_ret (v:=.tuple #[.agg #[.bool z.n,.slice z.s.a z.s.len z.s.cap],.agg #[.bool xr.n,.slice xr.s.a xr.s.len xr.s.cap],.agg #[.int .i64 0,.int .i64 0]]) (by simp[results,Try.results68,go_sem,g0,g1,g4,g5,g8,g9]) rfl ⟨z,xr,rfl,?_,?_,hHeld.1.1⟩
   ·rw[h1.out.1,←hvq.out]
    exact ((hz.st2 k2 (by decide) _ _).st2 (k3.far2 (by omega) _ _) (by decide) _ _).st2 ((k4.far2 (by omega) _ _).far2 (by omega) _ _) (by decide) _ _
   ·rw[h1.out.2]
    exact SC.hr.kept hHeld.1.2.1
end Go.Proofs.Ytdjbfgfbpimakaa
