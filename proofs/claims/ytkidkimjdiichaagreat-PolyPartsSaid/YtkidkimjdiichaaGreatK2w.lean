/- Sign, Neg, Of, Cmp, Add, Sub, Mul. The small machine: the model does what the small machine says: operations that write nothing. Add, Sub. The reference's numbers: zmade. The small machine: the model does what the small machine says: parts, places, lengths, slices. Mul. The reference's places: dcmp, dadd, dsub. digits: the walk. Div32, Len32, LeadingZeros32. The small machine: the model does what the small machine says: arithmetic, lengths, slices. right, takeAway, giveBack. The small machine: the model does what the small machine says: slice expressions, new objects, stores. takeAway, giveBack: a block that is written in place. The small machine: what is handed on as plain data; stores; structs and slices that are written out. The small machine: the model does what the small machine says: stores, structs and slices that are written out. The small machine: structs and slices that are written out; append. The small machine: any operation but a call. -/
import Derived.Test.YtkidkimjdiichaaGreatK1w
import Derived.Laws.MakeOwn
import Derived.Laws.Tables
import Derived.Laws.StructEq
section
namespace Go.Proofs.YtkidkimjdiichaaGreat
open Go.RowKit
set_option maxHeartbeats 400000 in
theorem sign_any (x:IV) (z:Int) (w:World) (h:IsI w x z) :
  Calls Tryz.prog 116 #[.agg #[.bool x.n,.slice x.s.a x.s.len x.s.cap]] w (fun e w'=>e = .returned (.int .i64 (sgnZ z))∧Ext w w'):=by
 obtain⟨l,hl,hn,hd,hle,hz,h0,hs⟩:=h.open_
 have hneg:=neg_iff hd hn h0
 obtain⟨n,s⟩:=x
 obtain⟨ao,cap,rfl,hcap,hcm,hop⟩:=hl.open_
 simp only at hz h0 hneg
 rw[←hz] at hneg
 have hz0:z=0↔l=[]:=by
  rw[hz,←valL_eq_zero hd hn]
  unfold sg;split<;>omega
 by_cases hl0:l=[]
 ·subst hl0
  have H:=hd_ (hz0.2 rfl)
  clear hz0 hz h0 hneg
  go_enter Tryz.func116,Tryz.ntmps116
  go_wp2
  go_ret
  exact⟨by rw[H.out];rfl,(Ext.rf _).al _⟩
 ·have hlen:0<l.length:=by
   rcases Nat.eq_zero_or_pos l.length with h | h
   ·exact absurd (List.eq_nil_of_length_eq_zero h) hl0
   ·exact h
  cases n
  ·have H:Hd (sgnZ z=1):=hd_ (by
    have:¬ z<0:=by simpa using hneg
    have:¬ z=0:=fun e=>hl0 (hz0.1 e)
    unfold sgnZ;rw[if_neg (by omega),if_neg (by omega)])
   clear hz0 hz h0 hneg hl0
   go_enter Tryz.func116,Tryz.ntmps116
   go_wp2
   go_ret
   exact⟨by rw[H.out];rfl,(Ext.rf _).al _⟩
  ·have H:Hd (sgnZ z = -1):=hd_ (by
    have:z<0:=by simpa using hneg
    unfold sgnZ;rw[if_pos (by omega)])
   clear hz0 hz h0 hneg hl0
   go_enter Tryz.func116,Tryz.ntmps116
   go_wp2
   go_ret
   exact⟨by rw[H.out];rfl,(Ext.rf _).al _⟩
theorem sg_not {n:Bool} {z:Int}:sg (!n) z = - sg n z:=by cases n<;>simp[sg]
set_option maxHeartbeats 400000 in
theorem neg_any (x:IV) (z:Int) (w:World) (h:IsI w x z) :
  Calls Tryz.prog 185 #[.agg #[.bool x.n,.slice x.s.a x.s.len x.s.cap]] w (RetI w (-z)):=by
 obtain⟨l,hl,hn,hd,hle,hz,h0,hs⟩:=h.open_
 replace hz:=hd_ hz
 replace h0:=hd_ h0
 go_enter Tryz.func185,Tryz.ntmps185
 go_wp2_with fail
 refine (made_any _ x.s l _ (hl.keep (((Ext.rf _).al _).al _)) (by rw[sg_not,←hz.out];exact hs.neg)).mono ?_
 rintro e w1 ⟨y,rfl,hy,hx⟩
 have hz1:=hx.size
 obtain⟨hc1,hf1⟩:=bcell hx
 go_wp2
 refine bodyPost_ret (v:=.agg #[.bool y.n,.slice y.s.a y.s.len y.s.cap]) (by simp[results,Tryz.results185,go_sem,hc1]) rfl ⟨y,rfl,?_,?_⟩
 ·rw[hz.out,←sg_not]
  exact hy.kept ((Kept.rf _ _).st2 ((Ty.new' (by simp)).keep hx) (by decide) _ _)
 ·exact (((Ext.rf w).al _).al _ |>.tr hx).st2 (by simp) _ _
theorem valL_two (x y:Int):valL [x,y]=x+4294967296*y:=by simp[valL]
theorem bt_i64 {n:Int} (h:-9223372036854775808≤n∧n≤9223372036854775807):Bt n 64:=by
 unfold Bt
 have:(2:Nat)^64=18446744073709551616:=by decide
 omega
theorem of_neg {n:Int} (h:-9223372036854775808≤n∧n<0):sg true (valL [IntKind.u64.wrap (-IntKind.u64.wrap n) % 4294967296,IntKind.u64.wrap (-IntKind.u64.wrap n) / 4294967296 % 4294967296])=n:=by
 have e:IntKind.u64.wrap (-IntKind.u64.wrap n) = -n:=by
  rw[IntKind.wrap_u64,IntKind.wrap_u64];omega
 rw[e,valL_two]
 simp only[sg,if_true]
 omega
theorem of_pos {n:Int}:sg false (valL [n % 4294967296,n / 4294967296])=n:=by
 rw[valL_two]
 simp only[sg,Bool.false_eq_true,if_false]
 omega
set_option maxHeartbeats 400000 in
theorem of_any (n:Int) (w:World) (h:-9223372036854775808≤n∧n≤9223372036854775807) :
  Calls Tryz.prog 110 #[.int .i64 n] w (RetI w n):=by
 have hb:=(bt_i64 h).sm (by omega)
 by_cases hn:n<0
 ·have hv:=hd_ (of_neg ⟨h.1,hn⟩)
  go_enter Tryz.func110,Tryz.ntmps110
  go_wp2_with fail
  refine (made_any _ ⟨some ⟨w.heap.size+1,0,none⟩,2,2⟩ [IntKind.u64.wrap (-IntKind.u64.wrap n) % 4294967296,IntKind.u64.wrap (-IntKind.u64.wrap n) / 4294967296 % 4294967296] _ ?_ (by rw[hv.out];exact hb)).mono ?_
  ·refine isL_new (by simp) rfl rfl (by simp) ?_
   intro x hx
   simp only[List.mem_cons,List.not_mem_nil,or_false] at hx
   rcases hx with rfl | rfl<;>(show 0≤_∧_≤_)<;>omega
  rintro e w1 ⟨y,rfl,hy,hx⟩
  obtain⟨hc1,hf1⟩:=bcell hx
  have hz1:=hx.size
  have k0:w1.cell? ⟨w.heap.size,0,none⟩=some (Value.bool false):=cell_later hx (by simp[go_sem])
  have k1:w1.cell? ⟨w.heap.size,1,none⟩=some (Value.slice none 0 0):=cell_later hx (by simp[go_sem])
  go_wp2
  refine bodyPost_ret (v:=.agg #[.bool y.n,.slice y.s.a y.s.len y.s.cap]) (by simp[results,Tryz.results110,go_sem,k0,k1]) rfl ⟨y,rfl,?_,?_⟩
  ·rw[hv.out] at hy
   exact hy.kept ((Kept.rf _ _).st2 (T':=50) ((Ty.keep (by first | exact Ty.new' (by simp) | exact (Ty.new' (by simp)).al _) hx)) (by decide) _ _)
  ·exact (((Ext.rf w).al _).al _ |>.tr hx).st2 (by simp) _ _
 ·have hv:=hd_ (of_pos (n:=n))
  go_enter Tryz.func110,Tryz.ntmps110
  go_wp2_with fail
  refine (made_any _ ⟨some ⟨w.heap.size+1,0,none⟩,2,2⟩ [n % 4294967296,n / 4294967296] _ ?_ (by rw[hv.out];exact hb)).mono ?_
  ·refine isL_new (by simp) rfl rfl (by simp) ?_
   intro x hx
   simp only[List.mem_cons,List.not_mem_nil,or_false] at hx
   rcases hx with rfl | rfl<;>(show 0≤_∧_≤_)<;>omega
  rintro e w1 ⟨y,rfl,hy,hx⟩
  obtain⟨hc1,hf1⟩:=bcell hx
  have hz1:=hx.size
  have k0:w1.cell? ⟨w.heap.size,0,none⟩=some (Value.bool false):=cell_later hx (by simp[go_sem])
  have k1:w1.cell? ⟨w.heap.size,1,none⟩=some (Value.slice none 0 0):=cell_later hx (by simp[go_sem])
  go_wp2
  refine bodyPost_ret (v:=.agg #[.bool y.n,.slice y.s.a y.s.len y.s.cap]) (by simp[results,Tryz.results110,go_sem,k0,k1]) rfl ⟨y,rfl,?_,?_⟩
  ·rw[hv.out] at hy
   exact hy.kept ((Kept.rf _ _).st2 (T':=50) ((Ty.keep (by first | exact Ty.new' (by simp) | exact (Ty.new' (by simp)).al _) hx)) (by decide) _ _)
  ·exact (((Ext.rf w).al _).al _ |>.tr hx).st2 (by simp) _ _
end Go.Proofs.YtkidkimjdiichaaGreat
end
section
namespace Go.Proofs.YtkidkimjdiichaaGreat.M
open Go.RowKit
def Good (P:Program) (w0:World) (base:Nat→Prop) (nt:Nat) (o:Oper) (a:Act) (w:World) (t:St) (d:AV):Prop:=
 ∃ v w' loc',((execOp a.eval o).run P w = .ok (.value v) w'∨((execOp a.eval o).run P w = .ok .skip w'∧v=undef))∧Rel w0 base nt loc' t a w'∧RV w' (NB base t.m loc' w') loc' v d
section
variable {P:Program} {w0:World} {base:Nat→Prop} {nt:Nat} {loc:Locs} {s t:St} {a:Act} {w:World} {o:Oper} {id:Nat} {d:AV}
theorem Rel.opd (h:Rel w0 base nt loc s a w) (T:Option TypeId) (x:Operand):RV w (NB base s.m loc w) loc (a.eval x) ((opd P T x).ev s.r):=opd_ok P T x h.tmps
theorem good_same (h:Rel w0 base nt loc s a w) {v:Value} (hr:(execOp a.eval o).run P w = .ok (.value v) w) (hv:RV w (NB base s.m loc w) loc v d):Good P w0 base nt o a w s d:=
 ⟨v,w,loc,.inl hr,h,hv⟩
theorem run_v {s:Sem Value} {v:Value} {w':World} (h:s.run P w = .ok v w'):(do pure (Next.value (← s)):Sem Next).run P w = .ok (.value v) w':=by
 simp[h]
theorem sim_mov {x:Operand} (h:Rel w0 base nt loc s a w) (ho:o.op = .move x∨o.op = .assign x) {T:Option TypeId} (he:ev (.mov (opd P T x)) id s=some (true,d,t)):Good P w0 base nt o a w t d:=by
 simp only[ev,Option.some.injEq,Prod.mk.injEq,true_and] at he
 obtain⟨rfl,rfl⟩:=he
 refine good_same h (v:=a.eval x) ?_ (h.opd T x)
 rcases ho with ho | ho<;>simp[execOp,ho]
theorem sim_nilCheck {x:Operand} (h:Rel w0 base nt loc s a w) (ho:o.op = .nilCheck x) {T:Option TypeId} (he:ev (.nilCheck (opd P T x)) id s=some (true,d,t)):Good P w0 base nt o a w t d:=by
 have hx:=h.opd (P:=P) T x
 simp only[ev] at he
 split at he
 ·rename_i i j k hk
  simp only[Option.some.injEq,Prod.mk.injEq,true_and] at he
  obtain⟨rfl,rfl⟩:=he
  rw[hk] at hx
  refine good_same h (v:=a.eval x) ?_ hx
  generalize hv:a.eval x=v at hx
  cases hx
  simp[execOp,ho,hv]
 ·rename_i e hk
  simp only[Option.some.injEq,Prod.mk.injEq,true_and] at he
  obtain⟨rfl,rfl⟩:=he
  rw[hk] at hx
  refine good_same h (v:=a.eval x) ?_ hx
  have hx:=hx.inv
  generalize hv:a.eval x=v at hx
  cases hx
  simp[execOp,ho,hv]
 ·cases he
theorem sim_pick {c x y:Operand} (h:Rel w0 base nt loc s a w) (ho:o.op = .pick c x y) {T U W:Option TypeId} (he:ev (.pick (opd P T c) (opd P U x) (opd P W y)) id s=some (true,d,t)):Good P w0 base nt o a w t d:=by
 have hc:=h.opd (P:=P) T c
 simp only[ev] at he
 split at he
 ·rename_i hk
  simp only[Option.some.injEq,Prod.mk.injEq,true_and] at he
  obtain⟨rfl,rfl⟩:=he
  rw[hk] at hc
  have hc:=hc.inv
  refine good_same h (v:=a.eval x) ?_ (h.opd U x)
  generalize hcv:a.eval c=v at hc
  cases hc
  simp[execOp,ho,hcv,asBool]
 ·rename_i hk
  simp only[Option.some.injEq,Prod.mk.injEq,true_and] at he
  obtain⟨rfl,rfl⟩:=he
  rw[hk] at hc
  have hc:=hc.inv
  refine good_same h (v:=a.eval y) ?_ (h.opd W y)
  generalize hcv:a.eval c=v at hc
  cases hc
  simp[execOp,ho,hcv,asBool]
 ·cases he
theorem sim_load {T:TypeId} {x:Operand} {ag:Bool} {sz:Nat} (h:Rel w0 base nt loc s a w) (ho:o.op = .load T x) (hT:TyOk P T ag sz) (hs:ag=false→sz=1) {U:Option TypeId}
  (he:ev (.load ag sz (opd P U x)) id s=some (true,d,t)):Good P w0 base nt o a w t d:=by
 have hx:=h.opd (P:=P) U x
 simp only[ev] at he
 split at he
 ·rename_i i j off hk
  rw[hk] at hx
  generalize hxv:a.eval x=v at hx
  cases hx with
  | ptr L _ _ _ hL hn =>
  have goal:∀ osz (u z:AV) (T':TypeId) (k:Cont) (frz:Bool),s.m i=some ⟨T',osz,k,frz⟩→u.get off sz osz ag=some z →
    (∀ c fr,w.heap[L.b]? = some (.cells c T' fr)→ContOk w (NB base s.m loc w) loc c L.o osz k→L.o+j*osz+osz≤c.size∧u.cells.length=osz∧(∀ e∈u.cells,e.one=true)∧(∀ p e,u.cells[p]? = some e→RV w (NB base s.m loc w) loc (c.getD (L.o+j*osz+p) undef) e)) →
    Good P w0 base nt o a w s z:=by
   intro osz u z T' k frz hm hg hcc
   obtain⟨L',hL',hok⟩:=h.objs i _ hm
   rw[hL] at hL'
   cases hL'
   obtain⟨c,fr,h1,h2,h3,-⟩:=hok.at_ hn
   obtain⟨g1,g2,g3,g4⟩:=hcc c fr h1 h3
   obtain⟨v,hv1,hv2⟩:=rv_get (P:=P) (T':=T) h1 g1 g2 g3 g4 hg hT hs
   refine good_same h (v:=v) ?_ hv2
   have hsz:L.sz=osz:=hok.sz
   rw[show L.o+(j*L.sz+off)=L.o+j*osz+off by rw[hsz];omega] at hxv
   simp[execOp,ho,hxv,hv1]
  split at he
  ·rename_i T' osz l frz hm
   split at he
   ·rename_i z hz
    simp only[Option.some.injEq,Prod.mk.injEq,decide_eq_true_eq] at he
    obtain⟨hj,rfl,rfl⟩:=he
    refine goal osz _ z T' _ frz hm hz ?_
    intro c fr _ hcont
    obtain⟨k1,k2,k3⟩:=hcont
    have he':l[j]? = some (l.getD j default):=by simp[hj]
    have hmul:j*osz+osz≤l.length*osz:=by
     have:=Nat.mul_le_mul_right osz (show j+1≤l.length by omega)
     rw[Nat.add_mul] at this;omega
    refine⟨by omega,by simpa[AV.cells] using k2 _ (List.mem_of_getElem? he'),fun e hem => ?_,fun p e hp => ?_⟩
    ·simp only[AV.cells,List.mem_map] at hem
     obtain⟨q,hq,rfl⟩:=hem
     obtain⟨n,hn'⟩:=List.getElem?_of_mem hq
     exact (k3 j _ n q he' hn').1
    ·simp only[AV.cells,List.getElem?_map,Option.map_eq_some_iff] at hp
     obtain⟨q,hq,rfl⟩:=hp
     have:=(k3 j _ p q he' hq).2
     rw[←Nat.add_assoc] at this
     exact .p _ _ this
   ·cases he
  ·rename_i T' osz u frz hm
   split at he
   ·rename_i hj
    subst hj
    split at he
    ·rename_i z hz
     simp only[Option.some.injEq,Prod.mk.injEq,true_and] at he
     obtain⟨rfl,rfl⟩:=he
     refine goal osz u z T' _ frz hm hz ?_
     intro c fr _ hcont
     obtain⟨k1,k2,k3,k4⟩:=hcont
     simp only[Nat.zero_mul,Nat.add_zero]
     exact⟨k1,k2,k3,k4⟩
    ·cases he
   ·cases he
  ·cases he
 ·rename_i e hk
  rw[hk] at hx
  have hx:=hx.inv
  split at he
  ·rename_i hag
   simp only[Option.some.injEq,Prod.mk.injEq,decide_eq_true_eq] at he
   obtain⟨⟨hlen,hpos⟩,rfl,rfl⟩:=he
   generalize hxv:a.eval x=v at hx
   cases hx with
   | ref b p T' _ c fr g1 g2 g0 g3 g4 =>
   have hl:∀ i,i<e.cells.length→p+i<c.size:=fun i hi=>g3 i e.cells[i] (by simp[hi])
   cases ag with
   | true =>
    cases e with
    | agg l =>
     have hlen':l.length=sz:=by simpa[D.cells] using hlen
     have hfit:p+sz≤c.size:=by
      have:=hl (sz-1) (by rw[hlen];omega)
      omega
     refine good_same h (v:=.agg (rd c p sz)) ?_ (.p _ _ (.agg _ _ (by simp[hlen']) (fun q hq=>g0 q hq) (fun i q hi => ?_)))
     ·have:=run_loadAgg (P:=P) hT g1 hfit
      simp[execOp,ho,hxv,Instr.loadAt,Instr.sureAddr,this]
     ·have hlt:i<sz:=by have:=(List.getElem?_eq_some_iff.1 hi).1;omega
      rw[rd_get _ _ _ _ hlt]
      exact g4 i q hi
    | _=>simp[D.isAgg] at hag
   | false =>
    have:=hs rfl
    subst this
    have h0:e.cells[0]? = some e:=by cases e<;>simp[D.isAgg] at hag<;>rfl
    refine good_same h (v:=c.getD p undef) ?_ (.p _ _ ?_)
    ·have:=run_loadOne (P:=P) hT g1 (by have:=hl 0 (by omega);rwa[Nat.add_zero] at this)
     simp[execOp,ho,hxv,Instr.loadAt,Instr.sureAddr,this]
    ·have:=g4 0 e h0
     rwa[Nat.add_zero] at this
  ·cases he
 ·cases he
end
end Go.Proofs.YtkidkimjdiichaaGreat.M
end
section
namespace Go.Proofs.YtkidkimjdiichaaGreat
open Go.RowKit
theorem sg_add_same {m n:Bool} {p q:Int} (h:m=n):sg m (p+q)=sg m p+sg n q:=by subst h;cases m<;>simp[sg];omega
theorem sg_add_ge {m n:Bool} {p q:Int} (h:m≠n):sg m (p-q)=sg m p+sg n q:=by cases m<;>cases n<;>simp[sg] at *<;>omega
theorem sg_add_lt {m n:Bool} {p q:Int} (h:m≠n):sg n (q-p)=sg m p+sg n q:=by cases m<;>cases n<;>simp[sg] at *<;>omega
theorem len_le_of_val {a b:List Int} (da:Dig a) (db:Dig b) (nb:Norm b) (h:valL b≤valL a):b.length≤a.length:=by
 rcases Nat.lt_or_ge a.length b.length with h1 | h1
 ·have:=valL_lt_of_len da db nb h1;omega
 ·exact h1
set_option maxRecDepth 100000 in
set_option maxHeartbeats 2000000 in
theorem add_any (x y:IV) (a b:Int) (w:World) (hx:IsI w x a) (hy:IsI w y b) (hs:Sm (a+b)) :
  Calls Tryz.prog 182 #[.agg #[.bool x.n,.slice x.s.a x.s.len x.s.cap],.agg #[.bool y.n,.slice y.s.a y.s.len y.s.cap]] w (RetI w (a+b)):=by
 have he0:=(((Ext.rf w).al (Obj.cells #[Value.bool x.n,Value.slice x.s.a x.s.len x.s.cap] 50)).al (Obj.cells #[Value.bool y.n,Value.slice y.s.a y.s.len y.s.cap] 50))
 obtain⟨la,hla,na,da,hlea,hza,h0a,hsa⟩:=hx.open_
 obtain⟨lb,hlb,nb,db,hleb,hzb,h0b,hsb⟩:=hy.open_
 have HLA:=hd_ hla;have HLB:=hd_ hlb
 by_cases hn:x.n=y.n
 ·have hb:(x.n == y.n)=true:=by simp[hn]
  have hv:=hd_ ((sg_add_same hn).trans (show _=a+b by rw[hza,hzb]))
  replace hs:=hd_ hs
  clear hn hla na da hza h0a hsa hlb nb db hzb h0b hsb hx hy
  go_enter Tryz.func182,Tryz.ntmps182
  go_wp2_with fail
  go_region_held3 (fun w'=>(Ext ((w.alloc (Obj.cells #[Value.bool x.n,Value.slice x.s.a x.s.len x.s.cap] 50)).alloc (Obj.cells #[Value.bool y.n,Value.slice y.s.a y.s.len y.s.cap] 50)) w'∧(∀ b o,b<((w.alloc (Obj.cells #[Value.bool x.n,Value.slice x.s.a x.s.len x.s.cap] 50)).alloc (Obj.cells #[Value.bool y.n,Value.slice y.s.a y.s.len y.s.cap] 50)).heap.size→w'.cell? ⟨b,o,none⟩=((w.alloc (Obj.cells #[Value.bool x.n,Value.slice x.s.a x.s.len x.s.cap] 50)).alloc (Obj.cells #[Value.bool y.n,Value.slice y.s.a y.s.len y.s.cap] 50)).cell? ⟨b,o,none⟩))∧Bx w' 50 (w.heap.size+2)) (first | assumption | exact⟨held_of (Ext.al (Ext.rf _) _).dr,Bx.dr (Bx.new (by simp))⟩ | exact⟨held_of (sb_ext (by assumption)).dr,Bx.dr (sb_bx (by assumption))⟩ | exact⟨held_of (Ext.tr (sb_ext (by assumption)) hx),Bx.keep (sb_bx (by assumption)) hx⟩ | exact⟨held_of ((sb_ext (by assumption)).st2 (by simp) _ _),(sb_bx (by assumption)).st2 _ _⟩) (first | (go_at_call 223;((with_reducible refine (sum_any x.s y.s la lb _ (HLA.out.keep (he0.tr (sb_ext (by assumption)))) (HLB.out.keep (he0.tr (sb_ext (by assumption)))) (by omega) (by omega)).mono ?_);rintro e w' ⟨s1,l1,rfl,hl1,-,hv1,hx⟩)) | (go_at_call 184;((with_reducible refine (made_any x.n s1 l1 _ hl1 (by rw[hv1,hv.out];exact hs.out)).mono ?_);rintro e w' ⟨y1,rfl,hy1,hx⟩;obtain⟨⟨u0,hu0⟩,⟨u1,hu1⟩,hz0,hz1,hty⟩:=Bx.keep (T:=50) (n:=w.heap.size+2) (sb_bx (by assumption)) hx)))
  go_wp2
  refine bodyPost_ret (v:=.agg #[.bool y1.n,.slice y1.s.a y1.s.len y1.s.cap]) (by simp[results,Tryz.results182,go_sem,hu0,hu1]) rfl ⟨y1,rfl,?_,he0.tr (sb_ext (by assumption))⟩
  rw[hv1,hv.out] at hy1
  exact hy1.kept ((Kept.rf _ _).st2 hty (by decide) _ _)
 ·have hb:(x.n == y.n)=false:=by simp[hn]
  by_cases hge:valL lb≤valL la
  ·have hv:=hd_ ((sg_add_ge hn).trans (show _=a+b by rw[hza,hzb]))
   replace hs:=hd_ hs
   have hcm:0≤cmpZ (valL la) (valL lb):=by unfold cmpZ;(repeat' split)<;>omega
   have hll:=len_le_of_val da db nb hge
   replace hge:=hd_ hge
   clear hn hla da hza h0a hsa hlb db hzb h0b hsb hx hy
   go_enter Tryz.func182,Tryz.ntmps182
   go_wp2_with (go_at_call 194;((with_reducible refine (order_any x.s y.s la lb _ (HLA.out.keep (((Ext.rf w).al _ |>.al _).al _)) (HLB.out.keep (((Ext.rf w).al _ |>.al _).al _)) na nb).mono ?_);rintro e w' ⟨rfl,hx⟩;obtain⟨hc1,hf1⟩:=bcell hx))
   have hsb:(Ext ((w.alloc (Obj.cells #[Value.bool x.n,Value.slice x.s.a x.s.len x.s.cap] 50)).alloc (Obj.cells #[Value.bool y.n,Value.slice y.s.a y.s.len y.s.cap] 50)) w'∧(∀ b o,b<((w.alloc (Obj.cells #[Value.bool x.n,Value.slice x.s.a x.s.len x.s.cap] 50)).alloc (Obj.cells #[Value.bool y.n,Value.slice y.s.a y.s.len y.s.cap] 50)).heap.size→w'.cell? ⟨b,o,none⟩=((w.alloc (Obj.cells #[Value.bool x.n,Value.slice x.s.a x.s.len x.s.cap] 50)).alloc (Obj.cells #[Value.bool y.n,Value.slice y.s.a y.s.len y.s.cap] 50)).cell? ⟨b,o,none⟩))∧Bx w' 50 (w.heap.size+2):=⟨held_of (Ext.tr ((Ext.rf _).al _) hx),Bx.keep (Bx.new (by simp)) hx⟩
   go_region_held3 (fun w'=>(Ext ((w.alloc (Obj.cells #[Value.bool x.n,Value.slice x.s.a x.s.len x.s.cap] 50)).alloc (Obj.cells #[Value.bool y.n,Value.slice y.s.a y.s.len y.s.cap] 50)) w'∧(∀ b o,b<((w.alloc (Obj.cells #[Value.bool x.n,Value.slice x.s.a x.s.len x.s.cap] 50)).alloc (Obj.cells #[Value.bool y.n,Value.slice y.s.a y.s.len y.s.cap] 50)).heap.size→w'.cell? ⟨b,o,none⟩=((w.alloc (Obj.cells #[Value.bool x.n,Value.slice x.s.a x.s.len x.s.cap] 50)).alloc (Obj.cells #[Value.bool y.n,Value.slice y.s.a y.s.len y.s.cap] 50)).cell? ⟨b,o,none⟩))∧Bx w' 50 (w.heap.size+2)) (first | assumption | exact⟨held_of (Ext.al (Ext.rf _) _).dr,Bx.dr (Bx.new (by simp))⟩ | exact⟨held_of (sb_ext (by assumption)).dr,Bx.dr (sb_bx (by assumption))⟩ | exact⟨held_of (Ext.tr (sb_ext (by assumption)) hx),Bx.keep (sb_bx (by assumption)) hx⟩ | exact⟨held_of ((sb_ext (by assumption)).st2 (by simp) _ _),(sb_bx (by assumption)).st2 _ _⟩) (first | (go_at_call 197;((with_reducible refine (less_any x.s y.s la lb _ (HLA.out.keep (he0.tr (sb_ext (by assumption)))) (HLB.out.keep (he0.tr (sb_ext (by assumption)))) (by omega) hll hge.out).mono ?_);rintro e w' ⟨s1,l1,rfl,hl1,-,hv1,hx⟩)) | (go_at_call 184;((with_reducible refine (made_any x.n s1 l1 _ hl1 (by rw[hv1,hv.out];exact hs.out)).mono ?_);rintro e w' ⟨y1,rfl,hy1,hx⟩;obtain⟨⟨u0,hu0⟩,⟨u1,hu1⟩,hz0,hz1,hty⟩:=Bx.keep (T:=50) (n:=w.heap.size+2) (sb_bx (by assumption)) hx)))
   go_wp2
   refine bodyPost_ret (v:=.agg #[.bool y1.n,.slice y1.s.a y1.s.len y1.s.cap]) (by simp[results,Tryz.results182,go_sem,hu0,hu1]) rfl ⟨y1,rfl,?_,he0.tr (sb_ext (by assumption))⟩
   rw[hv1,hv.out] at hy1
   exact hy1.kept ((Kept.rf _ _).st2 hty (by decide) _ _)
  ·have hv:=hd_ ((sg_add_lt hn).trans (show _=a+b by rw[hza,hzb]))
   replace hs:=hd_ hs
   have hcm:cmpZ (valL la) (valL lb)<0:=by unfold cmpZ;(repeat' split)<;>omega
   have hll:=len_le_of_val db da na (by omega)
   have hg2:Hd (valL la≤valL lb):=hd_ (by omega)
   clear hge hn hla da hza h0a hsa hlb db hzb h0b hsb hx hy
   go_enter Tryz.func182,Tryz.ntmps182
   go_wp2_with (go_at_call 194;((with_reducible refine (order_any x.s y.s la lb _ (HLA.out.keep (((Ext.rf w).al _ |>.al _).al _)) (HLB.out.keep (((Ext.rf w).al _ |>.al _).al _)) na nb).mono ?_);rintro e w' ⟨rfl,hx⟩;obtain⟨hc1,hf1⟩:=bcell hx))
   have hsb:(Ext ((w.alloc (Obj.cells #[Value.bool x.n,Value.slice x.s.a x.s.len x.s.cap] 50)).alloc (Obj.cells #[Value.bool y.n,Value.slice y.s.a y.s.len y.s.cap] 50)) w'∧(∀ b o,b<((w.alloc (Obj.cells #[Value.bool x.n,Value.slice x.s.a x.s.len x.s.cap] 50)).alloc (Obj.cells #[Value.bool y.n,Value.slice y.s.a y.s.len y.s.cap] 50)).heap.size→w'.cell? ⟨b,o,none⟩=((w.alloc (Obj.cells #[Value.bool x.n,Value.slice x.s.a x.s.len x.s.cap] 50)).alloc (Obj.cells #[Value.bool y.n,Value.slice y.s.a y.s.len y.s.cap] 50)).cell? ⟨b,o,none⟩))∧Bx w' 50 (w.heap.size+2):=⟨held_of (Ext.tr ((Ext.rf _).al _) hx),Bx.keep (Bx.new (by simp)) hx⟩
   go_region_held3 (fun w'=>(Ext ((w.alloc (Obj.cells #[Value.bool x.n,Value.slice x.s.a x.s.len x.s.cap] 50)).alloc (Obj.cells #[Value.bool y.n,Value.slice y.s.a y.s.len y.s.cap] 50)) w'∧(∀ b o,b<((w.alloc (Obj.cells #[Value.bool x.n,Value.slice x.s.a x.s.len x.s.cap] 50)).alloc (Obj.cells #[Value.bool y.n,Value.slice y.s.a y.s.len y.s.cap] 50)).heap.size→w'.cell? ⟨b,o,none⟩=((w.alloc (Obj.cells #[Value.bool x.n,Value.slice x.s.a x.s.len x.s.cap] 50)).alloc (Obj.cells #[Value.bool y.n,Value.slice y.s.a y.s.len y.s.cap] 50)).cell? ⟨b,o,none⟩))∧Bx w' 50 (w.heap.size+2)) (first | assumption | exact⟨held_of (Ext.al (Ext.rf _) _).dr,Bx.dr (Bx.new (by simp))⟩ | exact⟨held_of (sb_ext (by assumption)).dr,Bx.dr (sb_bx (by assumption))⟩ | exact⟨held_of (Ext.tr (sb_ext (by assumption)) hx),Bx.keep (sb_bx (by assumption)) hx⟩ | exact⟨held_of ((sb_ext (by assumption)).st2 (by simp) _ _),(sb_bx (by assumption)).st2 _ _⟩) (first | (go_at_call 197;((with_reducible refine (less_any y.s x.s lb la _ (HLB.out.keep (he0.tr (sb_ext (by assumption)))) (HLA.out.keep (he0.tr (sb_ext (by assumption)))) (by omega) hll hg2.out).mono ?_);rintro e w' ⟨s1,l1,rfl,hl1,-,hv1,hx⟩)) | (go_at_call 184;((with_reducible refine (made_any y.n s1 l1 _ hl1 (by rw[hv1,hv.out];exact hs.out)).mono ?_);rintro e w' ⟨y1,rfl,hy1,hx⟩;obtain⟨⟨u0,hu0⟩,⟨u1,hu1⟩,hz0,hz1,hty⟩:=Bx.keep (T:=50) (n:=w.heap.size+2) (sb_bx (by assumption)) hx)))
   go_wp2
   refine bodyPost_ret (v:=.agg #[.bool y1.n,.slice y1.s.a y1.s.len y1.s.cap]) (by simp[results,Tryz.results182,go_sem,hu0,hu1]) rfl ⟨y1,rfl,?_,he0.tr (sb_ext (by assumption))⟩
   rw[hv1,hv.out] at hy1
   exact hy1.kept ((Kept.rf _ _).st2 hty (by decide) _ _)
set_option maxRecDepth 100000 in
set_option maxHeartbeats 1000000 in
theorem sub_any (x y:IV) (a b:Int) (w:World) (hx:IsI w x a) (hy:IsI w y b) (hs:Sm (a-b)) :
  Calls Tryz.prog 192 #[.agg #[.bool x.n,.slice x.s.a x.s.len x.s.cap],.agg #[.bool y.n,.slice y.s.a y.s.len y.s.cap]] w (RetI w (a-b)):=by
 have he0:=(((Ext.rf w).al (Obj.cells #[Value.bool x.n,Value.slice x.s.a x.s.len x.s.cap] 50)).al (Obj.cells #[Value.bool y.n,Value.slice y.s.a y.s.len y.s.cap] 50))
 have HX:=hd_ hx;have HY:=hd_ hy
 have hv:=hd_ (show a + -b=a-b by omega)
 replace hs:=hd_ hs
 clear hx hy
 go_enter Tryz.func192,Tryz.ntmps192
 go_wp2_with fail
 go_region_held3 (fun w'=>(Ext ((w.alloc (Obj.cells #[Value.bool x.n,Value.slice x.s.a x.s.len x.s.cap] 50)).alloc (Obj.cells #[Value.bool y.n,Value.slice y.s.a y.s.len y.s.cap] 50)) w'∧(∀ b o,b<((w.alloc (Obj.cells #[Value.bool x.n,Value.slice x.s.a x.s.len x.s.cap] 50)).alloc (Obj.cells #[Value.bool y.n,Value.slice y.s.a y.s.len y.s.cap] 50)).heap.size→w'.cell? ⟨b,o,none⟩=((w.alloc (Obj.cells #[Value.bool x.n,Value.slice x.s.a x.s.len x.s.cap] 50)).alloc (Obj.cells #[Value.bool y.n,Value.slice y.s.a y.s.len y.s.cap] 50)).cell? ⟨b,o,none⟩))∧Bx w' 50 (w.heap.size+2)) (first | assumption | exact⟨held_of (Ext.al (Ext.rf _) _).dr,Bx.dr (Bx.new (by simp))⟩ | exact⟨held_of (sb_ext (by assumption)).dr,Bx.dr (sb_bx (by assumption))⟩ | exact⟨held_of (Ext.tr (sb_ext (by assumption)) hx),Bx.keep (sb_bx (by assumption)) hx⟩ | exact⟨held_of ((sb_ext (by assumption)).st2 (by simp) _ _),(sb_bx (by assumption)).st2 _ _⟩) (first | (go_at_call 185;((with_reducible refine (neg_any y b _ (HY.out.keep (he0.tr (sb_ext (by assumption))))).mono ?_);rintro e w' ⟨y2,rfl,hy2,hx⟩)) | (go_at_call 182;((with_reducible refine (add_any x y2 a (-b) _ (HX.out.keep (he0.tr (sb_ext (by assumption)))) hy2 (by rw[hv.out];exact hs.out)).mono ?_);rintro e w' ⟨y1,rfl,hy1,hx⟩;obtain⟨⟨u0,hu0⟩,⟨u1,hu1⟩,hz0,hz1,hty⟩:=Bx.keep (T:=50) (n:=w.heap.size+2) (sb_bx (by assumption)) hx)))
 go_wp2
 refine bodyPost_ret (v:=.agg #[.bool y1.n,.slice y1.s.a y1.s.len y1.s.cap]) (by simp[results,Tryz.results192,go_sem,hu0,hu1]) rfl ⟨y1,rfl,?_,he0.tr (sb_ext (by assumption))⟩
 rw[hv.out] at hy1
 exact hy1.kept ((Kept.rf _ _).st2 hty (by decide) _ _)
end Go.Proofs.YtkidkimjdiichaaGreat
end
section
namespace Go.Proofs.YtkidkimjdiichaaGreat.Z4
open Go.RowKit
def IsZ (w:World) (x:IV) (z:Int):Prop:=
 ∃ l,IsL w x.s .i64 l∧Dig l∧Norm l∧z=sg x.n (valL l)∧(l=[]→x.n=false)∧Sm z
theorem IsZ.keep {w w':World} {x:IV} {z:Int} (h:IsZ w x z) (e:Ext w w'):IsZ w' x z:=by
 obtain⟨l,h1,h2⟩:=h
 exact⟨l,h1.keep e,h2⟩
theorem IsZ.kept {w w':World} {x:IV} {z:Int} (h:IsZ w x z) (e:Kept 3 w w'):IsZ w' x z:=by
 obtain⟨l,h1,h2⟩:=h
 exact⟨l,h1.kept e,h2⟩
theorem isZ_zero (w:World):IsZ w ⟨false,⟨none,0,0⟩⟩ 0:=⟨[],isL_nil w _,(fun x hx=>by cases hx),.inl rfl,by simp[sg,valL],fun _=>rfl,sm_zero⟩
def RetZ (w:World) (z:Int) (e:Ending) (w':World):Prop:=
 ∃ x:IV,e = .returned (.agg #[.bool x.n,.slice x.s.a x.s.len x.s.cap])∧IsZ w' x z∧Ext w w'
def Av (W:World) (A:List SV) (s:SV):Prop:=∀ b off sp,s.a=some ⟨b,off,sp⟩→W.heap.size≤b∨∃ t∈A,∃ off' sp',t.a=some ⟨b,off',sp'⟩
theorem Av.same {W:World} {A:List SV} {s t:SV} (ht:t∈A) (h:s.a=t.a):Av W A s:=fun _ _ _ e => .inr ⟨t,ht,_,_,h.symm.trans e⟩
theorem Av.nil {W:World} {A:List SV} {s:SV} (h:s.a=none):Av W A s:=fun _ _ _ e=>by rw[h] at e;cases e
theorem Av.mono {W W':World} {A:List SV} {s:SV} (h:Av W' A s) (hs:W.heap.size≤W'.heap.size):Av W A s:=fun b off sp e=>(h b off sp e).imp (fun h=>Nat.le_trans hs h) id
theorem Av.trans {W:World} {A A':List SV} {s:SV} (h:Av W A' s) (hA:∀ t∈A',Av W A t):Av W A s:=fun b off sp e=>by
 rcases h b off sp e with h | ⟨t,ht,off',sp',e'⟩
 ·exact .inl h
 ·exact hA t ht b off' sp' e'
theorem Av.row {W w:World} {A:List SV} {s:SV} {base:Nat} {k:IntKind} {l:List Int} (h:Rw w base k s l) (hb:W.heap.size≤base):Av W A s:=fun b off sp e=>by
 rcases h.2 with⟨hv,hn⟩ | ⟨g,cap,cur,hv,hg,_⟩
 ·injection hv with h1 _ _;rw[h1] at e;cases e
 ·injection hv with h1 _ _;rw[h1] at e;injection e with e;injection e with e1 _ _;left;omega
theorem Av.own {W:World} {A:List SV} {s:SV} {b:Nat} {off:Nat} {sp} (h:s.a=some ⟨b,off,sp⟩) (hb:W.heap.size≤b):Av W A s:=fun b' off' sp' e=>by
 rw[h] at e;injection e with e;injection e with e1 _ _;left;omega
def RetZA (w:World) (A:List SV) (z:Int) (e:Ending) (w':World):Prop:=
 ∃ x:IV,e = .returned (.agg #[.bool x.n,.slice x.s.a x.s.len x.s.cap])∧IsZ w' x z∧Ext w w'∧Av w A x.s
theorem RetZA.ret {w:World} {A:List SV} {z:Int} {e:Ending} {w':World} (h:RetZA w A z e w'):RetZ w z e w':=by
 obtain⟨x,h1,h2,h3,_⟩:=h
 exact⟨x,h1,h2,h3⟩
theorem IsZ.open_ {w:World} {x:IV} {z:Int} (h:IsZ w x z):∃ l,IsL w x.s .i64 l∧Norm l∧Dig l∧l.length≤676622540800∧z=sg x.n (valL l)∧(l=[]→x.n=false)∧Sm z:=by
 obtain⟨l,h1,hd,h2,h3,h4,h5⟩:=h
 refine⟨l,h1,h2,hd,?_,h3,h4,h5⟩
 have hb:Bt (valL l) maxBits:=by
  rw[h3] at h5
  exact h5.bt.le (by rw[natAbs_sg];exact Nat.le_refl _)
 have:=len_of_bt hd h2 hb
 rw[maxBits_eq] at this
 omega
theorem isZ_made {w:World} {neg:Bool} {ao:Option Addr} {cap k:Nat} {l:List Int} (h:IsL w ⟨ao,l.length,cap⟩ .i64 l) (hd:Dig l) (hk:k+1≤l.length)
  (hz:∀ j,k+1≤j→at_ l j=0) (hne:at_ l k≠0) (hcm:cap≤9223372036854775807) (hs:Sm (sg neg (valL l))):IsZ w ⟨neg,⟨ao,k+1,cap⟩⟩ (sg neg (valL l)):=by
 have hcap:l.length≤cap:=h.1.2.1
 refine⟨l.take (k+1),h.take hk (by omega) (by omega),fun x hx=>hd x (List.mem_of_mem_take hx),.inr ?_,by rw[valL_take hz],fun e => ?_,hs⟩
 ·have:(l.take (k+1)).length-1=k:=by simp;omega
  rw[this]
  simpa[at_] using hne
 ·have:=congrArg List.length e
  rw[List.length_take,List.length_nil] at this
  omega
set_option maxHeartbeats 400000 in
theorem made_av (neg:Bool) (s:SV) (l:List Int) (w:World) (h:IsL w s .i64 l) (hd:Dig l) (hs:Sm (sg neg (valL l))) :
  Calls Tryz.prog 193 #[.bool neg,.slice s.a s.len s.cap] w (RetZA w [s] (sg neg (valL l))):=by
 obtain⟨ao,cap,rfl,hcap,hcm,hop⟩:=h.open_
 replace hs:=hd_ hs
 go_enter Tryz.func193,Tryz.ntmps193
 go_wp2
 go_loop [5] (fun n => ∃ k:Nat,k≤l.length∧n = .int .i64 k∧(∀ j,k≤j→at_ l j=0)) (fun n=>(intOf n).toNat)
 case atStart=>exact⟨l.length,Nat.le_refl _,rfl,fun j hj=>at_ge hj⟩
 case round =>
  obtain⟨k,hk,rfl,hz⟩:=hrel
  match k,hk,hz with
  | 0,hk,hz =>
   have H0:=hd_ (valL_zero (fun j=>hz j (by omega)))
   clear hz
   go_wp2
   refine bodyPost_ret (v:=.agg #[.bool false,.slice none 0 0]) (by simp[results,Tryz.results193,go_sem]) rfl ⟨⟨false,⟨none,0,0⟩⟩,rfl,?_,(Ext.rf _).al _,Av.nil rfl⟩
   rw[H0.out]
   cases neg<;>exact isZ_zero _
  | k+1,hk,hz =>
   have Hz:=hd_ hz;clear hz
   obtain⟨b,off,rfl,hb,hc⟩:=hop (by omega)
   have hbl:=hb.lt
   have hc:=hc k (by omega)
   have hf:=hd.at_ k
   by_cases h0:at_ l k=0
   ·have h0':(at_ l k == 0)=true:=by simp[h0]
    have H0:=hd_ h0;clear h0
    go_wp2
    go_round
    case rel=>exact⟨k,by omega,by go_num,fun j hj=>if e:j=k then by rw[e];exact H0.out else Hz.out j (by omega)⟩
    case measure=>first | (simp[intOf];done) | (simp[intOf];omega)
   ·have h0':(at_ l k == 0)=false:=by simp[h0]
    go_wp2
    refine bodyPost_ret (v:=.agg #[.bool neg,.slice (some ⟨b,off,none⟩) (k+1) cap]) (by simp[results,Tryz.results193,go_sem]) rfl ⟨⟨neg,⟨some ⟨b,off,none⟩,k+1,cap⟩⟩,rfl,?_,?_,Av.same (.head _) rfl⟩
    ·exact (isZ_made h hd hk Hz.out h0 hcm hs.out).keep (((Ext.rf _).al _))
    ·exact (Ext.rf _).al _
theorem made_any (neg:Bool) (s:SV) (l:List Int) (w:World) (h:IsL w s .i64 l) (hd:Dig l) (hs:Sm (sg neg (valL l))) :
  Calls Tryz.prog 193 #[.bool neg,.slice s.a s.len s.cap] w (RetZ w (sg neg (valL l))):=(made_av neg s l w h hd hs).mono fun _ _ h=>h.ret
set_option maxHeartbeats 400000 in
theorem sign_any (x:IV) (z:Int) (w:World) (h:IsZ w x z) :
  Calls Tryz.prog 162 #[.agg #[.bool x.n,.slice x.s.a x.s.len x.s.cap]] w (fun e w'=>e = .returned (.int .i64 (sgnZ z))∧Ext w w'):=by
 obtain⟨l,hl,hn,hd,hle,hz,h0,hs⟩:=h.open_
 have hneg:=neg_iff hd hn h0
 obtain⟨n,s⟩:=x
 obtain⟨ao,cap,rfl,hcap,hcm,hop⟩:=hl.open_
 simp only at hz h0 hneg
 rw[←hz] at hneg
 have hz0:z=0↔l=[]:=by
  rw[hz,←valL_eq_zero hd hn]
  unfold sg;split<;>omega
 by_cases hl0:l=[]
 ·subst hl0
  have H:=hd_ (hz0.2 rfl)
  have hn0:=h0 rfl
  subst hn0
  clear hz0 hz h0 hneg
  go_enter Tryz.func162,Tryz.ntmps162
  go_wp2
  go_ret
  exact⟨by rw[H.out];rfl,(Ext.rf _).al _⟩
 ·have hlen:0<l.length:=by
   rcases Nat.eq_zero_or_pos l.length with h | h
   ·exact absurd (List.eq_nil_of_length_eq_zero h) hl0
   ·exact h
  cases n
  ·have H:Hd (sgnZ z=1):=hd_ (by
    have:¬ z<0:=by simpa using hneg
    have:¬ z=0:=fun e=>hl0 (hz0.1 e)
    unfold sgnZ;rw[if_neg (by omega),if_neg (by omega)])
   clear hz0 hz h0 hneg hl0
   go_enter Tryz.func162,Tryz.ntmps162
   go_wp2
   go_ret
   exact⟨by rw[H.out];rfl,(Ext.rf _).al _⟩
  ·have H:Hd (sgnZ z = -1):=hd_ (by
    have:z<0:=by simpa using hneg
    unfold sgnZ;rw[if_pos (by omega)])
   clear hz0 hz h0 hneg hl0
   go_enter Tryz.func162,Tryz.ntmps162
   go_wp2
   go_ret
   exact⟨by rw[H.out];rfl,(Ext.rf _).al _⟩
set_option maxHeartbeats 400000 in
theorem neg_av (x:IV) (z:Int) (w:World) (h:IsZ w x z) :
  Calls Tryz.prog 138 #[.agg #[.bool x.n,.slice x.s.a x.s.len x.s.cap]] w (RetZA w [x.s] (-z)):=by
 obtain⟨l,hl,hn,hd,hle,hz,h0,hs⟩:=h.open_
 replace hz:=hd_ hz
 replace h0:=hd_ h0
 go_enter Tryz.func138,Tryz.ntmps138
 go_wp2_with fail
 refine (made_av _ x.s l _ (hl.keep (((Ext.rf _).al _).al _)) hd (by rw[sg_not,←hz.out];exact hs.neg)).mono ?_
 rintro e w1 ⟨y,rfl,hy,hx,hav⟩
 have hz1:=hx.size
 obtain⟨hc1,hf1⟩:=bcell hx
 go_wp2
 refine bodyPost_ret (v:=.agg #[.bool y.n,.slice y.s.a y.s.len y.s.cap]) (by simp[results,Tryz.results138,go_sem,hc1]) rfl ⟨y,rfl,?_,?_,hav.mono (by simp;omega)⟩
 ·rw[hz.out,←sg_not]
  exact hy.kept ((Kept.rf _ _).st2 ((Ty.new' (by simp)).keep hx) (by decide) _ _)
 ·exact (((Ext.rf w).al _).al _ |>.tr hx).st2 (by simp) _ _
theorem neg_any (x:IV) (z:Int) (w:World) (h:IsZ w x z) :
  Calls Tryz.prog 138 #[.agg #[.bool x.n,.slice x.s.a x.s.len x.s.cap]] w (RetZ w (-z)):=(neg_av x z w h).mono fun _ _ h=>h.ret
end Go.Proofs.YtkidkimjdiichaaGreat.Z4
end
section
namespace Go.Proofs.YtkidkimjdiichaaGreat.M
open Go.RowKit
section
variable {P:Program} {w0:World} {base:Nat→Prop} {nt:Nat} {loc:Locs} {s t:St} {a:Act} {w:World} {o:Oper} {id:Nat} {d:AV}
theorem partD_V {N:Nat→Prop} {cs:Array Value} {l:List D} {off sz:Nat} {ag:Bool} {e:D} (h1:cs.size=l.length) (h2:∀ q∈l,q.one=true) (h3:∀ i q,l[i]? = some q→V w N (cs.getD i undef) q)
  {T:TypeId} (hT:TyOk P T ag sz) (hp:partD l off sz ag=some e):∃ v,(part T cs off).run P w = .ok v w∧V w N v e:=by
 unfold partD at hp
 unfold part
 simp only[Sem.run_bind,run_isAgg hT,Result.andThen]
 cases ag with
 | true =>
  simp only[if_true] at hp ⊢
  split at hp
  ·rename_i hle
   simp only[Option.some.injEq] at hp
   subst hp
   simp only[Sem.run_bind,run_sizeOf hT,Result.andThen]
   refine⟨_,rfl,.agg _ _ (by simp;omega) (fun q hq=>h2 q (List.mem_of_mem_drop (List.mem_of_mem_take hq))) (fun i q hi => ?_)⟩
   have hlt:i<sz:=by have:=(List.getElem?_eq_some_iff.1 hi).1;simp at this;omega
   rw[List.getElem?_take_of_lt hlt,List.getElem?_drop] at hi
   have:=h3 _ q hi
   simp only[Array.getD_eq_getD_getElem?] at this ⊢
   rw[Array.getElem?_extract,if_pos (by omega)]
   exact this
  ·cases hp
 | false =>
  simp only[Bool.false_eq_true,if_false] at hp ⊢
  have hlt:=(List.getElem?_eq_some_iff.1 hp).1
  have hc:cs[off]? = some (cs.getD off undef):=by simp[h1,hlt]
  rw[hc]
  exact⟨_,rfl,h3 off e hp⟩
theorem partA_RV {N:Nat→Prop} {cs:Array Value} {l:List AV} {off sz:Nat} {ag:Bool} {e:AV} (h1:cs.size=l.length) (h2:∀ q∈l,q.one=true) (h3:∀ i q,l[i]? = some q→RV w N loc (cs.getD i undef) q)
  {T:TypeId} (hT:TyOk P T ag sz) (hp:partA l off sz ag=some e):∃ v,(part T cs off).run P w = .ok v w∧RV w N loc v e:=by
 unfold partA at hp
 unfold part
 simp only[Sem.run_bind,run_isAgg hT,Result.andThen]
 cases ag with
 | true =>
  simp only[if_true] at hp ⊢
  split at hp
  ·rename_i hle
   simp only[Option.some.injEq] at hp
   subst hp
   simp only[Sem.run_bind,run_sizeOf hT,Result.andThen]
   refine⟨_,rfl,.agg _ _ (by simp;omega) (fun q hq=>h2 q (List.mem_of_mem_drop (List.mem_of_mem_take hq))) (fun i q hi => ?_)⟩
   have hlt:i<sz:=by have:=(List.getElem?_eq_some_iff.1 hi).1;simp at this;omega
   rw[List.getElem?_take_of_lt hlt,List.getElem?_drop] at hi
   have:=h3 _ q hi
   simp only[Array.getD_eq_getD_getElem?] at this ⊢
   rw[Array.getElem?_extract,if_pos (by omega)]
   exact this
  ·cases hp
 | false =>
  simp only[Bool.false_eq_true,if_false] at hp ⊢
  have hlt:=(List.getElem?_eq_some_iff.1 hp).1
  have hc:cs[off]? = some (cs.getD off undef):=by simp[h1,hlt]
  rw[hc]
  exact⟨_,rfl,h3 off e hp⟩
theorem sim_field {S:TypeId} {x:Operand} {f:Nat} {fs:Array Field} {g:Field} {ag:Bool} {sz:Nat} (h:Rel w0 base nt loc s a w) (ho:o.op = .field S x f) (hS:P.underlying S=some (.struct fs)) (hf:fs[f]? = some g) (hT:TyOk P g.type ag sz) {U:Option TypeId}
  (he:ev (.field g.offset sz ag (opd P U x)) id s=some (true,d,t)):Good P w0 base nt o a w t d:=by
 have hx:=h.opd (P:=P) U x
 simp only[ev] at he
 split at he
 case isFalse=>cases he
 rename_i hagg
 split at he
 ·rename_i z hz
  simp only[Option.some.injEq,Prod.mk.injEq,true_and] at he
  obtain⟨rfl,rfl⟩:=he
  generalize hxv:a.eval x=v at hx
  have key:∀ cs,v = .agg cs→(∃ u,(part g.type cs g.offset).run P w = .ok u w∧RV w (NB base s.m loc w) loc u z)→Good P w0 base nt o a w s z:=by
   rintro cs rfl ⟨u,hu1,hu2⟩
   refine good_same h (v:=u) ?_ hu2
   simp[execOp,ho,hxv,Instr.field,run_underlying hS,hf,asAgg,hu1]
  generalize (opd P U x).ev s.r=X at hx hz hagg
  cases hx with
  | p _ e hV =>
   simp only[AV.part,Option.map_eq_some_iff] at hz
   obtain⟨q,hq,rfl⟩:=hz
   cases hV with
   | agg cs l h1 h2 h3 =>
    refine key cs rfl ?_
    obtain⟨u,hu1,hu2⟩:=partD_V (P:=P) h1 h2 h3 hT hq
    exact⟨u,hu1,.p _ _ hu2⟩
   | _=>simp[AV.isAgg,D.isAgg] at hagg
  | agg cs l h1 h2 h3=>exact key cs rfl (partA_RV h1 h2 h3 hT hz)
  | _=>simp[AV.isAgg] at hagg
 ·cases he
theorem sim_fieldAddr {S:TypeId} {x:Operand} {f:Nat} {fs:Array Field} {g:Field} {ag:Bool} {sz:Nat} (h:Rel w0 base nt loc s a w) (ho:o.op = .fieldAddr S x f) (hS:P.underlying S=some (.struct fs)) (hf:fs[f]? = some g) (hT:TyOk P g.type ag sz) (hz:sz≠0) {U:Option TypeId}
  (he:ev (.fieldAddr g.offset sz ag (opd P U x)) id s=some (true,d,t)):Good P w0 base nt o a w t d:=by
 have hx:=h.opd (P:=P) U x
 have run:∀ b p,a.eval x = .pointer (some ⟨b,p,none⟩)→(execOp a.eval o).run P w = .ok (.value (.pointer (some ⟨b,p+g.offset,none⟩))) w:=by
  intro b p hv
  simp[execOp,ho,hv,Instr.fieldAt,run_underlying hS,hf,Instr.sureAddr,fieldPlace,run_sizeOf hT,hz,add_mid]
 simp only[ev] at he
 split at he
 ·rename_i i j p hk
  simp only[Option.some.injEq,Prod.mk.injEq,true_and] at he
  obtain⟨rfl,rfl⟩:=he
  rw[hk] at hx
  generalize hxv:a.eval x=v at hx
  cases hx with
  | ptr L _ _ _ hL hn =>
  refine good_same h (run _ _ hxv) ?_
  rw[show L.o+(j*L.sz+p)+g.offset=L.o+(j*L.sz+(p+g.offset)) by omega]
  exact .ptr L _ _ _ hL hn
 ·rename_i e hk
  split at he
  ·rename_i q hq
   simp only[Option.some.injEq,Prod.mk.injEq,true_and] at he
   obtain⟨rfl,rfl⟩:=he
   rw[hk] at hx
   have hx:=hx.inv
   generalize hxv:a.eval x=v at hx
   cases hx with
   | ref b p T' _ c fr g1 g2 g0 g3 g4 =>
   refine good_same h (run _ _ hxv) (.p _ _ ?_)
   unfold D.part partD at hq
   cases ag with
   | true =>
    simp only[if_true] at hq
    split at hq
    ·rename_i hle
     simp only[Option.some.injEq] at hq
     subst hq
     have idx:∀ j e',((e.cells.drop g.offset).take sz)[j]? = some e'→e.cells[g.offset+j]? = some e':=by
      intro j e' hj
      have hlt:j<sz:=by have:=(List.getElem?_eq_some_iff.1 hj).1;simp at this;omega
      rw[List.getElem?_take_of_lt hlt,List.getElem?_drop] at hj
      exact hj
     refine .ref b _ T' _ c fr g1 g2 (fun q' hq'=>g0 q' (List.mem_of_mem_drop (List.mem_of_mem_take hq'))) (fun j e' hj => ?_) (fun j e' hj => ?_)
     ·have:=g3 _ e' (idx j e' hj);omega
     ·have:=g4 _ e' (idx j e' hj)
      rwa[←Nat.add_assoc] at this
    ·cases hq
   | false =>
    simp only[Bool.false_eq_true,if_false] at hq
    have h1:=g0 q (List.mem_of_getElem? hq)
    have hc:q.cells=[q]:=by cases q<;>first | rfl | simp[D.one] at h1
    refine .ref b _ T' _ c fr g1 g2 (fun q' hq'=>by rw[hc] at hq';simp at hq';subst hq';exact h1) (fun j e' hj => ?_) (fun j e' hj => ?_)
    ·rw[hc] at hj
     match j,hj with
     | 0,hj=>simp at hj;subst hj;have:=g3 _ q hq;omega
     | j+1,hj=>simp at hj
    ·rw[hc] at hj
     match j,hj with
     | 0,hj=>simp at hj;subst hj;exact g4 _ q hq
     | j+1,hj=>simp at hj
  ·cases he
 ·cases he
theorem asI_eval {x:Operand} {U:Option TypeId} {n:Int} (h:Rel w0 base nt loc s a w) (hi:asI ((opd P U x).ev s.r)=some n):∃ k,a.eval x = .int k n:=by
 have hx:=h.opd (P:=P) U x
 generalize (opd P U x).ev s.r=X at hx hi
 generalize a.eval x=v at hx ⊢
 cases hx with
 | p v e hV=>cases hV<;>simp[asI] at hi;subst hi;exact⟨_,rfl⟩
 | _=>simp[asI] at hi
theorem sim_indexAddr {T E:TypeId} {x i:Operand} {ag:Bool} {sz:Nat} (h:Rel w0 base nt loc s a w) (ho:o.op = .indexAddr T x i) (hS:P.underlying T=some (.slice E)) (hT:TyOk P E ag sz) {U W:Option TypeId}
  (he:ev (.indexAddr sz (opd P U x) (opd P W i)) id s=some (true,d,t)):Good P w0 base nt o a w t d:=by
 have hx:=h.opd (P:=P) U x
 simp only[ev] at he
 have run:∀ b p n (m:Nat) len cap,a.eval x = .slice (some ⟨b,p,none⟩) len cap→(∃ k,a.eval i = .int k n)→n=(m:Int)→m<len→(execOp a.eval o).run P w = .ok (.value (.pointer (some ⟨b,p+m*sz,none⟩))) w:=by
  rintro b p n m len cap hv ⟨k,hi⟩ rfl hlt
  simp[execOp,ho,hv,hi,Instr.indexAt,asIntOf,run_underlying hS,hlt,run_sizeOf hT,add_mid]
 split at he
 ·rename_i T' sz' l n hk hn
  split at he
  ·rename_i hsz
   subst hsz
   simp only[Option.some.injEq,Prod.mk.injEq,decide_eq_true_eq] at he
   obtain⟨⟨hn0,hn1⟩,rfl,rfl⟩:=he
   rw[hk] at hx
   have hx:=hx.inv
   have hi:=asI_eval h hn
   generalize hxv:a.eval x=v at hx
   obtain⟨m,rfl⟩:=Int.eq_ofNat_of_zero_le hn0
   cases hx with
   | empty=>simp at hn1;omega
   | list b p cap _ _ _ c fr g1 g2 g3 g4 g5 g6 g7 =>
   obtain⟨T',g1,-⟩:=g1
   have hml:m<l.length:=by omega
   refine good_same h (run b p _ m _ _ hxv hi rfl hml) (.p _ _ ?_)
   have hlm:l[m]? = some (l.getD m default):=by simp[hml]
   rw[Int.toNat_natCast]
   refine .ref b _ T' _ c fr g1 g2 (g5 _ (List.mem_of_getElem? hlm)).2 (fun j e' hj => ?_) (fun j e' hj => ?_)
   ·have:=g6 m _ j e' hlm hj;omega
   ·have:=g7 m _ j e' hlm hj
    rwa[←Nat.add_assoc] at this
  ·cases he
 ·rename_i j off len n hk hn
  split at he
  ·rename_i ob hob
   split at he
   ·rename_i hsz
    subst hsz
    simp only[Option.some.injEq,Prod.mk.injEq,decide_eq_true_eq] at he
    obtain⟨⟨hn0,hn1⟩,rfl,rfl⟩:=he
    rw[hk] at hx
    have hi:=asI_eval h hn
    generalize hxv:a.eval x=v at hx
    obtain⟨m,rfl⟩:=Int.eq_ofNat_of_zero_le hn0
    cases hx with
    | sliceEmp=>simp at hn1;omega
    | slice L _ _ _ cap hL hnil h3 h4 h5 =>
    obtain⟨L',hL',hok⟩:=h.objs j ob hob
    rw[hL] at hL'
    cases hL'
    refine good_same h (run _ _ _ m _ _ hxv hi rfl (by omega)) ?_
    rw[Int.toNat_natCast,show L.o+off*L.sz+m*ob.sz=L.o+((off+m)*L.sz+0) by rw[←hok.sz,Nat.add_mul];omega]
    exact .ptr L _ _ _ hL hnil
   ·cases he
  ·cases he
 ·cases he
theorem sim_index {T:TypeId} {x i:Operand} (h:Rel w0 base nt loc s a w) (ho:o.op = .index T x i) (hS:P.underlying T=some .string) {U W:Option TypeId}
  (he:ev (.index (opd P U x) (opd P W i)) id s=some (true,d,t)):Good P w0 base nt o a w t d:=by
 have hx:=h.opd (P:=P) U x
 simp only[ev] at he
 split at he
 ·rename_i l n hk hn
  simp only[Option.some.injEq,Prod.mk.injEq,decide_eq_true_eq] at he
  obtain⟨⟨hn0,hn1⟩,rfl,rfl⟩:=he
  rw[hk] at hx
  have hx:=hx.inv
  obtain⟨k,hi⟩:=asI_eval h hn
  obtain⟨m,rfl⟩:=Int.eq_ofNat_of_zero_le hn0
  generalize hxv:a.eval x=v at hx
  cases hx with
  | str q =>
  have hlt:m<q.size:=by have:q.data.size=q.size:=rfl;simp at hn1;omega
  refine good_same h (v:=.int .u8 (q[m].toNat:Int)) ?_ ?_
  ·have:q[m]? = some q[m]:=by simp[hlt]
   simp[execOp,ho,hxv,hi,Instr.index,asIntOf,run_underlying hS,this]
  ·rw[Int.toNat_natCast]
   have hg:q.data.toList.getD m 0=q[m]:=by
    have:q.data.size=q.size:=rfl
    simp[this,hlt]
    rfl
   rw[hg]
   exact .p _ _ (.int _ _)
 ·cases he
theorem sim_extract {x:Operand} {i:Nat} (h:Rel w0 base nt loc s a w) (ho:o.op = .extract x i) {U:Option TypeId}
  (he:ev (.extract (opd P U x) i) id s=some (true,d,t)):Good P w0 base nt o a w t d:=by
 have hx:=h.opd (P:=P) U x
 simp only[ev] at he
 split at he
 ·rename_i l hk
  simp only[Option.map_eq_some_iff,Prod.mk.injEq,true_and] at he
  obtain⟨e,hl,rfl,rfl⟩:=he
  rw[hk] at hx
  have hx:=hx.inv
  generalize hxv:a.eval x=v at hx
  cases hx with
  | tup cs _ h1 h2 =>
  refine good_same h (v:=cs.getD i undef) ?_ (.p _ _ (h2 i e hl))
  have hlt:=(List.getElem?_eq_some_iff.1 hl).1
  have:cs[i]? = some (cs.getD i undef):=by simp[h1,hlt]
  simp only[execOp,ho,hxv,Instr.extract,this]
  simp
 ·rename_i l hk
  simp only[Option.map_eq_some_iff,Prod.mk.injEq,true_and] at he
  obtain⟨e,hl,rfl,rfl⟩:=he
  rw[hk] at hx
  generalize hxv:a.eval x=v at hx
  cases hx with
  | tup cs _ h1 h2 =>
  refine good_same h (v:=cs.getD i undef) ?_ (h2 i e hl)
  have hlt:=(List.getElem?_eq_some_iff.1 hl).1
  have:cs[i]? = some (cs.getD i undef):=by simp[h1,hlt]
  simp only[execOp,ho,hxv,Instr.extract,this]
  simp
 ·cases he
end
end Go.Proofs.YtkidkimjdiichaaGreat.M
end
section
namespace Go.Proofs.YtkidkimjdiichaaGreat
open Go.RowKit
theorem sg_mul {m n:Bool} {p q:Int}:sg (!(m == n)) (p*q)=sg m p*sg n q:=by cases m<;>cases n<;>simp[sg,Int.neg_mul,Int.mul_neg]
theorem pow_add' (i j:Nat):(4294967296:Int)^(i+j)=4294967296^i*4294967296^j:=Int.pow_add ..
set_option maxRecDepth 100000 in
set_option maxHeartbeats 2000000 in
theorem mul_any (x y:IV) (a b:Int) (w:World) (hx:IsI w x a) (hy:IsI w y b) (hs:Sm (a*b)) :
  Calls Tryz.prog 132 #[.agg #[.bool x.n,.slice x.s.a x.s.len x.s.cap],.agg #[.bool y.n,.slice y.s.a y.s.len y.s.cap]] w (RetI w (a*b)):=by
 obtain⟨la,hla,na,da,hlea,hza,h0a,hsa⟩:=hx.open_
 obtain⟨lb,hlb,nb,db,hleb,hzb,h0b,hsb⟩:=hy.open_
 obtain⟨nx,sx⟩:=x
 obtain⟨ny,sy⟩:=y
 obtain⟨ao,ca,rfl,hca,hcam,hopa⟩:=hla.open_
 obtain⟨bo,cb,rfl,hcb,hcbm,hopb⟩:=hlb.open_
 have hv:=hd_ ((sg_mul (m:=nx) (n:=ny) (p:=valL la) (q:=valL lb)).trans (show _=a*b by rw[hza,hzb]))
 replace hs:=hd_ hs
 have he0:=(((Ext.rf w).al (Obj.cells #[Value.bool nx,Value.slice ao la.length ca] 50)).al (Obj.cells #[Value.bool ny,Value.slice bo lb.length cb] 50)).al (Obj.cells #[Value.bool false,Value.slice none 0 0] 50)
 clear hx hy hza hzb h0a h0b hsa hsb na nb
 go_enter Tryz.func132,Tryz.ntmps132
 go_wp2_with (at_make;refine wpL_make _ rfl _ _ 48 rfl 247 .u32 4 Tryz.underlying48 infoU32 _ _ _ _ (la.length+lb.length) rfl rfl (by omega) (by omega) (by omega) (by omega) ?_;intro w1 hown1 hx1 hlt1;obtain⟨hc1,hf1⟩:=bcell hx1)
 go_loopw [22] (fun i wr => ∃ (k:Nat) (o:List Int),i = .int .i64 k∧k≤la.length∧Own wr (w.heap.size+1+1+1) 247 .u32 o∧o.length=la.length+lb.length∧Dig o ∧
   valL o=valL (la.take k)*valL lb∧(∀ t,k+lb.length≤t→at_ o t=0)∧Ext (((w.alloc (Obj.cells #[Value.bool nx,Value.slice ao la.length ca] 50)).alloc (Obj.cells #[Value.bool ny,Value.slice bo lb.length cb] 50)).alloc (Obj.cells #[Value.bool false,Value.slice none 0 0] 50)) wr) (fun i _=>la.length-(intOf i).toNat)
 case atStart=>exact⟨0,_,rfl,Nat.zero_le _,by simpa using hown1,by simp,dig_zeros _,by simp[valL];exact valL_zero (fun j=>by simp[at_,List.getElem?_replicate];split<;>rfl),fun t _=>by simp[at_,List.getElem?_replicate];split<;>rfl,hx1⟩
 case round =>
  clear hown1 hx1 hc1 hf1 hlt1
  obtain⟨k,o,rfl,hk,hown,hol,hdo,hval,hzt,hx⟩:=hrel
  replace hval:=hd_ hval
  replace hol:=hd_ hol
  replace hzt:=hd_ hzt
  obtain⟨hc1,hf1⟩:=bcell hx
  have hsz:=hx.size
  simp only[World.size_alloc] at hsz
  by_cases hlt:k<la.length
  ·obtain⟨ba,oa,rfl,hba,ga⟩:=hopa (by omega)
   have hbl:=hba.lt
   have ga:=(hx.cell (p:=⟨ba,oa+k,none⟩) (by simp;omega)).trans ((he0.cell (p:=⟨ba,oa+k,none⟩) hbl).trans (ga k hlt))
   have fa:=da.at_ k
   go_wp2
   go_loopw [30,8] (fun j c wi => ∃ (m:Nat) (cc:Int) (o2:List Int),j = .int .i64 m∧c = .int .u64 cc∧m≤lb.length∧(0≤cc∧cc≤4294967295)∧Own wi (w.heap.size+1+1+1) 247 .u32 o2∧o2.length=la.length+lb.length∧Dig o2 ∧
     valL o2+cc*4294967296^(k+m)=valL (la.take k)*valL lb+at_ la k*valL (lb.take m)*4294967296^k∧(∀ t,k+lb.length≤t→at_ o2 t=0)∧Ext (((w.alloc (Obj.cells #[Value.bool nx,Value.slice (some ⟨ba,oa,none⟩) la.length ca] 50)).alloc (Obj.cells #[Value.bool ny,Value.slice bo lb.length cb] 50)).alloc (Obj.cells #[Value.bool false,Value.slice none 0 0] 50)) wi) (fun j _ _=>lb.length-(intOf j).toNat)
   case atStart=>exact⟨0,0,o,rfl,rfl,Nat.zero_le _,by omega,hown,hol.out,hdo,by rw[hval.out];simp[valL],hzt.out,hx⟩
   case round =>
    clear hown hdo hval hol hzt hx hc1 hf1 hsz
    obtain⟨m,cc,o2,rfl,rfl,hm,hcc,hown,hol,hdo,hval,hzt,hx⟩:=hrel
    replace hval:=hd_ hval
    replace hol:=hd_ hol
    replace hzt:=hd_ hzt
    obtain⟨hc1,hf1⟩:=bcell hx
    by_cases hlt2:m<lb.length
    ·obtain⟨bb,ob,rfl,hbb,gb⟩:=hopb (by omega)
     have hbl2:=hbb.lt
     have gb:=(hx.cell (p:=⟨bb,ob+m,none⟩) (by simp;omega)).trans ((he0.cell (p:=⟨bb,ob+m,none⟩) hbl2).trans (gb m hlt2))
     have fb:=db.at_ m
     have fab:=mul_bound fa fb
     have go:=hown.cell (i:=k+m) (by have:=hol.out;omega)
     have gf:=hown.frozen (k+m)
     have fo:=hdo.at_ (k+m)
     go_wp2
     go_roundw
     case rel =>
      refine⟨m+1,_,o2.set (k+m) _,by go_num,rfl,by omega,?_,hown.set (k+m) _,by rw[List.length_set];exact hol.out,hdo.set _ (by omega),?_,?_,?_⟩
      ·omega
      ·rw[valL_set_full (by have:=hol.out;omega),valL_take_succ,←Nat.add_assoc]
       exact mul_step hval.out (Int.pow_succ ..).symm (by rw[pow_add'];grind)
      ·intro t ht
       rw[at_set_ne (by omega)]
       exact hzt.out t ht
      ·exact hx.st (by simp) _
     case measure=>first | (simp[intOf];done) | (simp[intOf];omega)
    ·obtain rfl:m=lb.length:=by omega
     have go:=hown.cell (i:=k+lb.length) (by have:=hol.out;omega)
     have gf:=hown.frozen (k+lb.length)
     go_wp2
     go_roundw
     case rel =>
      refine⟨k+1,o2.set (k+lb.length) _,by go_num,by omega,hown.set (k+lb.length) _,by rw[List.length_set];exact hol.out,hdo.set _ (by omega),?_,?_,?_⟩
      ·have h1:=hval.out
       rw[List.take_of_length_le (Nat.le_refl _)] at h1
       rw[valL_set_full (by have:=hol.out;omega),hzt.out _ (Nat.le_refl _),valL_take_succ,Int.sub_zero,h1]
       grind
      ·intro t ht
       rw[at_set_ne (by omega)]
       exact hzt.out t (by omega)
      ·exact hx.st (by simp) _
     case measure=>first | (simp[intOf];done) | (simp[intOf];omega)
  ·obtain rfl:k=la.length:=by omega
   rw[List.take_of_length_le (Nat.le_refl _)] at hval
   go_wp2_with fail
   have hL:=Own.isL (k:=.u32) hown (by have:=hol.out;omega) hdo
   rw[hol.out] at hL
   refine (made_any _ ⟨some ⟨w.heap.size+1+1+1,0,none⟩,la.length+lb.length,la.length+lb.length⟩ o _ hL (by rw[hval.out,hv.out];exact hs.out)).mono ?_
   rintro e w2 ⟨y,rfl,hy,hx2⟩
   have k0:w2.cell? ⟨w.heap.size+1+1,0,none⟩=some (Value.bool false):=cell_later hx2 (cell_later hx (by simp[go_sem]))
   have k1:w2.cell? ⟨w.heap.size+1+1,1,none⟩=some (Value.slice none 0 0):=cell_later hx2 (cell_later hx (by simp[go_sem]))
   have f0:∀ i,w2.frozen? ⟨w.heap.size+1+1,i,none⟩=false:=fun i=>(hx2.frozen (p:=⟨w.heap.size+1+1,i,none⟩) (by show w.heap.size+1+1<_;omega)).trans ((hx.frozen (p:=⟨w.heap.size+1+1,i,none⟩) (by simp)).trans (by simp[go_sem]))
   go_wp2
   refine bodyPost_ret (v:=.agg #[.bool y.n,.slice y.s.a y.s.len y.s.cap]) (by simp[results,Tryz.results132,go_sem,k0,k1]) rfl ⟨y,rfl,?_,?_⟩
   ·rw[hval.out,hv.out] at hy
    exact hy.kept ((Kept.rf _ _).st2 (T':=50) (((Ty.new' (by simp)).keep hx).keep hx2) (by decide) _ _)
   ·exact ((he0.tr hx).tr hx2).st2 (by omega) _ _
end Go.Proofs.YtkidkimjdiichaaGreat
end
section
namespace Go.Proofs.YtkidkimjdiichaaGreat.Z4
open Go.RowKit
theorem infoI64:(Tryz.prog.info? (ET .i64)).map (fun i=>(i.zero,i.size,i.bytes))=some (some (.int .i64 0),1,8):=by kernel_rfl
set_option maxHeartbeats 400000 in
theorem dcmp_any (s t:SV) (a b:List Int) (w:World) (ha:IsL w s .i64 a) (hb:IsL w t .i64 b) (da:Dig a) (db:Dig b) (na:Norm a) (nb:Norm b) :
  Calls Tryz.prog 198 #[.slice s.a s.len s.cap,.slice t.a t.len t.cap] w (fun e w'=>e = .returned (.int .i64 (cmpZ (valL a) (valL b)))∧Ext w w'):=by
 obtain⟨ao,ca,rfl,hca,hcam,hopa⟩:=ha.open_
 obtain⟨bo,cb,rfl,hcb,hcbm,hopb⟩:=hb.open_
 rcases Nat.lt_trichotomy a.length b.length with hl | hl | hl
 ·have H:=hd_ (cmpZ_lt (valL_lt_of_len da db nb hl))
  go_enter Tryz.func198,Tryz.ntmps198
  go_wp2
  go_ret
  exact⟨by rw[H.out];rfl,Ext.rf _⟩
 ·go_enter Tryz.func198,Tryz.ntmps198
  have hb0:((a.length:Int) != b.length)=false:=by rw[bne_eq_false_iff_eq];omega
  have Hl:=hd_ hl
  clear hl
  go_wp2
  go_loopw [5] (fun i wr=>((i = .int .i64 (-1)∧∀ j,at_ a j=at_ b j)∨∃ k:Nat,i = .int .i64 k∧k<a.length∧∀ j,k<j→at_ a j=at_ b j)∧Ext w wr) (fun i _=>(intOf i+1).toNat)
  case atStart =>
   refine⟨?_,Ext.rf _⟩
   have Hl:=Hl.out
   rcases Nat.eq_zero_or_pos a.length with h0 | h0
   ·exact .inl ⟨by rw[h0];rfl,fun j=>by rw[at_ge (by omega),at_ge (by omega)]⟩
   ·refine .inr ⟨a.length-1,?_,by omega,fun j hj=>by rw[at_ge (by omega),at_ge (by omega)]⟩
    congr 1;omega
  case round =>
   obtain⟨hrel,hx⟩:=hrel
   rcases hrel with⟨rfl,heq⟩ | ⟨k,rfl,hk,heq⟩
   ·have H:=hd_ (cmpZ_eq (congrArg valL (list_ext_at Hl.out heq)))
    clear heq
    go_wp2
    go_ret
    exact⟨by rw[H.out];rfl,hx⟩
   ·replace heq:=hd_ heq
    have hkb:k<b.length:=by have:=Hl.out;omega
    obtain⟨ba,oa,rfl,hba,ga⟩:=hopa (by omega)
    obtain⟨bb,ob,rfl,hbb,gb⟩:=hopb (by omega)
    have ga:=(hx.cell (p:=⟨ba,oa+k,none⟩) hba.lt).trans (ga k hk)
    have gb:=(hx.cell (p:=⟨bb,ob+k,none⟩) hbb.lt).trans (gb k hkb)
    rcases Int.lt_trichotomy (at_ a k) (at_ b k) with h | h | h
    ·have H:=hd_ (cmpZ_lt (valL_lt_of_at da db Hl.out hk heq.out h))
     go_wp2
     go_quiet (fail)
     go_wp2
     go_ret
     exact⟨by rw[H.out];rfl,below_drewN hx _⟩
    ·have H:=hd_ h
     have h1:¬ at_ a k<at_ b k:=by omega
     have h2:¬ at_ b k<at_ a k:=by omega
     clear h
     go_wp2
     go_quiet (fail)
     go_wp2
     go_quiet (fail)
     go_wp2
     go_roundw
     case rel =>
      refine⟨?_,below_drewN hx _⟩
      rcases Nat.eq_zero_or_pos k with h0 | h0
      ·exact .inl ⟨by rw[h0];rfl,fun j=>by
        rcases Nat.eq_zero_or_pos j with h1 | h1
        ·subst h1;subst h0;exact H.out
        ·exact heq.out j (by omega)⟩
      ·exact .inr ⟨k-1,by congr 1;omega,by omega,fun j hj=>if e:j=k then by rw[e];exact H.out else heq.out j (by omega)⟩
     case measure=>first | (simp[intOf];done) | (simp[intOf];omega)
    ·have H:=hd_ (cmpZ_gt (valL_lt_of_at db da Hl.out.symm hkb (fun j hj=>(heq.out j hj).symm) h))
     have h1:¬ at_ a k<at_ b k:=by omega
     go_wp2
     go_quiet (fail)
     go_wp2
     go_quiet (fail)
     go_wp2
     go_ret
     exact⟨by rw[H.out];rfl,by first | exact below_drewN (below_drewN hx _) _ | exact below_drewN hx _⟩
 ·have H:=hd_ (cmpZ_gt (valL_lt_of_len db da na hl))
  go_enter Tryz.func198,Tryz.ntmps198
  go_wp2
  go_ret
  exact⟨by rw[H.out];rfl,Ext.rf _⟩
def RetD (w:World) (m:Nat) (z:Int) (e:Ending) (w':World):Prop:=
 ∃ (s:SV) (l:List Int),e = .returned (.slice s.a s.len s.cap)∧IsL w' s .i64 l∧Dig l∧l.length≤m∧valL l=z∧Ext w w'∧Av w [] s
theorem dadd_step {va vb vo c p x y q:Int} (h:vo+c*p=va+vb) (hq:p*10000=q):vo+(c+x+y) % 10000*p+(c+x+y) / 10000*q=va+x*p+(vb+y*p):=by
 have h1:(c+x+y) % 10000=(c+x+y)-10000*((c+x+y) / 10000):=by omega
 rw[h1,←hq]
 generalize (c+x+y) / 10000=d
 grind
set_option maxRecDepth 100000 in
set_option maxHeartbeats 1000000 in
theorem dadd_any (s t:SV) (a b:List Int) (w:World) (ha:IsL w s .i64 a) (hb:IsL w t .i64 b) (da:Dig a) (db:Dig b) (hla:a.length≤1099511627776) (hlb:b.length≤1099511627776) :
  Calls Tryz.prog 224 #[.slice s.a s.len s.cap,.slice t.a t.len t.cap] w (RetD w (max a.length b.length+1) (valL a+valL b)):=by
 obtain⟨ao,ca,rfl,hca,hcam,hopa⟩:=ha.open_
 obtain⟨bo,cb,rfl,hcb,hcbm,hopb⟩:=hb.open_
 go_enter Tryz.func224,Tryz.ntmps224
 go_wp2
 go_loopw [6,5,7] (fun c ov i wr => ∃ (k:Nat) (cc:Int) (so:SV) (o:List Int),c = .int .i64 cc∧ov = .slice so.a so.len so.cap∧i = .int .i64 k∧k≤max a.length b.length+1∧Rw wr w.heap.size .i64 so o∧o.length=k∧Dig o∧(0≤cc∧cc≤1) ∧
   valL o+cc*10000^k=valL (a.take k)+valL (b.take k)∧(k=max a.length b.length+1→cc=0)∧Ext w wr) (fun _ _ i _=>max a.length b.length+1-(intOf i).toNat)
 case atStart=>exact⟨0,0,⟨none,0,0⟩,[],rfl,rfl,rfl,Nat.zero_le _,Rw.nil_ _ _ _,rfl,(fun x hx=>by cases hx),by omega,by simp[valL],fun _=>rfl,Ext.rf _⟩
 case round =>
  obtain⟨k,cc,so,o,rfl,rfl,rfl,hk,hown,hol,hdo,hcc,hval,hcz,hx⟩:=hrel
  have hsl:=hown.len
  obtain⟨oa,on,oc⟩:=so
  simp only at hsl
  subst hsl
  have fa:=da.at_ k
  have fb:=db.at_ k
  have holb:o.length≤max a.length b.length+1:=by omega
  replace hval:=hd_ hval
  replace hol:=hd_ hol
  by_cases h1:k<a.length
  ·obtain⟨ba,oa',rfl,hba,ga⟩:=hopa (by omega)
   have ga:=(hx.cell (p:=⟨ba,oa'+k,none⟩) hba.lt).trans (ga k h1)
   by_cases h2:k<b.length
   ·obtain⟨bb,ob',rfl,hbb,gb⟩:=hopb (by omega)
    have gb:=(hx.cell (p:=⟨bb,ob'+k,none⟩) hbb.lt).trans (gb k h2)
    go_wp2_with ((refine wpL_app1 _ rfl _ _ 56 rfl .i64 8 Tryz.underlying56 infoI64 w ⟨oa,o.length,oc⟩ o _ rfl rfl (by simpa using hown) hx (by omega) (by omega) ?_);intro s5 w5 hrw5 hx5 hk5)
    go_roundw
    case rel =>
     refine⟨k+1,_,s5,o++[(cc+at_ a k+at_ b k) % 10000],rfl,rfl,by go_num,by omega,hrw5,by simp[hol.out],hdo.snoc (by omega),by omega,?_,by omega,hx5⟩
     rw[valL_snoc,hol.out,valL_take_succ,valL_take_succ]
     exact dadd_step hval.out (Int.pow_succ ..).symm
    case measure=>first | (simp[intOf];done) | (simp[intOf];omega)
   ·go_wp2_with ((refine wpL_app1 _ rfl _ _ 56 rfl .i64 8 Tryz.underlying56 infoI64 w ⟨oa,o.length,oc⟩ o _ rfl rfl (by simpa using hown) hx (by omega) (by omega) ?_);intro s5 w5 hrw5 hx5 hk5)
    go_roundw
    case rel =>
     refine⟨k+1,_,s5,o++[(cc+at_ a k) % 10000],rfl,rfl,by go_num,by omega,hrw5,by simp[hol.out],hdo.snoc (by omega),by omega,?_,by omega,hx5⟩
     rw[valL_snoc,hol.out,valL_take_succ,valL_take_succ]
     have S:=dadd_step (x:=at_ a k) (y:=0) hval.out (Int.pow_succ 10000 k).symm
     rw[Int.add_zero] at S
     rw[at_ge (l:=b) (by omega)]
     exact S
    case measure=>first | (simp[intOf];done) | (simp[intOf];omega)
  ·by_cases h2:k<b.length
   ·obtain⟨bb,ob',rfl,hbb,gb⟩:=hopb (by omega)
    have gb:=(hx.cell (p:=⟨bb,ob'+k,none⟩) hbb.lt).trans (gb k h2)
    go_wp2_with ((refine wpL_app1 _ rfl _ _ 56 rfl .i64 8 Tryz.underlying56 infoI64 w ⟨oa,o.length,oc⟩ o _ rfl rfl (by simpa using hown) hx (by omega) (by omega) ?_);intro s5 w5 hrw5 hx5 hk5)
    go_roundw
    case rel =>
     refine⟨k+1,_,s5,o++[(cc+at_ b k) % 10000],rfl,rfl,by go_num,by omega,hrw5,by simp[hol.out],hdo.snoc (by omega),by omega,?_,by omega,hx5⟩
     rw[valL_snoc,hol.out,valL_take_succ,valL_take_succ]
     have S:=dadd_step (x:=0) (y:=at_ b k) hval.out (Int.pow_succ 10000 k).symm
     rw[Int.add_zero] at S
     rw[at_ge (l:=a) (by omega)]
     exact S
    case measure=>first | (simp[intOf];done) | (simp[intOf];omega)
   ·by_cases h3:0<cc
    ·have hkk:k≤max a.length b.length:=by
      rcases Nat.lt_or_ge k (max a.length b.length+1) with h | h
      ·omega
      ·have:=hcz (by omega);omega
     clear hcz
     go_wp2_with ((refine wpL_app1 _ rfl _ _ 56 rfl .i64 8 Tryz.underlying56 infoI64 w ⟨oa,o.length,oc⟩ o _ rfl rfl (by simpa using hown) hx (by omega) (by omega) ?_);intro s5 w5 hrw5 hx5 hk5)
     go_roundw
     case rel =>
      refine⟨k+1,_,s5,o++[(cc) % 10000],rfl,rfl,by go_num,by omega,hrw5,by simp[hol.out],hdo.snoc (by omega),by omega,?_,by omega,hx5⟩
      rw[valL_snoc,hol.out,valL_take_succ,valL_take_succ]
      have S:=dadd_step (x:=0) (y:=0) hval.out (Int.pow_succ 10000 k).symm
      rw[Int.add_zero,Int.add_zero] at S
      rw[at_ge (l:=a) (by omega),at_ge (l:=b) (by omega)]
      exact S
     case measure=>first | (simp[intOf];done) | (simp[intOf];omega)
    ·obtain rfl:cc=0:=by omega
     clear hcz
     go_wp2
     go_ret
     have hv:=hval.out
     rw[Int.zero_mul,Int.add_zero,List.take_of_length_le (by omega),List.take_of_length_le (by omega)] at hv
     exact⟨⟨oa,o.length,oc⟩,o,rfl,hown.isL hdo.fit,hdo,holb,hv,hx,Av.row hown (Nat.le_refl _)⟩
end Go.Proofs.YtkidkimjdiichaaGreat.Z4
end
section
namespace Go.Proofs.YtkidkimjdiichaaGreat
open Go.RowKit
def readN (t:List UInt8):Int:=t.foldl (fun a c=>a*10+((c.toNat:Int)-48)) 0
theorem readN_snoc (t:List UInt8) (c:UInt8):readN (t++[c])=readN t*10+((c.toNat:Int)-48):=by simp[readN]
theorem read_acc (b:List UInt8):∀ x:Int,b.foldl (fun a c=>a*10+((c.toNat:Int)-48)) x=x*10^b.length+readN b:=by
 induction b with
 | nil=>intro x;simp[readN]
 | cons c t ih =>
  intro x
  have h0:=ih (0*10+((c.toNat:Int)-48))
  simp only[List.foldl_cons,List.length_cons,Int.pow_succ,readN] at *
  rw[ih,h0]
  grind
theorem readN_append (a b:List UInt8):readN (a++b)=readN a*10^b.length+readN b:=by
 unfold readN
 rw[List.foldl_append,read_acc]
 rfl
theorem readN_take_succ {q:List UInt8} {j:Nat} (h:j<q.length):readN (q.take (j+1))=readN (q.take j)*10+((byt q j:Int)-48):=by
 rw[List.take_succ_eq_append_getElem h,readN_snoc,byt_lt h]
theorem p10_le {j:Nat} (h:j≤9):(1:Int)≤10^j∧(10:Int)^j≤1000000000:=by
 have h1:(10:Nat)^j≤10^9:=Nat.pow_le_pow_right (by omega) h
 have h2:0<(10:Nat)^j:=Nat.pow_pos (by omega)
 have e:(10:Int)^j=((10^j:Nat):Int):=by rw[Int.natCast_pow];rfl
 rw[e]
 simp only[Nat.reducePow] at h1
 omega
theorem valL_snoc (l:List Int) (x:Int):valL (l++[x])=valL l+x*4294967296^l.length:=by
 induction l with
 | nil=>simp[valL]
 | cons y t ih=>simp only[List.cons_append,valL,ih,List.length_cons,Int.pow_succ];grind
theorem Dig.snoc {l:List Int} (h:Dig l) {x:Int} (hx:0≤x∧x≤4294967295):Dig (l++[x]):=by
 intro y hy
 rcases List.mem_append.1 hy with hy | hy
 ·exact h y hy
 ·rw[List.mem_singleton.1 hy];exact hx
theorem mul_by_bound {m d:Int} (hm:0≤m∧m≤4294967295) (hd:1≤d∧d≤1000000000):0≤m*d∧m*d≤4294967295000000000:=by
 refine⟨Int.mul_nonneg hm.1 (by omega),?_⟩
 have:=Int.mul_le_mul hm.2 hd.2 (by omega) (by omega)
 omega
theorem dig_step {V c V0 d P0 m p q:Int} (h:V+c*p=V0*d+P0) (hq:p*4294967296=q) :
  V+(c+m*d) % 4294967296*p+(c+m*d) / 4294967296*q=(V0+m*p)*d+P0:=by
 have h1:(c+m*d) % 4294967296=(c+m*d)-4294967296*((c+m*d) / 4294967296):=by omega
 rw[h1,←hq]
 generalize (c+m*d) / 4294967296=e
 grind
set_option maxRecDepth 100000 in
set_option maxHeartbeats 1000000 in
theorem digits_any (t:List UInt8) (w:World) (hs:t.length≤1099511627776) (hd:∀ j,j<t.length→48≤byt t j∧byt t j≤57) :
  Calls Tryz.prog 191 #[.string (bs t)] w (RetL w (readN t)):=by
 replace hd:=hd_ hd
 go_enter Tryz.func191,Tryz.ntmps191
 go_wp2
 go_loopw [0,3] (fun v m wr => ∃ p s l,v = .string (bs (t.drop p))∧m = .slice (SV.a s) (SV.len s) (SV.cap s)∧p≤t.length∧Rw wr w.heap.size .u32 s l∧Dig l∧valL l=readN (t.take p)∧l.length≤p∧Ext w wr) (fun v _ _=>match v with | .string b=>b.size | _=>0)
 case atStart=>exact⟨0,⟨none,0,0⟩,[],by simp,rfl,Nat.zero_le _,Rw.nil_ _ _ _,(fun x hx=>by cases hx),rfl,Nat.le_refl _,Ext.rf _⟩
 case round =>
  obtain⟨p,s,l,rfl,rfl,hp,hrw,hdl,hval,hll,hx⟩:=hrel
  have hsl:=hrw.len
  obtain⟨sa,sn,sc⟩:=s
  simp only at hsl
  subst hsl
  obtain⟨q,hq⟩:∃ q,q=t.drop p:=⟨_,rfl⟩
  have hql:q.length+p=t.length:=by rw[hq];simp;omega
  have HQD:Hd (∀ j,j<q.length→48≤byt q j∧byt q j≤57):=hd_ (fun j hj=>by rw[hq,byt_drop];exact hd.out _ (by omega))
  have HQ:=hd_ hq
  have HQL:=hd_ hql
  replace hql:q.length≤t.length:=by omega
  rw[←hq]
  clear hq
  replace hval:=hd_ hval
  by_cases h0:0<q.length
  ·obtain⟨n,hn,hn1,hn9,hnq⟩:∃ n:Nat,((q.length:Int)-1) % 9+1=(n:Int)∧1≤n∧n≤9∧n≤q.length:=⟨(q.length-1) % 9+1,by omega,by omega,by omega,by omega⟩
   go_wp2_with ((refine wpL_bytes _ rfl 9 249 _ rfl Tryz.underlying9 Tryz.underlying249 Tryz.underlying5 (q.take n) (by rfl) (by simp;omega) ?_);intro cb w1 hb1 hx1 hcell1)
   have htl:(q.take n).length=n:=by simp;omega
   have HTL:=hd_ htl
   clear htl
   go_loop [23,5,6] (fun j pt b => ∃ (m:Nat) (pp bb:Int),j = .int .i64 m∧pt = .int .u64 pp∧b = .int .u64 bb∧m≤n∧bb=10^m∧pp=readN (q.take m)∧0≤pp∧pp<bb) (fun j _ _=>n-(intOf j).toNat)
   case atStart=>exact⟨0,0,1,rfl,rfl,rfl,Nat.zero_le _,by simp,rfl,by omega,by omega⟩
   case round =>
    obtain⟨m,pp,bb,rfl,rfl,rfl,hm,hbb,hpp,hpp0,hpp1⟩:=hrel
    have hb9:=p10_le (j:=m) (by omega)
    rw[←hbb] at hb9
    replace hbb:=hd_ hbb
    replace hpp:=hd_ hpp
    by_cases hlt:m<n
    ·have hc:=hcell1 m (by rw[HTL.out];exact hlt)
     have hby:byt (q.take n) m=byt q m:=by simp[byt,hlt]
     have hd1:=HQD.out m (by omega)
     have hb9':=p10_le (j:=m+1) (by omega)
     have hbs:(10:Int)^(m+1)=bb*10:=by rw[hbb.out,Int.pow_succ]
     rw[hbs] at hb9'
     replace hbs:=hd_ hbs
     go_wp2
     go_round
     case rel =>
      refine⟨m+1,_,_,by go_num,rfl,rfl,by omega,hbs.out.symm,?_,by omega,by omega⟩
      rw[readN_take_succ (by omega),←hpp.out]
     case measure=>first | (simp[intOf];done) | (simp[intOf];omega)
    ·obtain rfl:m=n:=by omega
     clear hcell1
     go_wp2
     go_loopw [41,5] (fun i c wi => ∃ (k:Nat) (cc:Int) (l2:List Int),i = .int .i64 k∧c = .int .u64 cc∧k≤l.length∧0≤cc∧cc≤1000000000∧Rw wi w.heap.size .u32 ⟨sa,l.length,sc⟩ l2∧l2.length=l.length∧Dig l2 ∧
       valL (l2.take k)+cc*4294967296^k=valL (l.take k)*bb+pp∧(∀ j,k≤j→at_ l2 j=at_ l j)∧Ext w wi) (fun i _ _=>l.length-(intOf i).toNat)
     case atStart=>exact⟨0,pp,l,rfl,rfl,Nat.zero_le _,hpp0,by omega,hrw.keep hx1,rfl,hdl,by simp[valL],fun _ _=>rfl,hx.tr hx1⟩
     case round =>
      clear hb1 hx1 hrw hx
      obtain⟨k,cc,l2,rfl,rfl,hk,hcc0,hcc1,hrw,hl2,hdl2,hval2,htl2,hx⟩:=hrel
      replace hval2:=hd_ hval2
      replace htl2:=hd_ htl2
      replace hl2:=hd_ hl2
      by_cases hlt:k<l.length
      ·obtain⟨g,cap,hsv,hgb,hgt,hgc1,hgc2,hgc,hgf⟩:=hrw.open_ (by rw[hl2.out];omega)
       rw[SV.mk.injEq] at hsv
       obtain⟨rfl,-,rfl⟩:=hsv
       have gc:=hgc k (by rw[hl2.out];exact hlt)
       have gf:=hgf k
       clear hgc hgf
       have fm:=hdl2.at_ k
       have fmb:=mul_by_bound fm hb9
       go_wp2
       go_roundw
       case rel =>
        refine⟨k+1,_,l2.set k ((cc+at_ l2 k*bb) % 4294967296),by go_num,rfl,by omega,by omega,by omega,?_,by rw[List.length_set];exact hl2.out,hdl2.set k (by omega),?_,?_,?_⟩
        ·have:=Rw.set (l:=l2) (g:=g) (cap:=sc) (by rw[hl2.out];exact hrw) k ((cc+at_ l2 k*bb) % 4294967296)
         rw[hl2.out] at this
         exact this
        ·rw[valL_set (by rw[hl2.out];exact hlt),valL_take_succ,←htl2.out k (Nat.le_refl _)]
         exact dig_step hval2.out (Int.pow_succ ..).symm
        ·intro j hj
         rw[at_set_ne (by omega)]
         exact htl2.out j (by omega)
        ·exact hx.st hgb _
       case measure=>first | (simp[intOf];done) | (simp[intOf];omega)
      ·obtain rfl:k=l.length:=by omega
       have hfin:valL l2+cc*4294967296^l.length=readN (t.take (p+m)):=by
        have h1:=hval2.out
        rw[List.take_of_length_le (by rw[hl2.out];exact Nat.le_refl _),List.take_of_length_le (Nat.le_refl _),hval.out,hpp.out,hbb.out] at h1
        rw[h1,List.take_add,readN_append,←HQ.out,HTL.out]
       have hdq:q.drop m=t.drop (p+m):=by rw[HQ.out,List.drop_drop]
       replace hfin:=hd_ hfin
       by_cases hc0:0<cc
       ·have hsl:l2.length=(⟨sa,l.length,sc⟩:SV).len:=hl2.out
        go_wp2_with ((refine wpL_app1 _ rfl _ _ 48 rfl .u32 4 Tryz.underlying48 infoU32 w ⟨sa,l.length,sc⟩ l2 cc rfl rfl hrw hx (by rw[hl2.out];omega) (by rw[hl2.out];omega) ?_);intro s3 w3 hrw3 hx3 _)
        try rw[hdq]
        go_roundw
        case rel =>
         refine⟨p+m,s3,l2++[cc],rfl,rfl,?_,hrw3,hdl2.snoc (by omega),?_,?_,hx3⟩
         ·have:=HQL.out;omega
         ·rw[valL_snoc,hl2.out,hfin.out]
         ·rw[List.length_append,hl2.out];simp;omega
        case measure=>have:=HQL.out;simp;omega
       ·obtain rfl:cc=0:=by omega
        go_wp2
        try rw[hdq]
        go_roundw
        case rel =>
         refine⟨p+m,⟨sa,l.length,sc⟩,l2,rfl,rfl,?_,hrw,hdl2,?_,?_,hx⟩
         ·have:=HQL.out;omega
         ·have:=hfin.out
          rw[Int.zero_mul,Int.add_zero] at this
          exact this
         ·rw[hl2.out];omega
        case measure=>have:=HQL.out;simp;omega
  ·have hp:p=t.length:=by have:=HQL.out;omega
   replace hp:=hd_ hp
   go_wp2
   go_ret
   refine⟨⟨sa,l.length,sc⟩,l,rfl,hrw.isL hdl,?_,hx⟩
   rw[hval.out,hp.out,List.take_of_length_le (Nat.le_refl _)]
end Go.Proofs.YtkidkimjdiichaaGreat
end
section
namespace Go.Proofs.YtkidkimjdiichaaGreat
open Go.RowKit
theorem or_low {p x:Int} (hp:0≤p∧p≤4294967295) (hx:0≤x∧x≤4294967295):bits BinOp.or IntKind.u64 (p*4294967296) x=p*4294967296+x:=by
 rw[u64_or _ _ (by omega) (by omega) (by omega) (by omega)]
 rw[nat_join 32 _ _ (by omega) (by omega)]
 omega
theorem div32_bounds {hi lo y:Int} (h0:0≤hi) (h1:hi<y) (h2:0≤lo∧lo≤4294967295):0≤(hi*4294967296+lo) / y∧(hi*4294967296+lo) / y≤4294967295∧0≤(hi*4294967296+lo) % y∧(hi*4294967296+lo) % y<y:=by
 refine⟨Int.ediv_nonneg (by omega) (by omega),?_,Int.emod_nonneg _ (by omega),Int.emod_lt_of_pos _ (by omega)⟩
 have:(hi*4294967296+lo) / y<4294967296:=Int.ediv_lt_of_lt_mul (by omega) (by omega)
 omega
set_option maxHeartbeats 400000 in
theorem div32 (hi lo y:Int) (w:World) (h0:0≤hi) (h1:hi<y) (hy:y≤4294967295) (h2:0≤lo∧lo≤4294967295) :
  Calls Tryz.prog 229 #[.int .u32 hi,.int .u32 lo,.int .u32 y] w (fun e w'=>e = .returned (.tuple #[.int .u32 ((hi*4294967296+lo) / y),.int .u32 ((hi*4294967296+lo) % y)])∧Ext w w'):=by
 have ho:=or_low (p:=hi) (by omega) h2
 have hb:=div32_bounds h0 h1 h2
 go_enter Tryz.func229,Tryz.ntmps229
 go_wp2
 go_quiet (fail)
 go_wp2
 go_ret2
 exact⟨rfl,below_drewN (Ext.rf _) _⟩
theorem valL_set_drop {l:List Int} {k:Nat} (h:k<l.length) (v:Int):valL ((l.set k v).drop k)=v+4294967296*valL (l.drop (k+1)):=by
 rw[valL_at_drop,at_set_eq h,List.drop_set_of_lt (by omega)]
def RetShort (w:World) (n:Nat) (q r:Int) (e:Ending) (w':World):Prop:=
 ∃ (s:SV) (l:List Int),e = .returned (.tuple #[.slice s.a s.len s.cap,.int .u32 r])∧IsL w' s .u32 l∧l.length=n∧valL l=q∧Ext w w'
theorem short_end {A D o r:Int} (h:o*D+r=A) (h0:0≤r) (h1:r<D):o=A / D∧r=A % D:=by
 have h2:=Int.mul_ediv_add_emod A D
 have h3:=Int.emod_nonneg A (show D≠0 by omega)
 have h4:=Int.emod_lt_of_pos A (show 0<D by omega)
 have:A / D=o:=by
  rw[←h,Int.add_comm,Int.add_mul_ediv_right _ _ (by omega),Int.ediv_eq_zero_of_lt h0 h1,Int.zero_add]
 rw[this] at h2
 refine⟨this.symm,?_⟩
 have e:D*o=o*D:=Int.mul_comm ..
 omega
theorem short_step {V o r a D:Int} (h:o*D+r=V):((r*4294967296+a) / D+4294967296*o)*D+(r*4294967296+a) % D=a+4294967296*V:=by
 have h2:=Int.mul_ediv_add_emod (r*4294967296+a) D
 generalize (r*4294967296+a) / D=q at *
 generalize (r*4294967296+a) % D=s at *
 subst h
 grind
set_option maxRecDepth 100000 in
set_option maxHeartbeats 1000000 in
theorem short_any (s:SV) (a:List Int) (d:Int) (w:World) (ha:IsL w s .u32 a) (hla:a.length≤1099511627776) (hd:1≤d∧d≤4294967295) :
  Calls Tryz.prog 195 #[.slice s.a s.len s.cap,.int .u32 d] w (RetShort w a.length (valL a / d) (valL a % d)):=by
 have da:Dig a:=ha.2
 obtain⟨ao,ca,rfl,hca,hcam,hopa⟩:=ha.open_
 go_enter Tryz.func195,Tryz.ntmps195
 go_wp2_with (at_make;refine wpL_make _ rfl _ _ 48 rfl 247 .u32 4 Tryz.underlying48 infoU32 _ _ _ _ a.length rfl rfl (by omega) (by omega) (by omega) (by omega) ?_;intro w1 hown1 hx1 hlt1)
 go_loopw [7,8] (fun rv i wr => ∃ (k:Nat) (r:Int) (o:List Int),rv = .int .u32 r∧i = .int .i64 ((k:Int)-1)∧k≤a.length∧Own wr w.heap.size 247 .u32 o∧o.length=a.length∧Dig o∧(0≤r∧r<d) ∧
   valL (o.drop k)*d+r=valL (a.drop k)∧Ext w wr) (fun _ i _=>(intOf i+1).toNat)
 case atStart=>exact⟨a.length,0,_,rfl,rfl,Nat.le_refl _,hown1,by simp,dig_zeros _,by omega,by rw[List.drop_of_length_le (by simp),List.drop_of_length_le (by simp)];simp[valL],hx1⟩
 case round =>
  obtain⟨k,r,o,rfl,rfl,hk,hown,hol,hdo,hr,hval,hx⟩:=hrel
  clear hown1
  replace hval:=hd_ hval
  replace hol:=hd_ hol
  match k,hk,hval with
  | 0,hk,hval =>
   go_wp2
   go_ret2
   have h1:=short_end hval.out hr.1 hr.2
   rw[List.drop_zero,List.drop_zero] at h1
   refine⟨⟨some ⟨w.heap.size,0,none⟩,a.length,a.length⟩,o,by rw[←h1.2];rfl,?_,hol.out,h1.1,hx⟩
   have:=hown.isL (by have:=hol.out;omega) hdo
   rw[hol.out] at this
   exact this
  | k+1,hk,hval =>
   rw[show ((k+1:Nat):Int)-1=(k:Int) by omega]
   obtain⟨ba,oa,rfl,hba,ga⟩:=hopa (by omega)
   have ga:=(hx.cell (p:=⟨ba,oa+k,none⟩) hba.lt).trans (ga k hk)
   have fa:=da.at_ k
   have hb:=div32_bounds (y:=d) hr.1 hr.2 fa
   go_wp2_with fail
   refine (div32 _ _ _ _ hr.1 hr.2 hd.2 fa).mono ?_
   rintro e w2 ⟨rfl,hx2⟩
   have go:=(hown.keep hx2).cell (i:=k) (by have:=hol.out;omega)
   have gf:=(hown.keep hx2).frozen k
   go_wp2
   go_roundw
   case rel =>
    refine⟨k,_,o.set k _,rfl,rfl,by omega,(hown.keep hx2).set k _,by rw[List.length_set];exact hol.out,hdo.set k ⟨hb.1,hb.2.1⟩,⟨hb.2.2.1,hb.2.2.2⟩,?_,(hx.tr hx2).st (Nat.le_refl _) _⟩
    rw[valL_set_drop (by have:=hol.out;omega),valL_at_drop a k]
    exact short_step hval.out
   case measure=>first | (simp[intOf];done) | (simp[intOf];omega)
theorem at_zeros (n i:Nat):at_ (List.replicate n 0) i=0:=by
 simp only[at_,List.getD_eq_getElem?_getD,List.getElem?_replicate]
 split<;>rfl
def RetOwn (w:World) (n:Nat) (z:Int) (e:Ending) (w':World):Prop:=
 ∃ (b:Nat) (l:List Int),e = .returned (.slice (some ⟨b,0,none⟩) n n)∧Own w' b 247 .u32 l∧l.length=n∧Dig l∧valL l=z∧w.heap.size≤b∧Ext w w'
theorem pow2_le {r:Nat} (h:r<32):(1:Int)≤2^r∧(2:Int)^r≤2147483648∧(4294967296:Int)=2^r*2^(32-r):=by
 have h1:(2:Nat)^r≤2^31:=Nat.pow_le_pow_right (by omega) (by omega)
 have h2:(1:Nat)≤2^r:=Nat.one_le_two_pow
 have e:(2:Int)^r=((2^r:Nat):Int):=by simp
 have e3:(2:Int)^r*2^(32-r)=2^32:=by rw[←Int.pow_add,show r+(32-r)=32 by omega]
 refine⟨by omega,by omega,e3.symm⟩
theorem or_join32 {r:Nat} {c l:Int} (hr:r<32) (hc:0≤c∧c<2^r) (hl:0≤l∧l≤4294967295) (hd:l % 2^r=0):bits BinOp.or IntKind.u32 c l=c+l∧bits BinOp.or IntKind.u32 l c=l+c∧c+l≤4294967295:=by
 have h2:=pow2_le hr
 obtain⟨C,rfl⟩:=Int.eq_ofNat_of_zero_le hc.1
 obtain⟨L,rfl⟩:=Int.eq_ofNat_of_zero_le hl.1
 have e:(2:Int)^r=((2^r:Nat):Int):=by simp
 have e2:(2:Int)^(32-r)=((2^(32-r):Nat):Int):=by simp
 rw[e] at hd hc h2
 rw[e2] at h2
 have hd':L % 2^r=0:=by omega
 have hj:=nat_join r L C hd' (by omega)
 have hj2:C ||| L=C+L:=by rw[Nat.or_comm,hj];omega
 have hlt:C+L<4294967296:=by
  obtain⟨m,hm⟩:=Nat.dvd_of_mod_eq_zero hd'
  have h5:4294967296=2^r*2^(32-r):=by have:=h2.2.2;rw[←Int.natCast_mul] at this;omega
  generalize 2^(32-r)=q at *
  generalize 2^r=p at *
  subst hm
  have h6:m<q:=by
   refine Nat.lt_of_mul_lt_mul_left (a:=p) ?_
   omega
  have h7:=Nat.mul_le_mul_left p (show m+1≤q from h6)
  rw[Nat.mul_add,Nat.mul_one] at h7
  omega
 refine⟨?_,?_,by omega⟩
 ·rw[u32_or_nat _ _ (by omega) (by omega),hj2];simp
 ·rw[u32_or_nat _ _ (by omega) (by omega),hj];simp
theorem left_cells {r:Nat} {x c:Int} (hr:r<32) (hx:0≤x∧x≤4294967295) (hc:0≤c∧c<2^r) :
  bits BinOp.or IntKind.u32 c (IntKind.u64.wrap (x*2^r) % 4294967296)=c+(x*2^r) % 4294967296 ∧
  bits BinOp.or IntKind.u32 0 (IntKind.u64.wrap (x*2^r) / 4294967296 % 4294967296)=x*2^r / 4294967296 ∧
  (0≤c+(x*2^r) % 4294967296∧c+(x*2^r) % 4294967296≤4294967295)∧(0≤x*2^r / 4294967296∧x*2^r / 4294967296<2^r)∧(2:Int)^r≤4294967296:=by
 have h2:=pow2_le hr
 have hd:(x*2^r) % 4294967296 % 2^r=0:=by
  rw[Int.emod_emod_of_dvd _ ⟨_,h2.2.2⟩,Int.mul_emod_left]
 have hb:0≤x*2^r∧x*2^r≤4294967295*2147483648:=⟨Int.mul_nonneg hx.1 (by omega),Int.mul_le_mul hx.2 h2.2.1 (by omega) (by omega)⟩
 have hlt:x*2^r<2^r*4294967296:=by
  have:=Int.mul_le_mul_of_nonneg_right hx.2 (show (0:Int)≤2^r by omega)
  omega
 have hw:IntKind.u64.wrap (x*2^r)=x*2^r:=by rw[IntKind.wrap_u64];omega
 rw[hw]
 have hl:0≤(x*2^r) % 4294967296∧(x*2^r) % 4294967296≤4294967295:=by omega
 have hj:=or_join32 hr hc hl hd
 have hh:0≤x*2^r / 4294967296∧x*2^r / 4294967296<2^r:=⟨by omega,Int.ediv_lt_of_lt_mul (by omega) hlt⟩
 have hh2:=hh.2
 refine⟨hj.1,?_,⟨by omega,hj.2.2⟩,hh,by omega⟩
 rw[Int.emod_eq_of_lt hh.1 (by omega)]
 rw[u32_or _ _ (by omega) (by omega) (by omega) (by omega)]
 simp;omega
set_option maxRecDepth 100000 in
set_option maxHeartbeats 1000000 in
theorem left_any (s:SV) (a:List Int) (N:Int) (q r:Nat) (w:World) (ha:IsL w s .u32 a) (hla:a.length≤1099511627776) (hN:N=32*q+r) (hr:r<32) (hq:q≤1099511627776) :
  Calls Tryz.prog 231 #[.slice s.a s.len s.cap,.int .i64 N] w (RetOwn w (a.length+q+1) (valL a*2^r*4294967296^q)):=by
 have da:Dig a:=ha.2
 obtain⟨ao,ca,rfl,hca,hcam,hopa⟩:=ha.open_
 have e1:N / 32=q:=by omega
 have e2:N % 32=r:=by omega
 have hN0:0≤N:=by omega
 clear hN
 go_enter Tryz.func231,Tryz.ntmps231
 go_wp2_with (at_make;refine wpL_make _ rfl _ _ 48 rfl 247 .u32 4 Tryz.underlying48 infoU32 _ _ _ _ (a.length+q+1) rfl rfl (by omega) (by omega) (by omega) (by omega) ?_;intro w1 hown1 hx1 hlt1)
 go_loopw [18] (fun i wr => ∃ (k:Nat) (o:List Int),i = .int .i64 k∧k≤a.length∧Own wr w.heap.size 247 .u32 o∧o.length=a.length+q+1∧Dig o ∧
   valL o=valL (a.take k)*2^r*4294967296^q∧(∀ t,k+q<t→at_ o t=0)∧at_ o (k+q)<2^r∧Ext w wr) (fun i _=>a.length-(intOf i).toNat)
 case atStart =>
  refine⟨0,_,rfl,Nat.zero_le _,hown1,by simp,dig_zeros _,?_,fun t _ => ?_,?_,hx1⟩
  ·rw[valL_zero (fun j=>at_zeros _ j)];simp[valL]
  ·exact at_zeros _ t
  ·rw[at_zeros];exact Int.pow_pos (by omega)
 case round =>
  obtain⟨k,o,rfl,hk,hown,hol,hdo,hval,hz,htop,hx⟩:=hrel
  clear hown1
  replace hval:=hd_ hval
  replace hol:=hd_ hol
  replace hz:=hd_ hz
  replace htop:=hd_ htop
  by_cases hlt:k<a.length
  ·obtain⟨ba,oa,rfl,hba,ga⟩:=hopa (by omega)
   have ga:=(hx.cell (p:=⟨ba,oa+k,none⟩) hba.lt).trans (ga k hlt)
   have fa:=da.at_ k
   have go:=hown.cell (i:=k+q) (by have:=hol.out;omega)
   have gf:=hown.frozen (k+q)
   have go2:=hown.cell (i:=k+q+1) (by have:=hol.out;omega)
   have gf2:=hown.frozen (k+q+1)
   go_wp2
   have hz1:at_ o (k+q+1)=0:=hz.out _ (by omega)
   have fo:=hdo.at_ (k+q)
   obtain⟨c1,c2,c3,c4,c5⟩:=left_cells hr fa ⟨fo.1,htop.out⟩
   rw[hz1,c1,c2]
   go_roundw
   case rel =>
    refine⟨k+1,(o.set (k+q) _).set (k+q+1) _,rfl,by omega,(hown.set (k+q) _).set (k+q+1) _,by rw[List.length_set,List.length_set];exact hol.out,(hdo.set _ c3).set _ (by have:=c4.2;omega),?_,?_,?_,(hx.st (Nat.le_refl _) _).st (Nat.le_refl _) _⟩
    ·rw[valL_set_full (by rw[List.length_set];have:=hol.out;omega),valL_set_full (by have:=hol.out;omega),at_set_ne (by omega),hz1,hval.out,valL_take_succ]
     rw[show k+q+1=k+q+1 from rfl,Int.pow_succ,pow_add' k q]
     generalize (2:Int)^r=p2 at *
     have e:=Int.mul_ediv_add_emod (at_ a k*p2) 4294967296
     generalize (at_ a k*p2) / 4294967296=h at *
     generalize (at_ a k*p2) % 4294967296=l at *
     generalize (4294967296:Int)^k=bk at *
     generalize (4294967296:Int)^q=bq at *
     clear c1 c2 c3 c4 c5
     grind
    ·intro t ht
     rw[at_set_ne (by omega),at_set_ne (by omega)]
     exact hz.out t (by omega)
    ·rw[show k+1+q=k+q+1 by omega,at_set_eq (by rw[List.length_set];have:=hol.out;omega)]
     exact c4.2
   case measure=>first | (simp[intOf];done) | (simp[intOf];omega)
  ·obtain rfl:k=a.length:=by omega
   go_wp2
   go_ret
   refine⟨w.heap.size,o,rfl,hown,hol.out,hdo,?_,Nat.le_refl _,hx⟩
   rw[hval.out,List.take_of_length_le (Nat.le_refl _)]
end Go.Proofs.YtkidkimjdiichaaGreat
end
section
namespace Go.Proofs.YtkidkimjdiichaaGreat.M
open Go.RowKit
theorem wrap_in {k:IntKind} {n:Int} (h:inK k n=true):k.wrap n=n:=by
 cases k<;>simp only[inK,decide_eq_true_eq] at h<;>simp only[IntKind.wrap,IntKind.signed,IntKind.bits,Bool.true_and,Bool.false_and,ge_iff_le,decide_eq_true_eq,Bool.false_eq_true,if_false]<;>first | (split<;>omega) | omega
theorem bytes_eq (x y:ByteArray):(x.toList == y.toList)=decide (x.data.toList=y.data.toList):=by
 rw[ByteArray.toList_eq,ByteArray.toList_eq,Bool.eq_iff_iff]
 simp only[beq_iff_eq,decide_eq_true_eq]
section
variable {P:Program} {w0:World} {base:Nat→Prop} {nt:Nat} {loc:Locs} {s t:St} {a:Act} {w:World} {o:Oper} {id:Nat} {d:AV}
theorem run_equal_bool {T:TypeId} (hT:P.underlying T=some .bool) (p q:Bool):(Op.equal T (.bool p) (.bool q)).run P w = .ok (p == q) w:=by
 have hd:Op.maxDepth=9999+1:=rfl
 unfold Op.equal
 rw[hd,Op.equalIn]
 simp only[Sem.run_bind,run_underlying hT,Result.andThen]
 rfl
theorem run_bin_eql {T:TypeId} (hT:P.underlying T=some .bool) (p q:Bool):(binOp .eql T (.bool p) (.bool q)).run P w = .ok (.bool (p == q)) w:=by
 unfold binOp
 simp[run_equal_bool hT]
theorem run_bin_neq {T:TypeId} (hT:P.underlying T=some .bool) (p q:Bool):(binOp .neq T (.bool p) (.bool q)).run P w = .ok (.bool (!(p == q))) w:=by
 unfold binOp
 simp[run_equal_bool hT]
theorem sim_un {T:TypeId} {op:UnOp} {x:Operand} (h:Rel w0 base nt loc s a w) (ho:o.op = .unOp op T x) {U:Option TypeId}
  (he:ev (.un op (opd P U x)) id s=some (true,d,t)):Good P w0 base nt o a w t d:=by
 have hx:=h.opd (P:=P) U x
 simp only[ev] at he
 split at he
 ·rename_i e hk
  split at he
  ·rename_i c q hq
   simp only[Option.some.injEq,Prod.mk.injEq] at he
   obtain⟨rfl,rfl,rfl⟩:=he
   rw[hk] at hx
   have hx:=hx.inv
   generalize hxv:a.eval x=v at hx
   cases hx with
   | int k n =>
    cases op with
    | neg =>
     simp only[unD,Option.some.injEq,Prod.mk.injEq] at hq
     obtain⟨h1,rfl⟩:=hq
     refine good_same h (v:=.int k (-n)) ?_ (.p _ _ (.int _ _))
     have:=wrap_in h1
     simp[execOp,ho,hxv,Op.unary,Op.intArith,this]
    | _=>simp[unD] at hq
   | bool b =>
    cases op with
    | not =>
     simp only[unD,Option.some.injEq,Prod.mk.injEq,true_and] at hq
     subst hq
     refine good_same h (v:=.bool (!b)) ?_ (.p _ _ (.bool _))
     simp[execOp,ho,hxv,Op.unary]
    | _=>simp[unD] at hq
   | _=>simp[unD] at hq
  ·cases he
 ·cases he
theorem sim_conv {S T:TypeId} {k:IntKind} {ds:TypeDesc} {x:Operand} (h:Rel w0 base nt loc s a w) (ho:o.op = .convert S T x) (hS:P.underlying S=some ds) (hT:P.underlying T=some (.int k)) {U:Option TypeId}
  (he:ev (.conv k (opd P U x)) id s=some (true,d,t)):Good P w0 base nt o a w t d:=by
 have hx:=h.opd (P:=P) U x
 simp only[ev] at he
 split at he
 ·rename_i k' n hk
  simp only[Option.some.injEq,Prod.mk.injEq] at he
  obtain⟨h1,rfl,rfl⟩:=he
  rw[hk] at hx
  have hx:=hx.inv
  generalize hxv:a.eval x=v at hx
  cases hx
  refine good_same h (v:=.int k n) ?_ (.p _ _ (.int _ _))
  have:=wrap_in h1
  simp[execOp,ho,hxv,convert,run_underlying hS,run_underlying hT,Conv.intToInt,this]
 ·cases he
theorem sim_bin {T:TypeId} {op:BinOp} {x y:Operand} {Y:TypeId} (h:Rel w0 base nt loc s a w) (ho:o.op = .binOp op T x y Y) {bo:Bool} (hb:bo=true→P.underlying T=some .bool) {U W:Option TypeId}
  (he:ev (.bin bo op (opd P U x) (opd P W y)) id s=some (true,d,t)):Good P w0 base nt o a w t d:=by
 have hx:=h.opd (P:=P) U x
 have hy:=h.opd (P:=P) W y
 simp only[ev] at he
 split at he
 case h_2=>cases he
 rename_i e f hk hk'
 split at he
 case isFalse=>cases he
 rename_i hbo
 split at he
 case h_2=>cases he
 rename_i c q hq
 simp only[Option.some.injEq,Prod.mk.injEq] at he
 obtain⟨rfl,rfl,rfl⟩:=he
 rw[hk] at hx
 rw[hk'] at hy
 have hx:=hx.inv
 have hy:=hy.inv
 generalize hxv:a.eval x=v at hx
 generalize hyv:a.eval y=u at hy
 have fin:∀ z,V w (NB base s.m loc w) z q→(eqGuard op T x y v u >>= fun _=>binOp op T v u).run P w = .ok z w→Good P w0 base nt o a w s (.p q):=by
  intro z hz hr
  refine good_same h (v:=z) ?_ (.p _ _ hz)
  simp only[execOp,ho,hxv,hyv]
  exact run_v hr
 cases hx with
 | int k m =>
  cases hy with
  | int k' n =>
   have hg:(eqGuard op T x y (.int k m) (.int k' n)).run P w = .ok () w:=by
    unfold eqGuard
    cases op<;>simp
   by_cases hkk:k=k'
   ·subst hkk
    cases op<;>simp only[binD,if_true,Option.some.injEq,Prod.mk.injEq,Bool.and_eq_true,decide_eq_true_eq,reduceCtorEq] at hq<;>obtain⟨h1,rfl⟩:=hq
    case add=>exact fin _ (.int _ _) (by simp[hg,binOp,Op.intArith,wrap_in h1])
    case sub=>exact fin _ (.int _ _) (by simp[hg,binOp,Op.intArith,wrap_in h1])
    case mul=>exact fin _ (.int _ _) (by simp[hg,binOp,Op.intArith,wrap_in h1])
    case quo=>exact fin _ (.int _ _) (by simp[hg,binOp,Op.intDiv,wrap_in h1.2,h1.1])
    case rem=>exact fin _ (.int _ _) (by simp[hg,binOp,Op.intDiv,h1])
    case shl=>exact fin _ (.int _ _) (by simp[hg,binOp,shift_shl k _ m n h1.1.1 (by omega),wrap_in h1.2])
    case shr=>exact fin _ (.int _ _) (by simp[hg,binOp,shift_shr k _ m n h1.1 (by omega)])
    case eql=>exact fin _ (.bool _) (by simp[hg,binOp,Op.intCmp];rfl)
    case neq=>exact fin _ (.bool _) (by simp[hg,binOp,Op.intCmp];rfl)
    case lss=>exact fin _ (.bool _) (by simp[hg,binOp,Op.intCmp])
    case leq=>exact fin _ (.bool _) (by simp[hg,binOp,Op.intCmp])
    case gtr=>exact fin _ (.bool _) (by simp[hg,binOp,Op.intCmp])
    case geq=>exact fin _ (.bool _) (by simp[hg,binOp,Op.intCmp])
   ·cases op<;>simp only[binD,hkk,if_false,Option.some.injEq,Prod.mk.injEq,Bool.and_eq_true,decide_eq_true_eq,reduceCtorEq] at hq<;>obtain⟨h1,rfl⟩:=hq
    case shl=>exact fin _ (.int _ _) (by simp[hg,binOp,shift_shl k _ m n h1.1.1 (by omega),wrap_in h1.2])
    case shr=>exact fin _ (.int _ _) (by simp[hg,binOp,shift_shr k _ m n h1.1 (by omega)])
  | _=>simp[binD] at hq
 | str m =>
  cases hy with
  | str n =>
   have hg:(eqGuard op T x y (.string m) (.string n)).run P w = .ok () w:=by
    unfold eqGuard
    cases op<;>simp
   cases op<;>simp only[binD,Option.some.injEq,Prod.mk.injEq,decide_eq_true_eq,reduceCtorEq] at hq<;>obtain⟨h1,rfl⟩:=hq
   case add =>
    have e:(m.data.toList++n.data.toList)=(m++n).data.toList:=by simp
    exact fin (.string (m++n)) (by rw[e];exact .str _) (by
     have hle:¬ ((9223372036854775807:Int)<(m.size:Int)+n.size):=by
      have h2:m.data.size=m.size:=rfl
      have h3:n.data.size=n.size:=rfl
      simp at h1;omega
     simp[hg,binOp,Op.stringOp,hle])
   case eql=>exact fin _ (.bool _) (by simp[hg,binOp,Op.stringOp,bytes_eq])
   case neq=>exact fin _ (.bool _) (by simp[hg,binOp,Op.stringOp,bytes_eq])
  | _=>simp[binD] at hq
 | bool m =>
  have hT:=hb hbo.symm
  cases hy with
  | bool n =>
   have hg:(eqGuard op T x y (.bool m) (.bool n)).run P w = .ok () w:=by
    unfold eqGuard
    cases op<;>simp
   cases op<;>simp only[binD,Option.some.injEq,Prod.mk.injEq,true_and,reduceCtorEq] at hq<;>subst hq
   case eql=>exact fin _ (.bool _) (by simp only[Sem.run_bind,hg,Result.andThen,run_bin_eql hT])
   case neq=>exact fin _ (.bool _) (by simp only[Sem.run_bind,hg,Result.andThen,run_bin_neq hT])
  | _=>simp[binD] at hq
 | _=>simp[binD] at hq
theorem run_len {T:TypeId} {x:Operand} {c:Call} (ho:o.op = .call c) (hc:c.callee = .builtin .len) (ha:c.args.toList=[x]) (hT:c.argTypes.toList=[T]) {v:Value} {n:Nat} (hv:a.eval x=v)
  (hr:(Builtin.len_ #[T] o.type #[v]).run P w = .ok (.int .i64 n) w):(execOp a.eval o).run P w = .ok (.value (.int .i64 n)) w:=by
 have ha':c.args = #[x]:=by rw[←Array.toList_inj];exact ha
 have hT':c.argTypes = #[T]:=by rw[←Array.toList_inj];exact hT
 subst hv
 simp[execOp,ho,resolve,hc,ha',hT',invoke,builtin,hr]
theorem run_mm {x y:Operand} {c:Call} {mx:Bool} (ho:o.op = .call c) (hc:c.callee = .builtin (if mx then .max else .min)) (ha:c.args.toList=[x,y]) {k:IntKind} {p q:Int} (hx:a.eval x = .int k p) (hy:a.eval y = .int k q) :
  (execOp a.eval o).run P w = .ok (.value (.int k (if mx then (if q > p then q else p) else (if q<p then q else p)))) w:=by
 have ha':c.args = #[x,y]:=by rw[←Array.toList_inj];exact ha
 cases mx<;>simp[execOp,ho,resolve,hc,ha',invoke,builtin,Builtin.max_,Builtin.min_,Builtin.max2,Builtin.min2,hx,hy]
theorem sim_mm {x y:Operand} {c:Call} {mx:Bool} (h:Rel w0 base nt loc s a w) (ho:o.op = .call c) (hc:c.callee = .builtin (if mx then .max else .min)) (ha:c.args.toList=[x,y]) {U W:Option TypeId}
  (he:ev (.mm mx (opd P U x) (opd P W y)) id s=some (true,d,t)):Good P w0 base nt o a w t d:=by
 have hx:=h.opd (P:=P) U x
 have hy:=h.opd (P:=P) W y
 simp only[ev] at he
 split at he
 ·rename_i k p k' q hk hk2
  split at he
  case isFalse=>cases he
  rename_i hkk
  subst hkk
  simp only[Option.some.injEq,Prod.mk.injEq,true_and] at he
  obtain⟨rfl,rfl⟩:=he
  rw[hk] at hx
  rw[hk2] at hy
  have hx:=hx.inv
  have hy:=hy.inv
  generalize hxv:a.eval x=v at hx
  generalize hyv:a.eval y=u at hy
  cases hx
  cases hy
  exact good_same h (run_mm ho hc ha hxv hyv) (.p _ _ (.int _ _))
 ·cases he
theorem sim_lenS {T:TypeId} {x:Operand} {c:Call} (h:Rel w0 base nt loc s a w) (ho:o.op = .call c) (hc:c.callee = .builtin .len) (ha:c.args.toList=[x]) (hT:c.argTypes.toList=[T])
  (hu:P.underlying T=some .string) {U:Option TypeId}
  (he:ev (.lenS (opd P U x)) id s=some (true,d,t)):Good P w0 base nt o a w t d:=by
 have hx:=h.opd (P:=P) U x
 simp only[ev] at he
 split at he
 ·rename_i l hk
  simp only[Option.some.injEq,Prod.mk.injEq,true_and] at he
  obtain⟨rfl,rfl⟩:=he
  rw[hk] at hx
  have hx:=hx.inv
  generalize hxv:a.eval x=v at hx
  cases hx with
  | str q =>
  refine good_same h (run_len ho hc ha hT hxv ?_) (.p _ _ (.int _ _))
  have:q.data.size=q.size:=rfl
  simp[Builtin.len_,run_underlying hu,goInt,this]
 ·cases he
theorem sim_len {T e:TypeId} {x:Operand} {c:Call} (h:Rel w0 base nt loc s a w) (ho:o.op = .call c) (hc:c.callee = .builtin .len) (ha:c.args.toList=[x]) (hT:c.argTypes.toList=[T])
  (hu:P.underlying T=some (.slice e)) {U:Option TypeId}
  (he:ev (.len (opd P U x)) id s=some (true,d,t)):Good P w0 base nt o a w t d:=by
 have hx:=h.opd (P:=P) U x
 have fin:∀ p (n:Nat) cap,a.eval x = .slice p n cap→Good P w0 base nt o a w s (.p (.int .i64 n)):=fun p n cap hv =>
  good_same h (run_len ho hc ha hT hv (by simp[Builtin.len_,run_underlying hu,goInt])) (.p _ _ (.int _ _))
 simp only[ev] at he
 split at he
 ·rename_i T' sz l hk
  simp only[Option.some.injEq,Prod.mk.injEq,true_and] at he
  obtain⟨rfl,rfl⟩:=he
  rw[hk] at hx
  have hx:=hx.inv
  generalize hxv:a.eval x=v at hx
  cases hx with
  | empty p cap=>exact fin p 0 cap hxv
  | list b p cap=>exact fin _ _ _ hxv
 ·rename_i i off n hk
  simp only[Option.some.injEq,Prod.mk.injEq,true_and] at he
  obtain⟨rfl,rfl⟩:=he
  rw[hk] at hx
  generalize hxv:a.eval x=v at hx
  cases hx with
  | slice=>exact fin _ _ _ hxv
  | sliceEmp=>exact fin _ 0 _ hxv
 ·rename_i T' sz hk
  simp only[Option.some.injEq,Prod.mk.injEq,true_and] at he
  obtain⟨rfl,rfl⟩:=he
  rw[hk] at hx
  generalize hxv:a.eval x=v at hx
  cases hx
  exact fin _ 0 _ hxv
 ·cases he
theorem run_bounds {lo hi mx:Option Operand} {len cap l n:Nat} (b:Bool) (h:Rel w0 base nt loc s a w) (hlc:len≤cap) (hm:mx.isSome=true→hi.isSome=true) {c:Bool} (hc:c=true)
  (hb:bounds s.r len (lo.map (opd P none)) (hi.map (opd P none)) (mx.map (opd P none))=some (c,l,n)) :
  ∃ m,(Instr.sliceBounds b len cap (lo.map a.eval) (hi.map a.eval) (mx.map a.eval)).run P w = .ok (l,n,m) w∧l≤n∧n≤len∧n≤m∧m≤cap:=by
 subst hc
 unfold bounds at hb
 split at hb
 case h_2=>cases hb
 rename_i L N hL hN
 have eLo:∀ y,lo=some y→∃ k,a.eval y = .int k L:=by rintro y rfl;exact asI_eval h hL
 have eHi:∀ y,hi=some y→∃ k,a.eval y = .int k N:=by rintro y rfl;exact asI_eval h hN
 have nLo:lo=none→L=0:=by rintro rfl;simpa using hL.symm
 have nHi:hi=none→N=len:=by rintro rfl;simpa using hN.symm
 have sb:∀ k (i:Int) (y:Nat) code,0≤i→i≤y→(Instr.sliceBound (.int k i) y code).run P w = .ok i.toNat w:=by
  intro k i y code h0 h1
  simp[Instr.sliceBound,asIntOf,h0,h1]
 cases mx with
 | none =>
  simp only[Option.map_none,Option.some.injEq,Prod.mk.injEq,decide_eq_true_eq] at hb
  obtain⟨⟨h0,h1,h2⟩,rfl,rfl⟩:=hb
  refine⟨cap,?_,by omega,by omega,by omega,by omega⟩
  unfold Instr.sliceBounds
  cases hi with
  | none =>
   have hNl:=nHi rfl
   subst hNl
   cases lo with
   | none=>have hL0:=nLo rfl;subst hL0;simp
   | some y =>
    obtain⟨k,hk⟩:=eLo y rfl
    have hs:=sb k L len (if (none:Option Value).isSome=true then BoundsCode.slice3C else BoundsCode.sliceB) h0 h1
    simp only[Option.isSome_none,Bool.false_eq_true,if_false] at hs
    simp[hk,hs]
  | some z =>
   obtain⟨k',hk'⟩:=eHi z rfl
   have hs':=sb k' N cap (if b=true then BoundsCode.sliceAcap else BoundsCode.sliceAlen) (by omega) (by omega)
   cases lo with
   | none=>have hL0:=nLo rfl;subst hL0;simp[hk',hs']
   | some y =>
    obtain⟨k,hk⟩:=eLo y rfl
    have hs:=sb k L N.toNat BoundsCode.sliceB h0 (by omega)
    simp[hk,hk',hs,hs']
 | some q =>
  simp only[Option.map_some] at hb
  split at hb
  case h_2=>cases hb
  rename_i M hM
  simp only[Option.some.injEq,Prod.mk.injEq,decide_eq_true_eq] at hb
  obtain⟨⟨h0,h1,h2,h3⟩,rfl,rfl⟩:=hb
  obtain⟨k'',hk''⟩:=asI_eval h hM
  refine⟨M.toNat,?_,by omega,by omega,by omega,by omega⟩
  unfold Instr.sliceBounds
  have hs'':=sb k'' M cap (if b=true then BoundsCode.slice3Acap else BoundsCode.slice3Alen) (by omega) (by omega)
  cases hi with
  | none=>simp at hm
  | some z =>
   obtain⟨k',hk'⟩:=eHi z rfl
   have hs':=sb k' N M.toNat BoundsCode.slice3B (by omega) (by omega)
   cases lo with
   | none=>have hL0:=nLo rfl;subst hL0;simp[hk',hs',hk'',hs'']
   | some y =>
    obtain⟨k,hk⟩:=eLo y rfl
    have hs:=sb k L N.toNat BoundsCode.slice3C h0 (by omega)
    simp[hk,hk',hs,hs',hk'',hs'']
end
end Go.Proofs.YtkidkimjdiichaaGreat.M
end
section
namespace Go.Proofs.YtkidkimjdiichaaGreat
open Go.RowKit
def RetRight (w:World) (n:Nat) (p z:Int) (e:Ending) (w':World):Prop:=
 ∃ (s:SV) (l:List Int) (b:Bool),e = .returned (.tuple #[.slice s.a s.len s.cap,.bool b])∧IsL w' s .u32 l∧l.length=n∧p*valL l=z∧Ext w w'
theorem right_dig {r:Nat} {x:Int} (hr:r<32) (hx:0≤x∧x≤4294967295):0≤x / 2^r∧x / 2^r≤4294967295:=by
 have h2:=pow2_le hr
 refine⟨Int.ediv_nonneg hx.1 (by omega),?_⟩
 have:=Int.ediv_le_self (2^r) hx.1
 omega
theorem right_cells {r:Nat} {x y:Int} (hr:r<32) (hr0:0<r) (hx:0≤x∧x≤4294967295) (_hy:0≤y∧y≤4294967295) :
  bits BinOp.or IntKind.u32 (x / 2^r) (y*2^(32-r) % 4294967296)=x / 2^r+(y % 2^r)*2^(32-r)∧0≤x / 2^r+(y % 2^r)*2^(32-r)∧x / 2^r+(y % 2^r)*2^(32-r)≤4294967295:=by
 have h2:=pow2_le hr
 have h3:=pow2_le (r:=32-r) (by omega)
 have e:y*2^(32-r) % 4294967296=(y % 2^r)*2^(32-r):=by
  rw[h2.2.2,Int.mul_comm y,Int.mul_comm (2^r) (2^(32-r)),Int.mul_emod_mul_of_pos _ _ (by omega),Int.mul_comm]
 have hl:0≤y*2^(32-r) % 4294967296∧y*2^(32-r) % 4294967296≤4294967295:=by omega
 rw[e] at hl ⊢
 have hc:0≤x / 2^r∧x / 2^r<2^(32-r):=⟨(right_dig hr hx).1,Int.ediv_lt_of_lt_mul (by omega) (by rw[Int.mul_comm,←h2.2.2];omega)⟩
 have hj:=or_join32 (r:=32-r) (by omega) hc hl (Int.mul_emod_left _ _)
 exact⟨hj.1,by omega,hj.2.2⟩
theorem right_step0 {V A c a p bk:Int} (h:p*V=A-c+(a % p)*bk):p*(V+a / p*bk)=A+a*bk-c:=by
 have h1:=Int.mul_ediv_add_emod a p
 generalize a / p=q at *
 generalize a % p=s at *
 subst h1
 rw[Int.mul_add,h]
 grind
theorem right_step {V A c a s2 p p' bk:Int} (h:p*V=A-c+(a % p)*bk) (hp:p*p'=4294967296):p*(V+(a / p+s2*p')*bk)=A+a*bk-c+s2*(bk*4294967296):=by
 have h1:=Int.mul_ediv_add_emod a p
 generalize a / p=q at *
 generalize a % p=s at *
 subst h1
 rw[Int.mul_add,h,←hp]
 grind
set_option maxRecDepth 100000 in
set_option maxHeartbeats 1000000 in
theorem right_pos (s:SV) (a:List Int) (r:Nat) (w:World) (ha:IsL w s .u32 a) (hla:a.length≤1099511627776) (h0:0<a.length) (hr:r<32) (hr0:0<r) :
  Calls Tryz.prog 234 #[.slice s.a s.len s.cap,.int .i64 r] w (RetRight w a.length (2^r) (valL a-at_ a 0 % 2^r)):=by
 have da:Dig a:=ha.2
 obtain⟨ao,ca,rfl,hca,hcam,hopa⟩:=ha.open_
 obtain⟨ba,oa,rfl,hba,ga⟩:=hopa h0
 have g0:=ga 0 h0
 simp only[Nat.add_zero] at g0
 have hbl:=hba.lt
 have hne:¬ a=[]:=by rintro rfl;simp at h0
 have e1:(r:Int) / 32=0:=by omega
 have e2:(r:Int) % 32=r:=by omega
 go_enter Tryz.func234,Tryz.ntmps234
 go_wp2
 all_goals
  go_loop [6,39] (fun b i=>(∃ B:Bool,b = .bool B)∧i = .int .i64 0) (fun _ _=>0)
  case atStart=>exact⟨⟨_,rfl⟩,rfl⟩
  case round =>
   obtain⟨⟨B,rfl⟩,rfl⟩:=hrel
   go_wp2_with (at_make;refine wpL_make _ rfl _ _ 48 rfl 247 .u32 4 Tryz.underlying48 infoU32 _ _ _ _ a.length rfl rfl (by omega) (by omega) (by omega) (by omega) ?_;intro w1 hown1 hx1 hlt1)
   go_loopw [57] (fun i wr => ∃ (k:Nat) (o:List Int),i = .int .i64 k∧k≤a.length∧Own wr w.heap.size 247 .u32 o∧o.length=a.length∧Dig o ∧
     2^r*valL (o.take k)=valL (a.take k)-at_ a 0 % 2^r+(at_ a k % 2^r)*4294967296^k∧Ext w wr) (fun i _=>a.length-(intOf i).toNat)
   case atStart=>exact⟨0,_,rfl,Nat.zero_le _,hown1,by simp,dig_zeros _,by rw[List.take_zero,List.take_zero,Int.pow_zero,Int.mul_one];generalize at_ a 0 % 2^r=c;simp only[valL,Int.mul_zero];omega,hx1⟩
   case round =>
    obtain⟨k,o,rfl,hk,hown,hol,hdo,hval,hx⟩:=hrel
    clear hown1
    replace hval:=hd_ hval
    replace hol:=hd_ hol
    by_cases hlt:k<a.length
    ·have gc:=(hx.cell (p:=⟨ba,oa+k,none⟩) hbl).trans (ga k hlt)
     have fa:=da.at_ k
     have go:=hown.cell (i:=k) (by have:=hol.out;omega)
     have gf:=hown.frozen k
     by_cases hlt2:k+1<a.length
     ·have gc2:=(hx.cell (p:=⟨ba,oa+(k+1),none⟩) hbl).trans (ga (k+1) hlt2)
      have fa2:=da.at_ (k+1)
      obtain⟨c1,c2,c3⟩:=right_cells hr hr0 fa fa2
      go_wp2
      have hos:=hown.set k (at_ a k / 2^r)
      have gos:=hos.cell (i:=k) (by rw[List.length_set];have:=hol.out;omega)
      rw[at_set_eq (by have:=hol.out;omega)] at gos
      have gfs:=hos.frozen k
      have gcs:(wr.setCell ⟨w.heap.size,k,none⟩ (.int .u32 (at_ a k / 2^r))).cell? ⟨ba,oa+(k+1),none⟩=some (.int .u32 (at_ a (k+1))):=by
       rw[World.cell?_setCell_other _ _ _ _ (by simp)];exact gc2
      go_region
      go_wp2
      go_roundw
      case rel =>
       refine⟨k+1,(o.set k _).set k _,rfl,by omega,(hos.set k _).dr,by rw[List.length_set,List.length_set];exact hol.out,(hdo.set k (right_dig hr fa)).set k ⟨c2,c3⟩,?_,((hx.st (Nat.le_refl _) _).st (Nat.le_refl _) _).dr⟩
       rw[List.set_set,valL_set (by have:=hol.out;omega),valL_take_succ,Int.pow_succ]
       exact right_step hval.out (pow2_le hr).2.2.symm
      case measure=>first | (simp[intOf];done) | (simp[intOf];omega)
     ·go_wp2
      go_roundw
      case rel =>
       have hz:at_ a (k+1)=0:=at_ge (by omega)
       refine⟨k+1,o.set k _,rfl,by omega,hown.set k _,by rw[List.length_set];exact hol.out,hdo.set k (right_dig hr fa),?_,hx.st (Nat.le_refl _) _⟩
       rw[valL_set (by have:=hol.out;omega),valL_take_succ,hz,Int.zero_emod,Int.zero_mul,Int.add_zero]
       exact right_step0 hval.out
      case measure=>first | (simp[intOf];done) | (simp[intOf];omega)
    ·obtain rfl:k=a.length:=by omega
     go_wp2
     go_ret2
     have h1:=hval.out
     rw[at_ge (l:=a) (i:=a.length) (by omega),List.take_of_length_le (by have:=hol.out;omega),List.take_of_length_le (Nat.le_refl _)] at h1
     refine⟨⟨some ⟨w.heap.size,0,none⟩,a.length,a.length⟩,o,_,rfl,?_,hol.out,by simpa using h1,hx⟩
     have:=hown.isL (by have:=hol.out;omega) hdo
     rw[hol.out] at this
     exact this
set_option maxRecDepth 100000 in
set_option maxHeartbeats 1000000 in
theorem right_zero (s:SV) (a:List Int) (w:World) (ha:IsL w s .u32 a) (hla:a.length≤1099511627776) (h0:0<a.length) :
  Calls Tryz.prog 234 #[.slice s.a s.len s.cap,.int .i64 0] w (RetRight w a.length 1 (valL a)):=by
 have da:Dig a:=ha.2
 obtain⟨ao,ca,rfl,hca,hcam,hopa⟩:=ha.open_
 obtain⟨ba,oa,rfl,hba,ga⟩:=hopa h0
 have g0:=ga 0 h0
 simp only[Nat.add_zero] at g0
 have hbl:=hba.lt
 have hne:¬ a=[]:=by rintro rfl;simp at h0
 go_enter Tryz.func234,Tryz.ntmps234
 go_wp2
 all_goals
  go_loop [6,39] (fun b i=>(∃ B:Bool,b = .bool B)∧i = .int .i64 0) (fun _ _=>0)
  case atStart=>exact⟨⟨_,rfl⟩,rfl⟩
  case round =>
   obtain⟨⟨B,rfl⟩,rfl⟩:=hrel
   go_wp2_with (at_make;refine wpL_make _ rfl _ _ 48 rfl 247 .u32 4 Tryz.underlying48 infoU32 _ _ _ _ a.length rfl rfl (by omega) (by omega) (by omega) (by omega) ?_;intro w1 hown1 hx1 hlt1)
   go_loopw [57] (fun i wr => ∃ (k:Nat) (o:List Int),i = .int .i64 k∧k≤a.length∧Own wr w.heap.size 247 .u32 o∧o.length=a.length∧Dig o ∧
     valL (o.take k)=valL (a.take k)∧Ext w wr) (fun i _=>a.length-(intOf i).toNat)
   case atStart=>exact⟨0,_,rfl,Nat.zero_le _,hown1,by simp,dig_zeros _,by simp,hx1⟩
   case round =>
    obtain⟨k,o,rfl,hk,hown,hol,hdo,hval,hx⟩:=hrel
    clear hown1
    replace hval:=hd_ hval
    replace hol:=hd_ hol
    by_cases hlt:k<a.length
    ·have gc:=(hx.cell (p:=⟨ba,oa+k,none⟩) hbl).trans (ga k hlt)
     have fa:=da.at_ k
     have go:=hown.cell (i:=k) (by have:=hol.out;omega)
     have gf:=hown.frozen k
     by_cases hlt2:k+1<a.length
     all_goals
      go_wp2
      go_roundw
      case rel =>
       refine⟨k+1,o.set k _,rfl,by omega,hown.set k _,by rw[List.length_set];exact hol.out,hdo.set k fa,?_,hx.st (Nat.le_refl _) _⟩
       rw[valL_set (by have:=hol.out;omega),valL_take_succ,hval.out]
      case measure=>first | (simp[intOf];done) | (simp[intOf];omega)
    ·obtain rfl:k=a.length:=by omega
     go_wp2
     go_ret2
     have h1:=hval.out
     rw[List.take_of_length_le (by have:=hol.out;omega),List.take_of_length_le (Nat.le_refl _)] at h1
     refine⟨⟨some ⟨w.heap.size,0,none⟩,a.length,a.length⟩,o,_,rfl,?_,hol.out,by rw[Int.one_mul];exact h1,hx⟩
     have:=hown.isL (by have:=hol.out;omega) hdo
     rw[hol.out] at this
     exact this
theorem right_any (s:SV) (a:List Int) (r:Nat) (w:World) (ha:IsL w s .u32 a) (hla:a.length≤1099511627776) (h0:0<a.length) (hr:r<32) :
  Calls Tryz.prog 234 #[.slice s.a s.len s.cap,.int .i64 r] w (RetRight w a.length (2^r) (valL a-at_ a 0 % 2^r)):=by
 rcases Nat.eq_zero_or_pos r with h | h
 ·subst h
  have:=right_zero s a w ha hla h0
  rw[Int.pow_zero,Int.emod_one,Int.sub_zero]
  exact this
 ·exact right_pos s a r w ha hla h0 hr h
end Go.Proofs.YtkidkimjdiichaaGreat
end
section
namespace Go.Proofs.YtkidkimjdiichaaGreat.M
open Go.RowKit
section
variable {P:Program} {w0:World} {base:Nat→Prop} {nt:Nat} {loc:Locs} {s t:St} {a:Act} {w:World} {o:Oper} {id:Nat} {d:AV}
theorem sim_sliceS {T:TypeId} {x:Operand} {lo hi:Option Operand} (h:Rel w0 base nt loc s a w) (ho:o.op = .slice T x lo hi none) (hu:P.underlying T=some .string) {U:Option TypeId}
  (he:ev (.sliceS (opd P U x) (lo.map (opd P none)) (hi.map (opd P none))) id s=some (true,d,t)):Good P w0 base nt o a w t d:=by
 have hx:=h.opd (P:=P) U x
 simp only[ev] at he
 split at he
 case h_2=>cases he
 rename_i q hk
 split at he
 case h_2=>cases he
 rename_i c l n hb
 simp only[Option.some.injEq,Prod.mk.injEq] at he
 obtain⟨hc,rfl,rfl⟩:=he
 rw[hk] at hx
 have hx:=hx.inv
 generalize hxv:a.eval x=v at hx
 cases hx with
 | str q =>
 have hsz:q.data.toList.length=q.size:=by simp
 rw[hsz] at hb
 obtain⟨m,hr,h1,h2,h3,h4⟩:=run_bounds (P:=P) (mx:=none) false h (Nat.le_refl _) (by simp) hc hb
 simp only[Option.map_none] at hr
 have e:((q.data.toList.drop l).take (n-l))=(q.extract l n).data.toList:=by
  simp[ByteArray.data_extract]
 rw[e]
 refine good_same h (v:=.string (q.extract l n)) ?_ (.p _ _ (.str _))
 simp[execOp,ho,hxv,Instr.sliceAt,run_underlying hu,Instr.slice,hr]
theorem sim_slice {T E:TypeId} {ag:Bool} {sz:Nat} {x:Operand} {lo hi mx:Option Operand} (h:Rel w0 base nt loc s a w) (ho:o.op = .slice T x lo hi mx) (hu:P.underlying T=some (.slice E)) (hT:TyOk P E ag sz) (hm:mx.isSome=true→hi.isSome=true) {U:Option TypeId}
  (he:ev (.slice sz (opd P U x) (lo.map (opd P none)) (hi.map (opd P none)) (mx.map (opd P none))) id s=some (true,d,t)):Good P w0 base nt o a w t d:=by
 have hx:=h.opd (P:=P) U x
 have run:∀ p len cap l n m,a.eval x = .slice p len cap→(Instr.sliceBounds true len cap (lo.map a.eval) (hi.map a.eval) (mx.map a.eval)).run P w = .ok (l,n,m) w →
   (execOp a.eval o).run P w = .ok (.value (.slice (if m=l then p else p.map (·.add (l*sz))) (n-l) (m-l))) w:=by
  intro p len cap l n m hv hr
  simp[execOp,ho,hv,Instr.sliceAt,run_underlying hu,Instr.slice,hr,run_sizeOf hT]
 simp only[ev] at he
 split at he
 ·rename_i T' sz' q hk
  split at he
  case isFalse=>cases he
  rename_i hsz
  subst hsz
  split at he
  case h_2=>cases he
  rename_i c l n hb
  simp only[Option.some.injEq,Prod.mk.injEq] at he
  obtain⟨hc,rfl,rfl⟩:=he
  rw[hk] at hx
  have hx:=hx.inv
  generalize hxv:a.eval x=v at hx
  cases hx with
  | empty p cap _ _ hcap =>
   obtain⟨m,hr,h1,h2,h3,h4⟩:=run_bounds (P:=P) true h (Nat.zero_le cap) hm hc hb
   refine good_same h (run _ _ _ _ _ _ hxv hr) (.p _ _ ?_)
   have:n-l=0:=by omega
   simp only[List.drop_nil,List.take_nil,this]
   exact .empty _ _ _ _ (by omega)
  | list b p cap _ _ _ c' fr g1 g2 g3 g4 g5 g6 g7 =>
   obtain⟨m,hr,h1,h2,h3,h4⟩:=run_bounds (P:=P) true h g3 hm hc hb
   refine good_same h (run _ _ _ _ _ _ hxv hr) (.p _ _ ?_)
   have hlen:((q.drop l).take (n-l)).length=n-l:=by simp;omega
   by_cases hml:m=l
   ·have h0:n-l=0:=by omega
    simp only[h0,List.take_zero]
    exact .empty _ _ _ _ (by omega)
   ·rw[if_neg hml]
    simp only[Option.map_some,add_mid]
    have idx:∀ i e,((q.drop l).take (n-l))[i]? = some e→q[l+i]? = some e:=by
     intro i e hi
     have hlt:i<n-l:=by have:=(List.getElem?_eq_some_iff.1 hi).1;omega
     rw[List.getElem?_take_of_lt hlt,List.getElem?_drop] at hi
     exact hi
    have:=V.list (w:=w) (N:=NB base s.m loc w) b (p+l*sz) (m-l) T' sz ((q.drop l).take (n-l)) c' fr g1 g2 (by omega) (by omega) (fun e he=>g5 e (List.mem_of_mem_drop (List.mem_of_mem_take he)))
     (fun i e j d hi hj=>by have:=g6 (l+i) e j d (idx i e hi) hj;rw[Nat.add_mul] at this;omega)
     (fun i e j d hi hj=>by have:=g7 (l+i) e j d (idx i e hi) hj;rw[show p+((l+i)*sz+j)=p+l*sz+(i*sz+j) by rw[Nat.add_mul];omega] at this;exact this)
    rw[hlen] at this
    exact this
 ·rename_i i off len hk
  split at he
  case h_2=>cases he
  rename_i ob hob
  split at he
  case isFalse=>cases he
  rename_i hsz
  subst hsz
  split at he
  case h_2=>cases he
  rename_i c l n hb
  simp only[Option.some.injEq,Prod.mk.injEq] at he
  obtain⟨hc,rfl,rfl⟩:=he
  rw[hk] at hx
  generalize hxv:a.eval x=v at hx
  cases hx with
  | sliceEmp L _ _ p hL =>
   obtain⟨m,hr,h1,h2,h3,h4⟩:=run_bounds (P:=P) true h (Nat.le_refl 0) hm hc hb
   refine good_same h (run _ _ _ _ _ _ hxv hr) ?_
   rw[show n-l=0 by omega,show m-l=0 by omega]
   exact .sliceEmp L _ _ _ hL
  | slice L _ _ _ cap hL hn h3 h4 h5 =>
   obtain⟨m,hr,h1,h2,h3',h4'⟩:=run_bounds (P:=P) true h h3 hm hc hb
   obtain⟨L',hL',hok⟩:=h.objs i ob hob
   rw[hL] at hL'
   cases hL'
   refine good_same h (run _ _ _ _ _ _ hxv hr) ?_
   by_cases hml:m=l
   ·rw[show n-l=0 by omega,show m-l=0 by omega]
    exact .sliceEmp L _ _ _ hL
   ·rw[if_neg hml]
    simp only[Option.map_some,add_mid]
    have hs:=hok.sz
    rw[show L.o+off*L.sz+l*ob.sz=L.o+(off+l)*L.sz by rw[hs,Nat.add_mul];omega]
    have hmul:l*L.sz+(m-l)*L.sz≤cap*L.sz:=by
     rw[←Nat.add_mul];exact Nat.mul_le_mul_right _ (by omega)
    exact .slice L _ _ _ _ hL hn (by omega) (by omega) (by rw[Nat.add_mul];omega)
 ·rename_i T' sz' hk
  split at he
  case h_2=>cases he
  rename_i c l n hb
  simp only[Option.some.injEq,Prod.mk.injEq] at he
  obtain⟨hc,rfl,rfl⟩:=he
  rw[hk] at hx
  generalize hxv:a.eval x=v at hx
  cases hx
  obtain⟨m,hr,h1,h2,h3,h4⟩:=run_bounds (P:=P) true h (Nat.le_refl 0) hm hc hb
  refine good_same h (run _ _ _ _ _ _ hxv hr) ?_
  obtain rfl:l=0:=by omega
  obtain rfl:n=0:=by omega
  obtain rfl:m=0:=by omega
  exact .nils _ _
 ·cases he
theorem zero_run {T:TypeId} {l:List D} {ag:Bool} {sz:Nat} (hz:ZOk P T l ag sz):∃ z:Value,(zeroValue T).run P w = .ok z w∧z.cells.size=sz∧l.length=sz∧(∀ i d,l[i]? = some d→d.one=true∧∀ (w:World) (N:Nat→Prop),V w N (z.cells.getD i undef) d)∧(z.cells.size=1→z.cells.getD 0 undef=z.cells.getD 0 undef):=by
 obtain⟨i,z,h1,h2,h3,h4,h5,h6⟩:=hz
 obtain⟨g1,g2⟩:=chkL_ok h4
 refine⟨z,by simp[zeroValue,typeInfo,h1,h2],by simpa[h5] using g1,h5,fun j d hj => ?_,fun _=>rfl⟩
 obtain⟨k1,k2⟩:=g2 j d hj
 refine⟨k1,fun w N => ?_⟩
 have:=k2 w N
 simpa using this
theorem chk_nil {v:Value} {T:TypeId} {sz:Nat} (h:chkD v (.list T sz [])=true):v = .slice none 0 0:=by
 unfold chkD at h
 split at h<;>simp_all
theorem zeroA_cells {T:TypeId} {l:List D} {ag:Bool} {sz:Nat} (hz:ZOk P T l ag sz) (h1:∀ e∈(zeroA l ag).cells,e.one=true) {z:Value} (hr:(zeroValue T).run P w = .ok z w) (N:Nat→Prop) :
  ∀ i e,(zeroA l ag).cells[i]? = some e→RV w N loc (z.cells.getD i undef) e:=by
 obtain⟨i,z',g1,g2,g3,g4,g5,g6⟩:=hz
 have hzz:z'=z:=by
  have:(zeroValue T).run P w = .ok z' w:=by simp[zeroValue,typeInfo,g1,g2]
  rw[this] at hr
  injection hr
 subst hzz
 obtain⟨k1,k2⟩:=chkL_ok g4
 have hV:∀ j d,l[j]? = some d→V w N (z'.cells.getD j undef) d:=fun j d hj=>by
  have:=(k2 j d hj).2 w N
  simpa using this
 intro j e hj
 unfold zeroA at hj h1
 split at hj
 ·simp only[AV.cells,D.cells,List.getElem?_map,Option.map_eq_some_iff] at hj
  obtain⟨d,hd,rfl⟩:=hj
  exact .p _ _ (hV j d hd)
 ·rename_i hag
  rw[if_neg hag] at h1
  split at hj
  ·rename_i T' sz'
   match j,hj with
   | 0,hj =>
    simp[AV.cells] at hj
    subst hj
    have:z'.cells.toList.length=1:=k1
    generalize hzl:z'.cells.toList=zl at g4 this
    match zl,this with
    | [v],_ =>
     have hv:z'.cells.getD 0 undef=v:=by
      have:z'.cells = #[v]:=by rw[←Array.toList_inj];exact hzl
      simp[this]
     rw[hv]
     simp only[chkL,Bool.and_true] at g4
     rw[chk_nil g4]
     exact .nils _ _
   | j+1,hj=>simp[AV.cells] at hj
  ·rename_i d hne
   simp only[AV.cells,List.getElem?_map,Option.map_eq_some_iff] at hj h1
   obtain⟨q,hq,rfl⟩:=hj
   have ho:=h1 (.p q) (List.mem_map.2 ⟨q,List.mem_of_getElem? hq,rfl⟩)
   have hd1:d.one=true:=(k2 0 d rfl).1
   have hc:d.cells=[d]:=by cases d<;>first | rfl | simp[D.one] at hd1
   rw[hc] at hq
   match j,hq with
   | 0,hq=>simp at hq;subst hq;exact .p _ _ (hV 0 d rfl)
   | j+1,hq=>simp at hq
  ·match j,hj with
   | 0,hj=>simp[AV.cells] at hj;subst hj;exact .und _
   | j+1,hj=>simp[AV.cells] at hj
theorem sim_alloc {T:TypeId} {l:List D} {ag:Bool} {sz:Nat} (h:Rel w0 base nt loc s a w) (ho:o.op = .alloc T) (hz:ZOk P T l ag sz)
  (he:ev (.alloc T sz (zeroA l ag)) id s=some (true,d,t)) (hc:(zeroA l ag).cells.length=sz) (h1:∀ e∈(zeroA l ag).cells,e.one=true):Good P w0 base nt o a w t d:=by
 simp only[ev] at he
 split at he
 case h_2=>cases he
 rename_i hid
 simp only[Option.some.injEq,Prod.mk.injEq,true_and] at he
 obtain⟨rfl,rfl⟩:=he
 obtain⟨z,hr,hsz,-⟩:=zero_run (w:=w) hz
 have hcells:=zeroA_cells (loc:=loc) hz h1 hr (NB base s.m loc w)
 obtain⟨loc',hl,hrel⟩:=h.alloc (T:=T) (c:=z.cells) (k:=.box (zeroA l ag)) (sz:=sz) hid ⟨by omega,hc,h1,fun j e hj=>by rw[Nat.zero_add];exact hcells j e hj⟩
 refine⟨.pointer (some ⟨w.heap.size,0,none⟩),w.alloc (.cells z.cells T),loc',.inl ?_,hrel,?_⟩
 ·simp[execOp,ho,Instr.alloc,hr,newVar,newRow]
 ·have:=RV.ptr (w:=w.alloc (.cells z.cells T)) (N:=NB base (upd s.m id (some ⟨T,sz,.box (zeroA l ag),false⟩)) loc' (w.alloc (.cells z.cells T))) _ id 0 0 hl rfl
  simpa using this
theorem sim_box {T:TypeId} {sz:Nat} {x:Operand} (h:Rel w0 base nt loc s a w) (ho:o.op = .box T x) {U:Option TypeId}
  (he:ev (.box T sz (opd P U x)) id s=some (true,d,t)):Good P w0 base nt o a w t d:=by
 have hx:=h.opd (P:=P) U x
 simp only[ev] at he
 split at he
 case h_2=>cases he
 rename_i hid
 split at he
 case isFalse=>cases he
 rename_i hcond
 obtain⟨hc,h1⟩:=hcond
 rw[List.all_eq_true] at h1
 simp only[Option.some.injEq,Prod.mk.injEq,true_and] at he
 obtain⟨rfl,rfl⟩:=he
 obtain⟨g1,g2⟩:=hx.cells h1
 obtain⟨loc',hl,hrel⟩:=h.alloc (T:=T) (c:=(a.eval x).cells) (k:=.box ((opd P U x).ev s.r)) (sz:=sz) hid ⟨by omega,hc,h1,fun j e hj=>by rw[Nat.zero_add];exact g2 j e hj⟩
 refine⟨.pointer (some ⟨w.heap.size,0,none⟩),w.alloc (.cells (a.eval x).cells T),loc',.inl ?_,hrel,?_⟩
 ·simp[execOp,ho,Instr.box,newVar,newRow]
 ·have:=RV.ptr (w:=w.alloc (.cells (a.eval x).cells T)) (N:=NB base (upd s.m id (some ⟨T,sz,.box ((opd P U x).ev s.r),false⟩)) loc' (w.alloc (.cells (a.eval x).cells T))) _ id 0 0 hl rfl
  simpa using this
theorem sim_makeSlice {T E:TypeId} {l:List D} {ag:Bool} {sz bytes:Nat} {x y:Operand} (h:Rel w0 base nt loc s a w) (ho:o.op = .makeSlice T x y) (hu:P.underlying T=some (.slice E)) (hz:ZOk P E l ag sz) {i:TypeInfo} (hi:P.info? E=some i) (hb:i.bytes=bytes) {U W:Option TypeId}
  (he:ev (.makeSlice E sz bytes (if ag then .agg l else l.headD default) (opd P U x) (opd P W y)) id s=some (true,d,t)):Good P w0 base nt o a w t d:=by
 simp only[ev] at he
 split at he
 case h_2=>cases he
 rename_i hid
 split at he
 case h_2=>cases he
 rename_i n m hn hm
 simp only[Option.some.injEq,Prod.mk.injEq,decide_eq_true_eq] at he
 obtain⟨⟨h0,rfl,h2,h3⟩,rfl,rfl⟩:=he
 obtain⟨k1,hx⟩:=asI_eval h hn
 obtain⟨k2,hy⟩:=asI_eval h hm
 obtain⟨q,rfl⟩:=Int.eq_ofNat_of_zero_le h0
 obtain⟨z,hr,hsz,hl,hcell,-⟩:=zero_run (w:=w) hz
 have hcl:(if ag then D.agg l else l.headD default).cells=l:=by
  cases ag with
  | true=>rfl
  | false =>
   have:sz=1:=by obtain⟨_,_,_,_,_,_,_,h6⟩:=hz;exact h6 rfl
   match l,hl with
   | [e],_ =>
    have:=(hcell 0 e rfl).1
    cases e<;>first | rfl | simp[D.one] at this
   | [],hl=>simp at hl;omega
   | _::_::_,hl=>simp at hl;omega
 have hTy:TyOk P E ag sz:=by obtain⟨_,_,_,_,h3,_⟩:=hz;exact h3
 obtain⟨loc',hl',hrel⟩:=h.alloc (T:=E) (c:=(madeCells z.cells (q*sz))) (k:=.row (List.replicate q (if ag then D.agg l else l.headD default))) (sz:=sz) hid (by
  refine⟨by simp[madeCells],fun e he => ?_,fun i e j d hi hj => ?_⟩
  ·rw[List.eq_of_mem_replicate he,hcl,hl]
  ·have hiq:i<q:=by have:=(List.getElem?_eq_some_iff.1 hi).1;simpa using this
   have he:=List.eq_of_mem_replicate (List.mem_of_getElem? hi)
   rw[he,hcl] at hj
   have hjl:j<sz:=by have:=(List.getElem?_eq_some_iff.1 hj).1;omega
   obtain⟨g1,g2⟩:=hcell j d hj
   refine⟨g1,?_⟩
   have hlt:i*sz+j<q*sz:=by
    have:=Nat.mul_le_mul_right sz (show i+1≤q by omega)
    rw[Nat.add_mul] at this;omega
   have hmod:(i*sz+j) % sz=j:=by rw[Nat.add_comm,Nat.add_mul_mod_self_right];exact Nat.mod_eq_of_lt hjl
   have:=g2 w (NB base s.m loc w)
   simp only[Nat.zero_add,Array.getD_eq_getD_getElem?] at this ⊢
   simp[madeCells,hlt,hsz,hmod]
   simpa[hsz,hjl] using this)
 refine⟨.slice (some ⟨w.heap.size,0,none⟩) q q,w.alloc (.cells (madeCells z.cells (q*sz)) E),loc',.inl ?_,hrel,?_⟩
 ·obtain⟨i',z',g1,g2,g3,_⟩:=hz
  rw[hi] at g1
  cases g1
  have hzz:z'=z:=by
   have:(zeroValue E).run P w = .ok z' w:=by simp[zeroValue,typeInfo,hi,g2]
   rw[this] at hr
   injection hr
  subst hzz
  have his:i.size=sz:=by obtain⟨_,i2,_,_,h3,h4⟩:=hTy;rw[hi] at h3;cases h3;exact h4
  have:=run_make (P:=P) w T E i z' hu hi g2 k1 k2 (q:Int) (q:Int) (by omega) (by omega) (by rw[hb];omega) (by omega)
  rw[Int.toNat_natCast,his] at this
  simp[execOp,ho,hx,hy,this]
 ·have:=RV.slice (w:=w.alloc (.cells (madeCells z.cells (q*sz)) E)) (N:=NB base (upd s.m id (some ⟨E,sz,.row (List.replicate q (if ag then D.agg l else l.headD default)),false⟩)) loc' (w.alloc (.cells (madeCells z.cells (q*sz)) E))) _ id 0 q q hl' rfl (Nat.le_refl _) (by omega) (by simp[madeCells])
  simpa using this
end
end Go.Proofs.YtkidkimjdiichaaGreat.M
end
section
namespace Go.Proofs.YtkidkimjdiichaaGreat
open Go.RowKit
structure Only (b:Nat) (w w':World):Prop where
 os:w'.os=w.os
 tape:w'.tape=w.tape
 output:w'.output=w.output
 size:w.heap.size≤w'.heap.size
 block:∀ k,k≠b→k<w.heap.size→w'.heap[k]? = w.heap[k]?
theorem Only.rf (b:Nat) (w:World):Only b w w:=⟨rfl,rfl,rfl,Nat.le_refl _,fun _ _ _=>rfl⟩
theorem Only.st {b:Nat} {w w':World} (h:Only b w w') (i:Nat) (u:Value):Only b w (w'.setCell ⟨b,i,none⟩ u):=by
 refine⟨h.os,h.tape,h.output,?_,fun k hk hl=>(Below.heap_setCell w' _ u k hk).trans (h.block k hk hl)⟩
 have:=h.size
 simpa[World.setCell] using this
theorem Only.ext {b:Nat} {a w w':World} (h:Only b w w') (e:Ext a w) (hb:a.heap.size≤b):Ext a w':=
 ⟨h.os.trans e.os,h.tape.trans e.tape,h.output.trans e.output,Nat.le_trans e.size h.size,fun k hk=>(h.block k (by omega) (Nat.lt_of_lt_of_le hk e.size)).trans (e.block k hk)⟩
theorem Own.only {b c:Nat} {w w':World} {T:TypeId} {k:IntKind} {l:List Int} (h:Own w b T k l) (e:Only c w w') (hne:b≠c):Own w' b T k l:=(e.block b hne h.lt).trans h
theorem and32 {x:Int} (h:0≤x∧x≤18446744073709551615):bits BinOp.and IntKind.u64 x 4294967295=x % 4294967296:=by
 rw[u64_and _ _ (by omega) (by omega) (by omega) (by omega)]
 obtain⟨n,rfl⟩:=Int.eq_ofNat_of_zero_le h.1
 have e:((n:Int).toNat &&& (4294967295:Int).toNat)=n % 4294967296:=Nat.and_two_pow_sub_one_eq_mod n 32
 rw[e]
 omega
theorem take_cell {u c b:Int} (hu:0≤u∧u≤4294967295) (hc:0≤c∧c≤18446744073709551615) (hb:0≤b∧b≤1) :
  IntKind.u64.wrap (IntKind.u64.wrap (u-bits BinOp.and IntKind.u64 c 4294967295)-b) % 4294967296=(u-c % 4294967296-b) % 4294967296 ∧
  IntKind.u64.wrap (IntKind.u64.wrap (u-bits BinOp.and IntKind.u64 c 4294967295)-b) / 9223372036854775808=bor u (c % 4294967296) b:=by
 rw[and32 hc]
 have h:0≤c % 4294967296∧c % 4294967296≤4294967295:=by omega
 generalize c % 4294967296=d at *
 rw[IntKind.wrap_u64,IntKind.wrap_u64]
 unfold bor
 split<;>omega
theorem bor_mod {u d b:Int} (hu:0≤u∧u≤4294967295) (hd:0≤d∧d≤4294967295) (hb:0≤b∧b≤1):(u-d-b) % 4294967296=u-d-b+4294967296*bor u d b:=by
 unfold bor;split<;>omega
theorem take_step {V L0 u cc bb bo v g bj bk W d:Int} (h:V=L0+bj*(bk*(cc+bb)-g*W)) (hd:d=u-(cc+v*g) % 4294967296-bb+4294967296*bo) :
  V+(d-u)*(bj*bk)=L0+bj*(bk*4294967296*((cc+v*g) / 4294967296+bo)-g*(W+v*bk)):=by
 have h1:=Int.mul_ediv_add_emod (cc+v*g) 4294967296
 generalize (cc+v*g) / 4294967296=q at *
 generalize (cc+v*g) % 4294967296=s at *
 subst h;subst hd
 have e:s=cc+v*g-4294967296*q:=by omega
 subst e
 grind
theorem take_end {V L0 u cc bb bo g bj bk W d:Int} (h:V=L0+bj*(bk*(cc+bb)-g*W)) (hd:d=u-cc-bb+4294967296*bo) :
  V+(d-u)*(bj*bk)=L0-bj*(g*W)+bj*(bk*4294967296)*bo:=by
 subst h;subst hd
 grind
theorem end_cell {u c b:Int} (hu:0≤u∧u≤4294967295) (hc:0≤c∧c≤4294967295) (hb:0≤b∧b≤1) :
  IntKind.u64.wrap (IntKind.u64.wrap (u-c)-b) % 4294967296=(u-c-b) % 4294967296 ∧
  IntKind.u64.wrap (IntKind.u64.wrap (u-c)-b) / 9223372036854775808=bor u c b:=by
 rw[IntKind.wrap_u64,IntKind.wrap_u64]
 unfold bor
 split<;>omega
theorem bor_cases (u d b:Int):bor u d b=0∨bor u d b=1:=by unfold bor;split<;>simp
def RetTake (w:World) (b j n:Nat) (L:List Int) (z top:Int) (e:Ending) (w':World):Prop:=
 ∃ (L':List Int) (c:Int),e = .returned (.bool (decide (0<c)))∧(c=0∨c=1)∧Own w' b 247 .u32 L'∧L'.length=L.length∧Dig L'∧(∀ i,j+n<i→at_ L' i=at_ L i)∧valL L'=z+top*c∧Only b w w'
set_option maxRecDepth 100000 in
set_option maxHeartbeats 1000000 in
theorem takeAway_any (b j n bv cu cv:Nat) (L lv:List Int) (g:Int) (w:World) (hu:Own w b 247 .u32 L) (hdu:Dig L) (hj:j+n<L.length) (_hL:L.length≤1099511627776) (hcu:n+1≤cu)
  (hcm:cu≤9223372036854775807) (hv:Own w bv 247 .u32 lv) (hdv:Dig lv) (hn:n≤lv.length) (hne:bv≠b) (hg:0≤g∧g≤4294967295) :
  Calls Tryz.prog 232 #[.slice (some ⟨b,j,none⟩) (n+1) cu,.slice (some ⟨bv,0,none⟩) n cv,.int .u32 g] w
   (RetTake w b j n L (valL L-4294967296^j*(g*valL (lv.take n))) (4294967296^j*4294967296^(n+1))):=by
 go_enter Tryz.func232,Tryz.ntmps232
 go_wp2
 go_loopw [7,8,15] (fun bo ca i wr => ∃ (k:Nat) (bb cc:Int) (o:List Int),bo = .int .u64 bb∧ca = .int .u64 cc∧i = .int .i64 k∧k≤n∧(0≤bb∧bb≤1)∧(0≤cc∧cc≤4294967295)∧Own wr b 247 .u32 o∧o.length=L.length∧Dig o ∧
   valL o=valL L+4294967296^j*(4294967296^k*(cc+bb)-g*valL (lv.take k))∧(∀ i,j+k≤i→at_ o i=at_ L i)∧Only b w wr) (fun _ _ i _=>n-(intOf i).toNat)
 case atStart=>exact⟨0,0,0,L,rfl,rfl,rfl,Nat.zero_le _,by omega,by omega,hu,rfl,hdu,by simp[valL],fun _ _=>rfl,Only.rf _ _⟩
 case round =>
  obtain⟨k,bb,cc,o,rfl,rfl,rfl,hk,hbb,hcc,hown,hol,hdo,hval,hsame,hx⟩:=hrel
  replace hval:=hd_ hval
  replace hol:=hd_ hol
  replace hsame:=hd_ hsame
  by_cases hlt:k<n
  ·have gv:=(hv.only hx hne).cell (i:=k) (by omega)
   have fv:=hdv.at_ k
   have go:=hown.cell (i:=j+k) (by have:=hol.out;omega)
   have gf:=hown.frozen (j+k)
   have fo:=hdo.at_ (j+k)
   have fm:=mul_bound fv hg
   go_wp2
   have hcc2:0≤cc+at_ lv k*g∧cc+at_ lv k*g≤18446744069414584320:=by omega
   obtain⟨c1,c2⟩:=take_cell (u:=at_ o (j+k)) (c:=cc+at_ lv k*g) (b:=bb) fo (by omega) hbb
   have c3:=bor_mod (u:=at_ o (j+k)) (d:=(cc+at_ lv k*g) % 4294967296) (b:=bb) fo (by omega) hbb
   rw[c1,c2]
   go_roundw
   case rel =>
    refine⟨k+1,_,_,o.set (j+k) _,rfl,rfl,rfl,by omega,bor_01 _ _ _,by omega,hown.set _ _,by rw[List.length_set];exact hol.out,hdo.set _ (by omega),?_,fun i hi => ?_,hx.st _ _⟩
    ·rw[valL_set_full (by have:=hol.out;omega),valL_take_succ,pow_add',Int.pow_succ]
     exact take_step hval.out c3
    ·rw[at_set_ne (by omega)]
     exact hsame.out i (by omega)
   case measure=>first | (simp[intOf];done) | (simp[intOf];omega)
  ·obtain rfl:k=n:=by omega
   have go:=hown.cell (i:=j+k) (by have:=hol.out;omega)
   have gf:=hown.frozen (j+k)
   have fo:=hdo.at_ (j+k)
   go_wp2
   obtain⟨c1,c2⟩:=end_cell (u:=at_ o (j+k)) (c:=cc) (b:=bb) fo hcc hbb
   have c3:=bor_mod (u:=at_ o (j+k)) (d:=cc) (b:=bb) fo hcc hbb
   rw[c1,c2]
   go_ret
   refine⟨o.set (j+k) _,bor (at_ o (j+k)) cc bb,rfl,bor_cases _ _ _,hown.set _ _,by rw[List.length_set];exact hol.out,hdo.set _ (by omega),fun i hi => ?_,?_,hx.st _ _⟩
   ·rw[at_set_ne (by omega)]
    exact hsame.out i (by omega)
   ·rw[valL_set_full (by have:=hol.out;omega),pow_add',Int.pow_succ]
    exact take_end hval.out c3
theorem give_step {V L0 u v c bj bk W d d':Int} (h:V=L0+bj*(W-bk*c)) (hd:d=(u+v+c) % 4294967296) (hd':d'=(u+v+c) / 4294967296) :
  V+(d-u)*(bj*bk)=L0+bj*(W+v*bk-bk*4294967296*d'):=by
 have h1:=Int.mul_ediv_add_emod (u+v+c) 4294967296
 rw[←hd,←hd'] at h1
 have e:d=u+v+c-4294967296*d':=by omega
 subst h;subst e
 grind
theorem give_end {V L0 u c bj bk W d d':Int} (h:V=L0+bj*(W-bk*c)) (hd:d=(u+c) % 4294967296) (hd':d'=(u+c) / 4294967296) :
  V+(d-u)*(bj*bk)=L0+bj*W-bj*(bk*4294967296)*d':=by
 have h1:=Int.mul_ediv_add_emod (u+c) 4294967296
 rw[←hd,←hd'] at h1
 have e:d=u+c-4294967296*d':=by omega
 subst h;subst e
 grind
def RetGive (w:World) (b j n:Nat) (L:List Int) (z top:Int) (e:Ending) (w':World):Prop:=
 ∃ (L':List Int) (c:Int),e = .returned (.tuple #[])∧(c=0∨c=1)∧Own w' b 247 .u32 L'∧L'.length=L.length∧Dig L'∧(∀ i,j+n<i→at_ L' i=at_ L i)∧valL L'=z-top*c∧Only b w w'
set_option maxRecDepth 100000 in
set_option maxHeartbeats 1000000 in
theorem giveBack_any (b j n bv cu cv:Nat) (L lv:List Int) (w:World) (hu:Own w b 247 .u32 L) (hdu:Dig L) (hj:j+n<L.length) (_hL:L.length≤1099511627776) (hcu:n+1≤cu)
  (hcm:cu≤9223372036854775807) (hv:Own w bv 247 .u32 lv) (hdv:Dig lv) (hn:n≤lv.length) (hne:bv≠b) :
  Calls Tryz.prog 233 #[.slice (some ⟨b,j,none⟩) (n+1) cu,.slice (some ⟨bv,0,none⟩) n cv] w
   (RetGive w b j n L (valL L+4294967296^j*valL (lv.take n)) (4294967296^j*4294967296^(n+1))):=by
 go_enter Tryz.func233,Tryz.ntmps233
 go_wp2
 go_loopw [4,9] (fun ca i wr => ∃ (k:Nat) (cc:Int) (o:List Int),ca = .int .u32 cc∧i = .int .i64 k∧k≤n∧(0≤cc∧cc≤1)∧Own wr b 247 .u32 o∧o.length=L.length∧Dig o ∧
   valL o=valL L+4294967296^j*(valL (lv.take k)-4294967296^k*cc)∧(∀ i,j+k≤i→at_ o i=at_ L i)∧Only b w wr) (fun _ i _=>n-(intOf i).toNat)
 case atStart=>exact⟨0,0,L,rfl,rfl,Nat.zero_le _,by omega,hu,rfl,hdu,by simp[valL],fun _ _=>rfl,Only.rf _ _⟩
 case round =>
  obtain⟨k,cc,o,rfl,rfl,hk,hcc,hown,hol,hdo,hval,hsame,hx⟩:=hrel
  replace hval:=hd_ hval
  replace hol:=hd_ hol
  replace hsame:=hd_ hsame
  by_cases hlt:k<n
  ·have gv:=(hv.only hx hne).cell (i:=k) (by omega)
   have fv:=hdv.at_ k
   have go:=hown.cell (i:=j+k) (by have:=hol.out;omega)
   have gf:=hown.frozen (j+k)
   have fo:=hdo.at_ (j+k)
   go_wp2_with (go_at_call 245;refine (add32 _ _ _ _ fo fv hcc).mono ?_;rintro e w' ⟨rfl,rfl⟩)
   go_roundw
   case rel =>
    refine⟨k+1,_,o.set (j+k) _,rfl,rfl,by omega,by omega,hown.set _ _,by rw[List.length_set];exact hol.out,hdo.set _ (by omega),?_,fun i hi => ?_,hx.st _ _⟩
    ·rw[valL_set_full (by have:=hol.out;omega),valL_take_succ,pow_add',Int.pow_succ]
     exact give_step hval.out rfl rfl
    ·rw[at_set_ne (by omega)]
     exact hsame.out i (by omega)
   case measure=>first | (simp[intOf];done) | (simp[intOf];omega)
  ·obtain rfl:k=n:=by omega
   have go:=hown.cell (i:=j+k) (by have:=hol.out;omega)
   have gf:=hown.frozen (j+k)
   have fo:=hdo.at_ (j+k)
   go_wp2
   go_end0
   refine⟨o.set (j+k) _,(at_ o (j+k)+cc) / 4294967296,rfl,by omega,hown.set _ _,by rw[List.length_set];exact hol.out,hdo.set _ (by omega),fun i hi => ?_,?_,hx.st _ _⟩
   ·rw[at_set_ne (by omega)]
    exact hsame.out i (by omega)
   ·rw[valL_set_full (by have:=hol.out;omega),pow_add',Int.pow_succ,Int.mul_assoc]
    have:=give_end (d:=(at_ o (j+k)+cc) % 4294967296) hval.out rfl rfl
    rw[Int.mul_assoc] at this
    exact this
end Go.Proofs.YtkidkimjdiichaaGreat
end
section
namespace Go.Proofs.YtkidkimjdiichaaGreat.M
open Go.RowKit
section
variable {P:Program} {w0:World} {base:Nat→Prop} {nt:Nat} {loc:Locs} {s t:St} {a:Act} {w:World} {o:Oper} {id:Nat} {d:AV}
theorem toDL_spec {any:Bool} {M:Mem}:∀ {n:Nat} {l:List AV} {ds:List D},toDL any M n l=some ds→l.length=ds.length∧∀ (i:Nat) (e:D),ds[i]? = some e→∃ (x:AV) (m:Nat),m<n∧l[i]? = some x∧x.toD any M m=some e
 | 0,l,ds,h=>by simp[toDL] at h
 | n+1,[],ds,h=>by
  simp only[toDL,Option.some.injEq] at h
  subst h
  exact⟨rfl,fun i d h=>by simp at h⟩
 | n+1,v::l,ds,h=>by
  simp only[toDL] at h
  split at h
  ·rename_i d ds' h1 h2
   simp only[Option.some.injEq] at h
   subst h
   obtain⟨g1,g2⟩:=toDL_spec h2
   refine⟨by simp[g1],fun i d' hi => ?_⟩
   match i,hi with
   | 0,hi=>simp at hi;subst hi;exact⟨v,n,by omega,rfl,h1⟩
   | i+1,hi =>
    obtain⟨x,m,k1,k2,k3⟩:=g2 i d' (by simpa using hi)
    exact⟨x,m,by omega,by simpa using k2,k3⟩
  ·cases h
theorem toD_one {any:Bool} {M:Mem} {n:Nat} {x:AV} {d:D} (h:x.toD any M n=some d) (h1:x.one=true):d.one=true:=by
 cases n with
 | zero=>simp[AV.toD] at h
 | succ n =>
  cases x with
  | p e=>simp[AV.toD] at h;subst h;exact h1
  | nils T sz=>simp[AV.toD] at h;subst h;rfl
  | slice i off len =>
   simp only[AV.toD] at h
   split at h
   ·split at h
    ·split at h
     ·simp only[Option.some.injEq] at h;subst h;rfl
     ·cases h
    ·cases h
   ·cases h
  | ptr i j off =>
   simp only[AV.toD] at h
   split at h
   ·split at h
    ·split at h
     ·split at h
      ·simp only[Option.map_eq_some_iff] at h;obtain⟨e,-,rfl⟩:=h;rfl
      ·cases h
     ·cases h
    ·cases h
   ·cases h
  | _=>simp[AV.one] at h1
theorem toD_cells {any:Bool} {M:Mem} {n:Nat} {x:AV} {d:D} (h:x.toD any M n=some d) (h1:∀ e∈x.cells,e.one=true) :
  d.cells.length=x.cells.length∧∀ (j:Nat) (e:D),d.cells[j]? = some e→e.one=true∧∃ (y:AV) (m:Nat),m≤n∧x.cells[j]? = some y∧y.toD any M m=some e:=by
 cases n with
 | zero=>simp[AV.toD] at h
 | succ n =>
  have single:x.one=true→x.cells=[x]→d.cells.length=x.cells.length∧∀ (j:Nat) (e:D),d.cells[j]? = some e→e.one=true∧∃ (y:AV) (m:Nat),m≤n+1∧x.cells[j]? = some y∧y.toD any M m=some e:=by
   intro ho hc
   have hd:=toD_one h ho
   have hdc:d.cells=[d]:=by cases d<;>first | rfl | simp[D.one] at hd
   rw[hc,hdc]
   refine⟨rfl,fun j e hj => ?_⟩
   match j,hj with
   | 0,hj=>simp at hj;subst hj;exact⟨hd,x,n+1,Nat.le_refl _,rfl,h⟩
   | j+1,hj=>simp at hj
  cases x with
  | p e =>
   simp[AV.toD] at h
   subst h
   refine⟨by simp[AV.cells],fun j q hq => ?_⟩
   have hm:(AV.p e).cells[j]? = some (.p q):=by simp[AV.cells,hq]
   exact⟨h1 (.p q) (List.mem_of_getElem? hm),.p q,n+1,Nat.le_refl _,hm,by simp[AV.toD]⟩
  | agg l =>
   simp only[AV.toD,Option.map_eq_some_iff] at h
   obtain⟨ds,hds,rfl⟩:=h
   obtain⟨g1,g2⟩:=toDL_spec hds
   refine⟨g1.symm,fun j e hj => ?_⟩
   obtain⟨y,m,k1,k2,k3⟩:=g2 j e hj
   exact⟨toD_one k3 (h1 y (List.mem_of_getElem? k2)),y,m,by omega,k2,k3⟩
  | nils T sz=>exact single rfl rfl
  | slice i off len=>exact single rfl rfl
  | ptr i j off=>exact single rfl rfl
  | und=>simp[AV.cells,AV.one] at h1
  | tup l=>simp[AV.cells,AV.one] at h1
theorem toD_ok {any:Bool} {N':Nat→Prop} (h:Rel w0 base nt loc s a w) (hN:∀ b,NB base s.m loc w b→N' b)
  (hO:∀ id o L,s.m id=some o→(o.frz||any)=true→loc id=some L→L.nil=false→N' L.b) :
  ∀ (n:Nat) (x:AV) (v:Value) (d:D),x.toD any s.m n=some d→RV w (NB base s.m loc w) loc v x→V w N' v d:=by
 intro n
 induction n using Nat.strongRecOn with
 | _ n ih =>
 intro x v d hd hv
 cases n with
 | zero=>simp[AV.toD] at hd
 | succ n =>
 cases hv with
 | und=>simp[AV.toD] at hd
 | p _ e hV =>
  simp[AV.toD] at hd
  subst hd
  exact hV.mono (fun _ _=>rfl) hN
 | nils T sz =>
  simp[AV.toD] at hd
  subst hd
  exact .empty _ _ _ _ (by omega)
 | agg cs l h1 h2 h3 =>
  simp only[AV.toD,Option.map_eq_some_iff] at hd
  obtain⟨ds,hds,rfl⟩:=hd
  obtain⟨g1,g2⟩:=toDL_spec hds
  refine .agg _ _ (h1.trans g1) (fun e he => ?_) (fun i e hi => ?_)
  ·obtain⟨i,hi⟩:=List.getElem?_of_mem he
   obtain⟨y,m,k1,k2,k3⟩:=g2 i e hi
   exact toD_one k3 (h2 y (List.mem_of_getElem? k2))
  ·obtain⟨y,m,k1,k2,k3⟩:=g2 i e hi
   exact ih m (by omega) y _ e k3 (h3 i y k2)
 | tup cs l h1 h3 =>
  simp only[AV.toD,Option.map_eq_some_iff] at hd
  obtain⟨ds,hds,rfl⟩:=hd
  obtain⟨g1,g2⟩:=toDL_spec hds
  refine .tup _ _ (h1.trans g1) (fun i e hi => ?_)
  obtain⟨y,m,k1,k2,k3⟩:=g2 i e hi
  exact ih m (by omega) y _ e k3 (h3 i y k2)
 | slice L i off len cap hL hn h3 h4 h5 =>
  simp only[AV.toD] at hd
  split at hd
  case h_2=>cases hd
  rename_i ob hob
  split at hd
  case h_2=>cases hd
  rename_i l hcont
  split at hd
  case isFalse=>cases hd
  rename_i hc
  simp only[Bool.and_eq_true,decide_eq_true_eq] at hc
  simp only[Option.some.injEq] at hd
  subst hd
  obtain⟨L',hL',hok⟩:=h.objs i ob hob
  rw[hL] at hL'
  cases hL'
  obtain⟨c,fr,k1,k2,k3,k4,k5⟩:=hok.at_ hn
  rw[hcont] at k3
  obtain⟨m1,m2,m3⟩:=k3
  have hsz:=hok.sz
  have hlen:((l.drop off).take len).length=len:=by simp;omega
  have idx:∀ j e,((l.drop off).take len)[j]? = some e→l[off+j]? = some e:=by
   intro j e hj
   have hlt:j<len:=by have:=(List.getElem?_eq_some_iff.1 hj).1;omega
   rw[List.getElem?_take_of_lt hlt,List.getElem?_drop] at hj
   exact hj
  have:=V.list (w:=w) (N:=N') L.b (L.o+off*L.sz) cap ob.T ob.sz ((l.drop off).take len) c fr (.of k1) (hO i ob L hob hc.1 hL hn) (by omega) h4
   (fun e he=>by
    have hm:=List.mem_of_mem_drop (List.mem_of_mem_take he)
    refine⟨m2 e hm,fun q hq => ?_⟩
    obtain⟨p,hp⟩:=List.getElem?_of_mem hm
    obtain⟨r,hr⟩:=List.getElem?_of_mem hq
    exact (m3 p e r q hp hr).1)
   (fun p e r q hp hr=>by
    have hle:=idx p e hp
    have hlt:=(List.getElem?_eq_some_iff.1 hle).1
    have hrl:r<ob.sz:=by have:=(List.getElem?_eq_some_iff.1 hr).1;have:=m2 e (List.mem_of_getElem? hle);omega
    have hmul:=Nat.mul_le_mul_right ob.sz (show off+p+1≤l.length by omega)
    rw[Nat.add_mul,Nat.add_mul] at hmul
    rw[hsz];omega)
   (fun p e r q hp hr=>by
    have:=(m3 _ e r q (idx p e hp) hr).2
    rw[show L.o+((off+p)*ob.sz+r)=L.o+off*L.sz+(p*ob.sz+r) by rw[hsz,Nat.add_mul];omega] at this
    exact this.mono (fun _ _=>rfl) hN)
  rw[hlen] at this
  exact this
 | sliceEmp L i off p hL =>
  simp only[AV.toD] at hd
  split at hd
  case h_2=>cases hd
  rename_i ob hob
  split at hd
  case h_2=>cases hd
  rename_i l hcont
  split at hd
  case isFalse=>cases hd
  simp only[List.take_zero,Option.some.injEq] at hd
  subst hd
  exact .empty _ _ _ _ (by omega)
 | ptr L i j off hL hn =>
  simp only[AV.toD] at hd
  split at hd
  case isFalse=>cases hd
  rename_i hij
  obtain⟨rfl,rfl⟩:=hij
  split at hd
  case h_2=>cases hd
  rename_i ob hob
  split at hd
  case h_2=>cases hd
  rename_i u hcont
  split at hd
  case isFalse=>cases hd
  rename_i hc
  simp only[Option.map_eq_some_iff] at hd
  obtain⟨e,he,rfl⟩:=hd
  obtain⟨L',hL',hok⟩:=h.objs i ob hob
  rw[hL] at hL'
  cases hL'
  obtain⟨c,fr,k1,k2,k3,k4,k5⟩:=hok.at_ hn
  rw[hcont] at k3
  obtain⟨m1,m2,m3,m4⟩:=k3
  obtain⟨g1,g2⟩:=toD_cells he m3
  rw[show L.o+(0*L.sz+0)=L.o by omega]
  refine .ref L.b L.o ob.T e c fr k1 (hO i ob L hob hc hL hn) (fun q hq => ?_) (fun p q hp => ?_) (fun p q hp => ?_)
  ·obtain⟨p,hp⟩:=List.getElem?_of_mem hq
   exact (g2 p q hp).1
  ·have:=(List.getElem?_eq_some_iff.1 hp).1;omega
  ·obtain⟨_,y,m,r1,r2,r3⟩:=g2 p q hp
   exact ih m (by omega) y _ q r3 (m4 p y r2)
end
end Go.Proofs.YtkidkimjdiichaaGreat.M
end
section
namespace Go.Proofs.YtkidkimjdiichaaGreat.M
open Go.RowKit
section
variable {P:Program} {w0:World} {base:Nat→Prop} {nt:Nat} {loc:Locs} {s t:St} {a:Act} {w:World} {o:Oper} {id:Nat} {d:AV}
theorem toD_pure (h:Rel w0 base nt loc s a w) {n:Nat} {x:AV} {v:Value} {d:D} (hd:x.toD false s.m n=some d) (hv:RV w (NB base s.m loc w) loc v x):V w (NB base s.m loc w) v d:=by
 refine toD_ok h (fun _ h=>h) (fun id o L ho hf hL hn => ?_) n x v d hd hv
 obtain⟨L',hL',hok⟩:=h.objs id o ho
 rw[hL] at hL'
 cases hL'
 obtain⟨c,fr,k1,k2,k3,k4,k5⟩:=hok.at_ hn
 exact k5 (by simpa using hf)
theorem cells_not_tup {d:D} (h:d.cells.all D.one=true):∀ l,d≠.tup l:=by
 rintro l rfl
 simp[D.cells,D.one] at h
theorem mk_cells {l:List AV} (h1:∀ e∈l,e.one=true):(AV.mk l).cells.length=l.length∧(∀ e∈(AV.mk l).cells,e.one=true) ∧
  ∀ (w:World) (N:Nat→Prop) (loc:Locs) (v:Value) (r:Nat) (z:AV),(AV.mk l).cells[r]? = some z→(∀ e,l[r]? = some e→RV w N loc v e)→RV w N loc v z:=by
 unfold AV.mk
 split
 ·rename_i ds hds
  obtain⟨g1,g2⟩:=pureL_spec hds
  refine⟨by simp[AV.cells,D.cells,g1],fun e he => ?_,fun w N loc v r z hz hr => ?_⟩
  ·simp only[AV.cells,D.cells,List.mem_map] at he
   obtain⟨q,hq,rfl⟩:=he
   obtain⟨i,hi⟩:=List.getElem?_of_mem hq
   obtain⟨x,hx,hp⟩:=g2 i q hi
   have:=h1 x (List.mem_of_getElem? hx)
   cases x<;>simp[AV.one] at this<;>simp[AV.pure] at hp
   ·subst hp;exact this
   ·subst hp;rfl
  ·simp only[AV.cells,D.cells,List.getElem?_map,Option.map_eq_some_iff] at hz
   obtain⟨q,hq,rfl⟩:=hz
   obtain⟨x,hx,hp⟩:=g2 r q hq
   exact .p _ _ ((hr x hx).pure hp)
 ·exact⟨rfl,h1,fun w N loc v r z hz hr=>hr z hz⟩
theorem sim_store {T:TypeId} {ag:Bool} {sz:Nat} {x v:Operand} (h:Rel w0 base nt loc s a w) (ho:o.op = .store T x v) (hT:TyOk P T ag sz) {U W:Option TypeId}
  (he:ev (.store sz (opd P U x) (opd P W v)) id s=some (true,d,t)):Good P w0 base nt o a w t d:=by
 have hx:=h.opd (P:=P) U x
 have hv:=h.opd (P:=P) W v
 simp only[ev] at he
 split at he
 case h_2=>cases he
 rename_i i j off hk
 rw[hk] at hx
 generalize hxv:a.eval x=xv at hx
 cases hx with
 | ptr L _ _ _ hL hn =>
 have goal:∀ (ob:AObj) (k:Cont),s.m i=some ob→ob.frz=false→(a.eval v).cells.size=sz→(∀ u∈(a.eval v).cells.toList,u.oneCell'=true) →
   (∀ c,c.size=L.n→ContOk w (NB base s.m loc w) loc c L.o ob.sz ob.cont→L.o+(j*L.sz+off)+sz≤c.size) →
   (∀ (w':World) (c:Array Value),w.heap.size≤w'.heap.size→(∀ b,NB base s.m loc w b→w'.heap[b]? = w.heap[b]?)→ContOk w' (NB base s.m loc w') loc c L.o ob.sz ob.cont→c.size=L.n→ContOk w' (NB base s.m loc w') loc (setC c (L.o+(j*L.sz+off)) (a.eval v).cells.toList) L.o ob.sz k) →
   Good P w0 base nt o a w ⟨s.r,upd s.m i (some ⟨ob.T,ob.sz,k,false⟩)⟩ .und:=by
  intro ob k hob hf hsz h1 hfit hk'
  have hrel:=h.write hob hf hL hn hk'
  refine⟨undef,_,loc,.inr ⟨?_,rfl⟩,hrel,.und _⟩
  obtain⟨L',hL',hok⟩:=h.objs i ob hob
  rw[hL] at hL'
  cases hL'
  obtain⟨c,fr,k1,k2,k3,k4,k5⟩:=hok.at_ hn
  have hr:=run_storeAt (P:=P) (v:=a.eval v) hT k1 (hfit c k2 k3) hsz (fun y hy=>(k4 hf).2 y (by omega)) h1
  simp[execOp,ho,hxv,hr]
 split at he
 ·rename_i T' osz l hm
  split at he
  case h_2=>cases he
  rename_i e hd
  split at he
  case isFalse=>cases he
  rename_i hc
  obtain⟨hc1,hc2⟩:=hc
  split at he
  case isFalse=>cases he
  rename_i hoff
  obtain⟨rfl,rfl⟩:=hoff
  simp only[Option.some.injEq,Prod.mk.injEq,decide_eq_true_eq] at he
  obtain⟨hj,rfl,rfl⟩:=he
  have hV:=toD_pure h hd hv
  obtain⟨g1,g2⟩:=hV.cells (cells_not_tup hc2)
  obtain⟨L',hL',hok⟩:=h.objs i _ hm
  rw[hL] at hL'
  cases hL'
  have hLs:L.sz=sz:=hok.sz
  have hmul:j*sz+sz≤l.length*sz:=by
   have:=Nat.mul_le_mul_right sz (show j+1≤l.length by omega)
   rw[Nat.add_mul] at this;omega
  have hvs:(a.eval v).cells.toList.length=sz:=by simp;omega
  refine goal _ (.row (l.set j e)) hm rfl (by omega) (fun u hu => ?_) (fun c hcs hcc => ?_) (fun w' c hws hw' hcc hcs => ?_)
  ·obtain⟨p,hp⟩:=List.getElem?_of_mem hu
   have hlt:=(List.getElem?_eq_some_iff.1 hp).1
   have hq:e.cells[p]? = some (e.cells[p]'(by simp at hlt;omega)):=by simp
   have:=g2 p _ hq
   have hu':(a.eval v).cells.getD p undef=u:=by simpa using congrArg (·.getD undef) hp
   rw[hu'] at this
   exact this.2.one this.1
  ·have:=hcc.1
   rw[hLs];simp only at this;omega
  ·obtain⟨m1,m2,m3⟩:=hcc
   simp only at m1 m2 m3
   refine⟨by simpa using m1,fun q hq => ?_,fun p q r z hp hr => ?_⟩
   ·rcases List.mem_or_eq_of_mem_set hq with hq | rfl
    ·exact m2 q hq
    ·exact hc1
   ·rw[hLs]
    by_cases hpj:p=j
    ·subst hpj
     have hqe:q=e:=by
      rw[List.getElem?_set_self (by omega)] at hp
      simpa using hp.symm
     subst hqe
     have hrl:r<sz:=by have:=(List.getElem?_eq_some_iff.1 hr).1;omega
     have hin:=setC_in (a.eval v).cells.toList (L.o+(p*sz+0)) c r (by rw[hvs];omega) (by rw[hvs];exact hrl)
     rw[show L.o+(p*sz+r)=L.o+(p*sz+0)+r by omega,hin]
     obtain⟨q1,q2⟩:=g2 r z hr
     have hz:(a.eval v).cells.toList.getD r undef=(a.eval v).cells.getD r undef:=by simp
     rw[hz]
     exact⟨q1,q2.mono hw' (fun b hb=>⟨Nat.lt_of_lt_of_le hb.1 hws,hb.2⟩)⟩
    ·have hp':l[p]? = some q:=by rwa[List.getElem?_set_ne (by omega)] at hp
     obtain⟨q1,q2⟩:=m3 p q r z hp' hr
     have hrl:r<sz:=by have:=(List.getElem?_eq_some_iff.1 hr).1;have:=m2 q (List.mem_of_getElem? hp');omega
     dsimp only
     rw[setC_out]
     ·exact⟨q1,q2⟩
     ·rw[hvs]
      rcases Nat.lt_or_gt_of_ne hpj with hlt | hgt
      ·left
       have:=Nat.mul_le_mul_right sz (show p+1≤j by omega)
       rw[Nat.add_mul] at this;omega
      ·right
       have:=Nat.mul_le_mul_right sz (show j+1≤p by omega)
       rw[Nat.add_mul] at this;omega
 ·rename_i T' osz u hm
  split at he
  case isFalse=>cases he
  rename_i hc
  obtain⟨hc1,hc2,rfl⟩:=hc
  rw[List.all_eq_true] at hc2
  obtain⟨g1,g2⟩:=hv.cells hc2
  obtain⟨L',hL',hok⟩:=h.objs i _ hm
  rw[hL] at hL'
  cases hL'
  have hLs:L.sz=osz:=hok.sz
  have hvs:(a.eval v).cells.toList.length=sz:=by simp;omega
  have hone:∀ q∈(a.eval v).cells.toList,q.oneCell'=true:=by
   intro q hq
   obtain⟨p,hp⟩:=List.getElem?_of_mem hq
   have hlt:=(List.getElem?_eq_some_iff.1 hp).1
   have hy:((opd P W v).ev s.r).cells[p]? = some (((opd P W v).ev s.r).cells[p]'(by simp at hlt;omega)):=by simp
   have:=g2 p _ hy
   have hu':(a.eval v).cells.getD p undef=q:=by simpa using congrArg (·.getD undef) hp
   rw[hu'] at this
   exact this.one (hc2 _ (List.mem_of_getElem? hy))
  have hin:∀ (w':World) (c:Array Value),w.heap.size≤w'.heap.size→(∀ b,NB base s.m loc w b→w'.heap[b]? = w.heap[b]?)→L.o+off+sz≤c.size→∀ r z,((opd P W v).ev s.r).cells[r]? = some z→RV w' (NB base s.m loc w') loc ((setC c (L.o+(0*L.sz+off)) (a.eval v).cells.toList).getD (L.o+(off+r)) undef) z:=by
   intro w' c hws hw' hfit r z hr
   have hrl:r<sz:=by have:=(List.getElem?_eq_some_iff.1 hr).1;omega
   have hin:=setC_in (a.eval v).cells.toList (L.o+(0*L.sz+off)) c r (by rw[hvs];omega) (by rw[hvs];exact hrl)
   rw[show L.o+(off+r)=L.o+(0*L.sz+off)+r by omega,hin]
   have hz:(a.eval v).cells.toList.getD r undef=(a.eval v).cells.getD r undef:=by simp
   rw[hz]
   exact (g2 r z hr).mono hw' (fun b hb=>⟨Nat.lt_of_lt_of_le hb.1 hws,hb.2⟩) (fun _ _ x=>x)
  split at he
  ·rename_i hoff
   obtain⟨rfl,rfl⟩:=hoff
   simp only[Option.some.injEq,Prod.mk.injEq,true_and] at he
   obtain⟨rfl,rfl⟩:=he
   refine goal _ (.box ((opd P W v).ev s.r)) hm rfl (by omega) hone (fun c hcs hcc => ?_) (fun w' c hws hw' hcc hcs => ?_)
   ·have:=hcc.1;simp only at this;omega
   ·obtain⟨m1,m2,m3,m4⟩:=hcc
    simp only at m1
    refine⟨by simpa using m1,hc1,hc2,fun r z hr => ?_⟩
    have:=hin w' c hws hw' (by omega) r z hr
    rwa[Nat.zero_add] at this
  ·split at he
   case isFalse=>cases he
   rename_i hle
   simp only[Option.some.injEq,Prod.mk.injEq,true_and] at he
   obtain⟨rfl,rfl⟩:=he
   refine goal _ (.box (AV.mk (u.cells.take off++((opd P W v).ev s.r).cells++u.cells.drop (off+sz)))) hm rfl (by omega) hone (fun c hcs hcc => ?_) (fun w' c hws hw' hcc hcs => ?_)
   ·have:=hcc.1;simp only at this;omega
   ·obtain⟨m1,m2,m3,m4⟩:=hcc
    simp only at m1 m2 m3 m4
    have hall:∀ e∈u.cells.take off++((opd P W v).ev s.r).cells++u.cells.drop (off+sz),e.one=true:=by
     intro e he
     rcases List.mem_append.1 he with he | he
     ·rcases List.mem_append.1 he with he | he
      ·exact m3 e (List.mem_of_mem_take he)
      ·exact hc2 e he
     ·exact m3 e (List.mem_of_mem_drop he)
    have hlen:(u.cells.take off++((opd P W v).ev s.r).cells++u.cells.drop (off+sz)).length=osz:=by simp;omega
    obtain⟨k1,k2,k3⟩:=mk_cells hall
    refine⟨by simpa using m1,by rw[k1];exact hlen,k2,fun r z hr => ?_⟩
    refine k3 w' _ loc _ r z hr fun e he => ?_
    by_cases h1:r<off
    ·rw[List.append_assoc,List.getElem?_append_left (by simp;omega),List.getElem?_take_of_lt h1] at he
     rw[setC_out _ _ _ _ (.inl (by omega))]
     exact m4 r e he
    ·by_cases h2:r<off+sz
     ·have:=hin w' c hws hw' (by omega) (r-off) e (by
       rw[List.append_assoc,List.getElem?_append_right (by simp;omega),List.getElem?_append_left (by simp;omega)] at he
       simpa[show min off u.cells.length=off by omega] using he)
      rwa[show L.o+(off+(r-off))=L.o+r by omega] at this
     ·rw[List.getElem?_append_right (by simp;omega)] at he
      simp only[List.length_append,List.length_take,List.getElem?_drop] at he
      rw[show off+sz+(r-(min off u.cells.length+((opd P W v).ev s.r).cells.length))=r by omega] at he
      rw[setC_out _ _ _ _ (.inr (by rw[hvs];omega))]
      exact m4 r e he
 ·rename_i T' osz hm
  split at he
  case isFalse=>cases he
  rename_i hc
  obtain⟨hc1,hc2,rfl⟩:=hc
  rw[List.all_eq_true] at hc2
  obtain⟨g1,g2⟩:=hv.cells hc2
  obtain⟨L',hL',hok⟩:=h.objs i _ hm
  rw[hL] at hL'
  cases hL'
  have hLs:L.sz=osz:=hok.sz
  have hvs:(a.eval v).cells.toList.length=sz:=by simp;omega
  have hone:∀ q∈(a.eval v).cells.toList,q.oneCell'=true:=by
   intro q hq
   obtain⟨p,hp⟩:=List.getElem?_of_mem hq
   have hlt:=(List.getElem?_eq_some_iff.1 hp).1
   have hy:((opd P W v).ev s.r).cells[p]? = some (((opd P W v).ev s.r).cells[p]'(by simp at hlt;omega)):=by simp
   have:=g2 p _ hy
   have hu':(a.eval v).cells.getD p undef=q:=by simpa using congrArg (·.getD undef) hp
   rw[hu'] at this
   exact this.one (hc2 _ (List.mem_of_getElem? hy))
  have hin:∀ (w':World) (c:Array Value),w.heap.size≤w'.heap.size→(∀ b,NB base s.m loc w b→w'.heap[b]? = w.heap[b]?)→L.o+off+sz≤c.size→∀ r z,((opd P W v).ev s.r).cells[r]? = some z→RV w' (NB base s.m loc w') loc ((setC c (L.o+(0*L.sz+off)) (a.eval v).cells.toList).getD (L.o+(off+r)) undef) z:=by
   intro w' c hws hw' hfit r z hr
   have hrl:r<sz:=by have:=(List.getElem?_eq_some_iff.1 hr).1;omega
   have hin:=setC_in (a.eval v).cells.toList (L.o+(0*L.sz+off)) c r (by rw[hvs];omega) (by rw[hvs];exact hrl)
   rw[show L.o+(off+r)=L.o+(0*L.sz+off)+r by omega,hin]
   have hz:(a.eval v).cells.toList.getD r undef=(a.eval v).cells.getD r undef:=by simp
   rw[hz]
   exact (g2 r z hr).mono hw' (fun b hb=>⟨Nat.lt_of_lt_of_le hb.1 hws,hb.2⟩) (fun _ _ x=>x)
  split at he
  ·rename_i hoff
   obtain⟨rfl,rfl⟩:=hoff
   simp only[Option.some.injEq,Prod.mk.injEq,true_and] at he
   obtain⟨rfl,rfl⟩:=he
   refine goal _ (.box ((opd P W v).ev s.r)) hm rfl (by omega) hone (fun c hcs hcc => ?_) (fun w' c hws hw' hcc hcs => ?_)
   ·have:=hcc;simp only[ContOk] at this;omega
   ·have m1:=hcc
    simp only[ContOk] at m1
    refine⟨by simpa using m1,hc1,hc2,fun r z hr => ?_⟩
    have:=hin w' c hws hw' (by omega) r z hr
    rwa[Nat.zero_add] at this
  ·cases he
 ·cases he
end
end Go.Proofs.YtkidkimjdiichaaGreat.M
end
section
namespace Go.Proofs.YtkidkimjdiichaaGreat.M
open Go.RowKit
section
variable {P:Program} {w0:World} {base:Nat→Prop} {nt:Nat} {loc:Locs} {s t:St} {a:Act} {w:World} {o:Oper} {id:Nat} {d:AV}
def putC (cs:Array Value) (off:Nat) (v:Array Value):Array Value:=v.zipIdx.foldl (fun cs (c,j)=>cs.setIfInBounds (off+j) c) cs
theorem putC_list:∀ (v:List Value) (k off:Nat) (cs:Array Value),(v.zipIdx k).foldl (fun cs (p:Value × Nat)=>cs.setIfInBounds (off+p.2) p.1) cs=setC cs (off+k) v
 | [],_,_,_=>rfl
 | x::v,k,off,cs=>by
  rw[List.zipIdx_cons,List.foldl_cons,putC_list v (k+1) off,setC]
  rfl
theorem putC_eq (cs:Array Value) (off:Nat) (v:Array Value):putC cs off v=setC cs off v.toList:=by
 unfold putC
 rw[←Array.foldl_toList,Array.toList_zipIdx]
 exact putC_list v.toList 0 off cs
def RVs (w:World) (N:Nat→Prop) (loc:Locs) (cs:Array Value) (l:List AV):Prop:=cs.size=l.length∧(∀ e∈l,e.one=true)∧∀ i e,l[i]? = some e→RV w N loc (cs.getD i undef) e
theorem RVs.put {N:Nat→Prop} {cs:Array Value} {l:List AV} {v:Value} {x:AV} {off:Nat} (h:RVs w N loc cs l) (hv:RV w N loc v x) (h1:∀ e∈x.cells,e.one=true) (hle:off+x.cells.length≤l.length) :
  RVs w N loc (putC cs off v.cells) (l.take off++x.cells++l.drop (off+x.cells.length))∧v.cells.size=x.cells.length:=by
 obtain⟨g1,g2⟩:=hv.cells h1
 obtain⟨k1,k2,k3⟩:=h
 have hvs:v.cells.toList.length=x.cells.length:=by simp;omega
 refine⟨⟨?_,?_,?_⟩,g1⟩
 ·rw[putC_eq,size_setC];simp;omega
 ·intro e he
  rcases List.mem_append.1 he with he | he
  ·rcases List.mem_append.1 he with he | he
   ·exact k2 e (List.mem_of_mem_take he)
   ·exact h1 e he
  ·exact k2 e (List.mem_of_mem_drop he)
 ·intro r e he
  rw[putC_eq]
  by_cases q1:r<off
  ·rw[List.append_assoc,List.getElem?_append_left (by simp;omega),List.getElem?_take_of_lt q1] at he
   rw[setC_out _ _ _ _ (.inl q1)]
   exact k3 r e he
  ·by_cases q2:r<off+x.cells.length
   ·rw[List.append_assoc,List.getElem?_append_right (by simp;omega),List.getElem?_append_left (by simp;omega)] at he
    have hin:=setC_in v.cells.toList off cs (r-off) (by omega) (by omega)
    rw[show off+(r-off)=r by omega] at hin
    rw[hin]
    have hz:v.cells.toList.getD (r-off) undef=v.cells.getD (r-off) undef:=by simp
    rw[hz]
    exact g2 (r-off) e (by simpa[show min off l.length=off by omega] using he)
   ·rw[List.getElem?_append_right (by simp;omega)] at he
    simp only[List.length_append,List.length_take,List.getElem?_drop] at he
    rw[show off+x.cells.length+(r-(min off l.length+x.cells.length))=r by omega] at he
    rw[setC_out _ _ _ _ (.inr (by omega))]
    exact k3 r e he
theorem fill_ok (h:Rel w0 base nt loc s a w) (place:Nat→Option (Nat × Nat)):∀ (parts:List (Nat × Operand)) (ps:List (Nat × Nat × Opd)) (cs:Array Value) (l m:List AV),
  parts.length=ps.length→(∀ (k i:Nat) (x:Operand) (off sz:Nat) (X:Opd),parts[k]? = some (i,x)→ps[k]? = some (off,sz,X)→place i=some (off,sz)∧RV w (NB base s.m loc w) loc (a.eval x) (X.ev s.r)) →
  RVs w (NB base s.m loc w) loc cs l→fillA l s.r ps=some m→∃ cs',Instr.fill place cs (parts.map fun p=>(p.1,a.eval p.2))=some cs'∧RVs w (NB base s.m loc w) loc cs' m
 | [],[],cs,l,m,_,_,hr,hf=>by
  simp only[fillA,Option.some.injEq] at hf
  subst hf
  exact⟨cs,rfl,hr⟩
 | (i,x)::parts,(off,sz,X)::ps,cs,l,m,hl,hp,hr,hf=>by
  simp only[fillA] at hf
  split at hf
  case isFalse=>cases hf
  rename_i hc
  obtain⟨c1,c2,c3⟩:=hc
  rw[List.all_eq_true] at c3
  obtain⟨p1,p2⟩:=hp 0 i x off sz X rfl rfl
  subst c1
  obtain⟨q1,q2⟩:=hr.put p2 c3 c2
  obtain⟨cs',g1,g2⟩:=fill_ok h place parts ps _ _ m (by simpa using hl) (fun k i x off sz X h1 h2=>hp (k+1) i x off sz X (by simpa using h1) (by simpa using h2)) q1 hf
  refine⟨cs',?_,g2⟩
  have hcs:=hr.1
  simp only[List.map_cons,Instr.fill,p1]
  rw[if_neg (by simp only[Bool.or_eq_true,decide_eq_true_eq,not_or,ne_eq,Decidable.not_not,Nat.not_lt,gt_iff_lt];omega)]
  exact g1
 | [],_::_,_,_,_,hl,_,_,_=>by simp at hl
 | _::_,[],_,_,_,hl,_,_,_=>by simp at hl
theorem sim_build {T:TypeId} {parts:Array (Nat × Operand)} {l:List D} {sz:Nat} {fs:Array Field} {places:List (Nat × Nat)} {ps:List (Nat × Nat × Opd)} (h:Rel w0 base nt loc s a w) (ho:o.op = .build T parts) (hz:ZOk P T l true sz) (hu:P.underlying T=some (.struct fs))
  (hpl:fs.toList.mapM (fun f=>(P.info? f.type).map fun i=>(f.offset,i.size))=some places)
  (hps:parts.toList.mapM (fun p:Nat × Operand=>match places[p.1]?,fs[p.1]? with
     | some (off,sz),some f=>some (off,sz,opd P (some f.type) p.2)
     | _,_=>none)=some ps)
  (he:ev (.build (l.map .p) ps) id s=some (true,d,t)):Good P w0 base nt o a w t d:=by
 simp only[ev] at he
 split at he
 case h_2=>cases he
 rename_i m hm
 simp only[Option.some.injEq,Prod.mk.injEq,true_and] at he
 obtain⟨rfl,rfl⟩:=he
 obtain⟨i,z,g1,g2,g3,g4,g5,g6⟩:=hz
 obtain⟨k1,k2⟩:=chkL_ok g4
 have hzc:RVs w (NB base s.m loc w) loc z.cells (l.map .p):=by
  refine⟨by simpa using k1,fun e he => ?_,fun j e hj => ?_⟩
  ·simp only[List.mem_map] at he
   obtain⟨q,hq,rfl⟩:=he
   obtain⟨j,hj⟩:=List.getElem?_of_mem hq
   exact (k2 j q hj).1
  ·simp only[List.getElem?_map,Option.map_eq_some_iff] at hj
   obtain⟨q,hq,rfl⟩:=hj
   have:=(k2 j q hq).2 w (NB base s.m loc w)
   exact .p _ _ (by simpa using this)
 have hpar:∀ (l1:List (Nat × Operand)) (l2:List (Nat × Nat × Opd)),l1.mapM (fun p:Nat × Operand=>match places[p.1]?,fs[p.1]? with
     | some (off,sz),some f=>some (off,sz,opd P (some f.type) p.2)
     | _,_=>none)=some l2→l1.length=l2.length∧∀ (k i:Nat) (x:Operand) (off sz:Nat) (X:Opd),l1[k]? = some (i,x)→l2[k]? = some (off,sz,X)→places[i]? = some (off,sz)∧∃ T,X=opd P T x:=by
  intro l1
  induction l1 with
  | nil=>intro l2 hh;simp at hh;subst hh;exact⟨rfl,fun k i x off sz X h1=>by simp at h1⟩
  | cons p l1 ih =>
   intro l2 hh
   simp only[List.mapM_cons,Option.bind_eq_bind,Option.bind_eq_some_iff,Option.pure_def,Option.some.injEq] at hh
   obtain⟨y,hy,l2',hl2,rfl⟩:=hh
   obtain⟨r1,r2⟩:=ih l2' hl2
   refine⟨by simp[r1],fun k i x off sz X h1 h2 => ?_⟩
   match k,h1,h2 with
   | 0,h1,h2 =>
    simp only[List.getElem?_cons_zero,Option.some.injEq] at h1 h2
    subst h1;subst h2
    split at hy
    ·rename_i off' sz' f e1 e2
     simp only[Option.some.injEq,Prod.mk.injEq] at hy
     obtain⟨rfl,rfl,rfl⟩:=hy
     exact⟨e1,_,rfl⟩
    ·cases hy
   | k+1,h1,h2=>exact r2 k i x off sz X (by simpa using h1) (by simpa using h2)
 obtain⟨r1,r2⟩:=hpar _ _ hps
 obtain⟨cs',q1,q2⟩:=fill_ok h (places.toArray[·]?) parts.toList ps z.cells _ m r1 (fun k i x off sz X h1 h2=>by
  obtain⟨u1,T',rfl⟩:=r2 k i x off sz X h1 h2
  exact⟨by simpa using u1,h.opd T' x⟩) hzc hm
 have hb:P.built T (parts.map fun (i,x)=>(i,a.eval x)).toList=some cs':=by
  unfold Program.built
  simp only[g1,hu,g2,hpl]
  rw[Array.toList_map]
  exact q1
 refine good_same h (v:=.agg cs') ?_ (rv_mk q2.1 q2.2.1 q2.2.2)
 simp only[execOp,ho]
 exact run_v (run_build w T _ cs' hb)
theorem row_put {N:Nat→Prop} {c:Array Value} {sz:Nat} {l:List D} {i:Nat} {v:Value} {e:D} (h:ContOk w N loc c 0 sz (.row l)) (hi:i<l.length) (hv:V w N v e) (h1:e.cells.length=sz) (h2:e.cells.all D.one=true) :
  ContOk w N loc (putC c (i*sz) v.cells) 0 sz (.row (l.set i e))∧v.cells.size=sz:=by
 obtain⟨g1,g2⟩:=hv.cells (cells_not_tup h2)
 obtain⟨m1,m2,m3⟩:=h
 have hvs:v.cells.toList.length=sz:=by simp;omega
 have hmul:i*sz+sz≤l.length*sz:=by
  have:=Nat.mul_le_mul_right sz (show i+1≤l.length by omega)
  rw[Nat.add_mul] at this;omega
 refine⟨⟨by rw[putC_eq,size_setC];simpa using m1,fun q hq => ?_,fun p q r z hp hr => ?_⟩,by omega⟩
 ·rcases List.mem_or_eq_of_mem_set hq with hq | rfl
  ·exact m2 q hq
  ·exact h1
 ·rw[putC_eq]
  by_cases hpj:p=i
  ·subst hpj
   have hqe:q=e:=by
    rw[List.getElem?_set_self (by omega)] at hp
    simpa using hp.symm
   subst hqe
   have hrl:r<sz:=by have:=(List.getElem?_eq_some_iff.1 hr).1;omega
   have hin:=setC_in v.cells.toList (p*sz) c r (by rw[hvs];omega) (by rw[hvs];exact hrl)
   rw[Nat.zero_add,hin]
   obtain⟨q1,q2⟩:=g2 r z hr
   have hz:v.cells.toList.getD r undef=v.cells.getD r undef:=by simp
   rw[hz]
   exact⟨q1,q2⟩
  ·have hp':l[p]? = some q:=by rwa[List.getElem?_set_ne (by omega)] at hp
   obtain⟨q1,q2⟩:=m3 p q r z hp' hr
   have hrl:r<sz:=by have:=(List.getElem?_eq_some_iff.1 hr).1;have:=m2 q (List.mem_of_getElem? hp');omega
   rw[setC_out]
   ·exact⟨q1,q2⟩
   ·rw[hvs]
    rcases Nat.lt_or_gt_of_ne hpj with hlt | hgt
    ·left
     have:=Nat.mul_le_mul_right sz (show p+1≤i by omega)
     rw[Nat.add_mul] at this;omega
    ·right
     have:=Nat.mul_le_mul_right sz (show i+1≤p by omega)
     rw[Nat.add_mul] at this;omega
theorem size_fill {place:Nat→Option (Nat × Nat)}:∀ (parts:List (Nat × Value)) (cs cs':Array Value),Instr.fill place cs parts=some cs'→cs'.size=cs.size:=by
 intro parts
 induction parts with
 | nil=>intro cs cs' h;simp[Instr.fill] at h;rw[h]
 | cons p parts ih =>
  intro cs cs' h
  obtain⟨i,v⟩:=p
  simp only[Instr.fill] at h
  split at h
  ·cases h
  ·split at h
   ·cases h
   ·have:=ih _ _ h
    rw[this]
    exact (congrArg Array.size (putC_eq cs _ v.cells)).trans (size_setC _ _ _)
theorem fillR_ok (h:Rel w0 base nt loc s a w) (sz:Nat):∀ (parts:List (Nat × Operand)) (T:Option TypeId) (c:Array Value) (l m:List D),ContOk w (NB base s.m loc w) loc c 0 sz (.row l)→c.size=l.length*sz →
  fillR sz l s.r s.m (parts.map fun p=>(p.1,opd P T p.2))=some m→∃ cs',Instr.fill (fun i=>some (i*sz,sz)) c (parts.map fun p=>(p.1,a.eval p.2))=some cs'∧ContOk w (NB base s.m loc w) loc cs' 0 sz (.row m)∧m.length=l.length
 | [],T,c,l,m,hr,_,hf=>by
  simp only[List.map_nil,fillR,Option.some.injEq] at hf
  subst hf
  exact⟨c,rfl,hr,rfl⟩
 | (i,x)::parts,T,c,l,m,hr,hs,hf=>by
  simp only[List.map_cons,fillR] at hf
  split at hf
  case h_2=>cases hf
  rename_i e hd
  split at hf
  case isFalse=>cases hf
  rename_i hc
  obtain⟨c1,c2,c3⟩:=hc
  have hV:=toD_pure h hd (h.opd (P:=P) T x)
  obtain⟨q1,q2⟩:=row_put hr c3 hV c1 c2
  obtain⟨cs',g1,g2,g3⟩:=fillR_ok h sz parts T _ _ m q1 (by rw[putC_eq,size_setC];simpa using hs) hf
  refine⟨cs',?_,g2,by simpa using g3⟩
  have hmul:i*sz+sz≤l.length*sz:=by
   have:=Nat.mul_le_mul_right sz (show i+1≤l.length by omega)
   rw[Nat.add_mul] at this;omega
  simp only[List.map_cons,Instr.fill]
  rw[if_neg (by simp only[Bool.or_eq_true,decide_eq_true_eq,not_or,ne_eq,Decidable.not_not,Nat.not_lt,gt_iff_lt];omega)]
  exact g1
theorem zero_row {E:TypeId} {l:List D} {ag:Bool} {sz:Nat} (hz:ZOk P E l ag sz) {z:Value} (hr:(zeroValue E).run P w = .ok z w) (N:Nat→Prop) (q:Nat) :
  ContOk w N loc (madeCells z.cells (q*sz)) 0 sz (.row (List.replicate q (if ag then D.agg l else l.headD default))):=by
 obtain⟨z',hr',hsz,hl,hcell,-⟩:=zero_run (w:=w) hz
 rw[hr] at hr'
 have hzz:z=z':=by injection hr'
 subst hzz
 have hcl:(if ag then D.agg l else l.headD default).cells=l:=by
  cases ag with
  | true=>rfl
  | false =>
   have:sz=1:=by obtain⟨_,_,_,_,_,_,_,h6⟩:=hz;exact h6 rfl
   match l,hl with
   | [e],_ =>
    have:=(hcell 0 e rfl).1
    cases e<;>first | rfl | simp[D.one] at this
   | [],hl=>simp at hl;omega
   | _::_::_,hl=>simp at hl;omega
 refine⟨by simp[madeCells],fun e he => ?_,fun i e j d hi hj => ?_⟩
 ·rw[List.eq_of_mem_replicate he,hcl,hl]
 ·have hiq:i<q:=by have:=(List.getElem?_eq_some_iff.1 hi).1;simpa using this
  have he:=List.eq_of_mem_replicate (List.mem_of_getElem? hi)
  rw[he,hcl] at hj
  have hjl:j<sz:=by have:=(List.getElem?_eq_some_iff.1 hj).1;omega
  obtain⟨g1,g2⟩:=hcell j d hj
  refine⟨g1,?_⟩
  have hlt:i*sz+j<q*sz:=by
   have:=Nat.mul_le_mul_right sz (show i+1≤q by omega)
   rw[Nat.add_mul] at this;omega
  have hmod:(i*sz+j) % sz=j:=by rw[Nat.add_comm,Nat.add_mul_mod_self_right];exact Nat.mod_eq_of_lt hjl
  have:=g2 w N
  simp only[Nat.zero_add,Array.getD_eq_getD_getElem?] at this ⊢
  simp[madeCells,hlt,hsz,hmod]
  simpa[hsz,hjl] using this
theorem sim_buildSlice {T E:TypeId} {n:Nat} {parts:Array (Nat × Operand)} {l:List D} {ag:Bool} {sz:Nat} (h:Rel w0 base nt loc s a w) (ho:o.op = .buildSlice T n parts) (hu:P.underlying T=some (.slice E)) (hz:ZOk P E l ag sz) (hn:n*sz≤16777216) (hn2:n≤9223372036854775807) {U:Option TypeId}
  (he:ev (.buildSlice E sz (if ag then .agg l else l.headD default) n (parts.toList.map fun (i,x)=>(i,opd P U x))) id s=some (true,d,t)):Good P w0 base nt o a w t d:=by
 simp only[ev] at he
 split at he
 case h_2=>cases he
 rename_i hid
 split at he
 case h_2=>cases he
 rename_i m hm
 simp only[Option.some.injEq,Prod.mk.injEq,true_and] at he
 obtain⟨rfl,rfl⟩:=he
 obtain⟨z,hr,hsz,hl,hcell,-⟩:=zero_run (w:=w) hz
 have hTy:TyOk P E ag sz:=by obtain⟨_,_,_,_,h3,_⟩:=hz;exact h3
 have hrow:=zero_row (loc:=loc) hz hr (NB base s.m loc w) n
 obtain⟨cs',g1,g2,g3⟩:=fillR_ok h sz parts.toList U _ _ m hrow (by simp[madeCells]) hm
 simp only[List.length_replicate] at g3
 have hcs:cs'.size=n*sz:=by rw[size_fill _ _ _ g1];simp[madeCells]
 obtain⟨loc',hl',hrel⟩:=h.alloc (T:=E) (c:=cs') (k:=.row m) (sz:=sz) hid g2
 refine⟨.slice (some ⟨w.heap.size,0,none⟩) n n,w.alloc (.cells cs' E),loc',.inl ?_,hrel,?_⟩
 ·have hg:Instr.fill (fun i=>some (i*sz,sz)) (madeCells z.cells (n*sz)) (parts.map fun x=>(x.1,a.eval x.2)).toList=some cs':=by
   rw[Array.toList_map,←g1]
  unfold madeCells at hg
  simp only[execOp,ho]
  refine run_v ?_
  by_cases h0:n*sz=0
  ·have e0:∀ f:Nat→Value,Array.map f (Array.range 0) = #[]:=fun f=>by simp
   simp only[h0,e0,Array.toList_map] at hg
   simp[Instr.buildSlice,run_underlying hu,run_sizeOf hTy,h0,e0,hg,newRow]
  ·simp only[Array.toList_map] at hg
   have hb':¬ (16777216<n*sz):=by omega
   simp[Instr.buildSlice,run_underlying hu,run_sizeOf hTy,h0,hr,newRow,hb',hg]
 ·have:=RV.slice (w:=w.alloc (.cells cs' E)) (N:=NB base (upd s.m id (some ⟨E,sz,.row m,false⟩)) loc' (w.alloc (.cells cs' E))) _ id 0 n n hl' rfl (Nat.le_refl _) hn2 (by simp[hcs])
  simpa using this
theorem intsOf_spec {N:Nat→Prop}:∀ {l:List D} {ks:List IntKind} {ns:List Int} {cs:Array Value} (o:Nat),intsOf l=some (ks,ns)→(∀ i d,l[i]? = some d→V w N (cs.getD (o+i) undef) d)→ks.length=l.length∧ns.length=l.length∧∀ i k n,ks[i]? = some k→ns[i]? = some n→cs.getD (o+i) undef = .int k n
 | [],ks,ns,cs,o,h,hv=>by
  simp only[intsOf,Option.some.injEq,Prod.mk.injEq] at h
  obtain⟨rfl,rfl⟩:=h
  exact⟨rfl,rfl,fun i k n h=>by simp at h⟩
 | d::l,ks,ns,cs,o,h,hv=>by
  cases d with
  | int k n =>
   simp only[intsOf,Option.map_eq_some_iff,Prod.mk.injEq] at h
   obtain⟨⟨ks',ns'⟩,h1,rfl,rfl⟩:=h
   obtain⟨g1,g2,g3⟩:=intsOf_spec (cs:=cs) (o+1) h1 (fun i d hi=>by have:=hv (i+1) d (by simpa using hi);rwa[show o+(i+1)=o+1+i by omega] at this)
   refine⟨by simp[g1],by simp[g2],fun i k' n' hk hn => ?_⟩
   match i,hk,hn with
   | 0,hk,hn =>
    simp at hk hn
    subst hk;subst hn
    have:=hv 0 (.int k n) rfl
    generalize cs.getD (o+0) undef=v at this ⊢
    cases this;rfl
   | i+1,hk,hn=>rw[show o+(i+1)=o+1+i by omega];exact g3 i k' n' (by simpa using hk) (by simpa using hn)
  | _=>simp[intsOf] at h
theorem run_eqInts (dd:Nat) (xs ys:Array Value):∀ (fs:List Field) (o:Nat) (ks:List IntKind) (l m:List Int),fs.length=ks.length→l.length=ks.length→m.length=ks.length →
  (∀ i f, fs[i]? = some f → f.offset = o + i ∧ f.name ≠ "_" ∧ (∃ k, P.underlying f.type = some (.int k))) → (∀ i k n, ks[i]? = some k → l[i]? = some n → xs[o + i]? = some (.int k n)) → (∀ i k n, ks[i]? = some k → m[i]? = some n → ys[o + i]? = some (.int k n)) →
  (Op.eqFields (dd+1) xs ys fs).run P w = .ok (decide (l=m)) w
 | [],o,[],[],[],_,_,_,_,_,_=>by simp[Op.eqFields]
 | f::fs,o,k::ks,x::l,y::m,h1,h2,h3,hf,hx,hy=>by
  obtain⟨f1,f2,k',f3⟩:=hf 0 f rfl
  have ih:=run_eqInts dd xs ys fs (o+1) ks l m (by simpa using h1) (by simpa using h2) (by simpa using h3)
   (fun i f hi=>by have:=hf (i+1) f (by simpa using hi);rwa[show o+(i+1)=o+1+i by omega] at this)
   (fun i k n hi hj=>by have:=hx (i+1) k n (by simpa using hi) (by simpa using hj);rwa[show o+(i+1)=o+1+i by omega] at this)
   (fun i k n hi hj=>by have:=hy (i+1) k n (by simpa using hi) (by simpa using hj);rwa[show o+(i+1)=o+1+i by omega] at this)
  have hag:(isAgg f.type).run P w = .ok false w:=by unfold isAgg;simp only[Sem.run_bind,run_underlying f3,Result.andThen];rfl
  have px:(part f.type xs f.offset).run P w = .ok (.int k x) w:=by
   have:=hx 0 k x rfl rfl
   rw[←f1] at this
   simp[part,hag,this]
  have py:(part f.type ys f.offset).run P w = .ok (.int k y) w:=by
   have:=hy 0 k y rfl rfl
   rw[←f1] at this
   simp[part,hag,this]
  have pe:=run_equalIn_int (P:=P) w dd f.type k k' x y f3
  simp only[Op.eqFields,f2,ne_eq,not_false_eq_true,if_true,Sem.run_bind,px,py,pe,Result.andThen_ok]
  by_cases hxy:x=y
  ·subst hxy
   simp[ih]
  ·simp[hxy]
 | [],_,_::_,_,_,h,_,_,_,_,_=>by simp at h
 | _::_,_,[],_,_,h,_,_,_,_,_=>by simp at h
 | _,_,[],_::_,_,_,h,_,_,_,_=>by simp at h
 | _,_,[],_,_::_,_,_,h,_,_,_=>by simp at h
 | _,_,_::_,[],_,_,h,_,_,_,_=>by simp at h
 | _,_,_::_,_,[],_,_,h,_,_,_=>by simp at h
theorem intStruct_spec {T : TypeId} (h : intStruct P T = true) : ∃ fs, P.underlying T = some (.struct fs) ∧ P.stoodInHeld T = false ∧ P.eqGuardType P.depth T = false ∧ ∀ i f, fs.toList[i]? = some f → f.offset = 0 + i ∧ f.name ≠ "_" ∧ ∃ k, P.underlying f.type = some (.int k) := by
 unfold intStruct at h
 split at h
 ·rename_i fs hu
  simp only[Bool.and_eq_true,Bool.not_eq_true',List.all_eq_true] at h
  refine⟨fs,hu,h.1.1,h.1.2,fun i f hi => ?_⟩
  have:=h.2 (f,i) (by rw[List.mem_zipIdx_iff_getElem?];exact hi)
  simp only[beq_iff_eq,bne_iff_ne,ne_eq] at this
  refine⟨by omega,this.1.2,?_⟩
  have h2:=this.2
  split at h2
  ·rename_i k hk;exact⟨k,hk⟩
  ·cases h2
 ·cases h
theorem sim_eqs {T Y:TypeId} {op:BinOp} {neg:Bool} {x y:Operand} {fs:Array Field} (h:Rel w0 base nt loc s a w) (ho:o.op = .binOp op T x y Y) (hop:op=if neg then .neq else .eql) (hT:intStruct P T=true) (hu:P.underlying T=some (.struct fs)) {U W:Option TypeId}
  (he:ev (.eqs fs.size neg (opd P U x) (opd P W y)) id s=some (true,d,t)):Good P w0 base nt o a w t d:=by
 have hx:=h.opd (P:=P) U x
 have hy:=h.opd (P:=P) W y
 simp only[ev] at he
 split at he
 case h_2=>cases he
 rename_i la lb hk hk'
 split at he
 case h_2=>cases he
 rename_i k l k' m h1 h2
 split at he
 case isFalse=>cases he
 rename_i hc
 obtain⟨rfl,hlen⟩:=hc
 simp only[Option.some.injEq,Prod.mk.injEq,true_and] at he
 obtain⟨rfl,rfl⟩:=he
 rw[hk] at hx
 rw[hk'] at hy
 have hx:=hx.inv
 have hy:=hy.inv
 generalize hxv:a.eval x=v at hx
 generalize hyv:a.eval y=u at hy
 cases hx with
 | agg xs _ x1 x2 x3 =>
 cases hy with
 | agg ys _ y1 y2 y3 =>
 obtain⟨fs',g1,g2,g3,g4⟩:=intStruct_spec hT
 rw[hu] at g1
 cases g1
 have hfo:P.fieldsOf T=fs:=by simp[Program.fieldsOf,hu]
 obtain⟨i1,i2,i3⟩:=intsOf_spec (w:=w) (N:=NB base s.m loc w) (cs:=xs) 0 h1 (fun i d hi=>by rw[Nat.zero_add];exact x3 i d hi)
 obtain⟨j1,j2,j3⟩:=intsOf_spec (w:=w) (N:=NB base s.m loc w) (cs:=ys) 0 h2 (fun i d hi=>by rw[Nat.zero_add];exact y3 i d hi)
 have hrun:=run_eqInts (P:=P) (w:=w) 9998 xs ys fs.toList 0 k l m (by simp;omega) (by omega) (by omega) g4
  (fun i k n hi hj=>by have:=i3 i k n hi hj;have hlt:=(List.getElem?_eq_some_iff.1 hi).1;have hs:i<xs.size:=(by omega);rw[←this];simp[hs])
  (fun i k n hi hj=>by have:=j3 i k n hi hj;have hlt:=(List.getElem?_eq_some_iff.1 hi).1;have hs:i<ys.size:=(by omega);rw[←this];simp[hs])
 have heq:=run_equalIn_struct (P:=P) w 9999 T xs ys (by rw[hfo];exact hu) g2
 rw[hfo,hrun] at heq
 have hg:=run_eqGuard_agg (P:=P) w op T x y xs ys g3
 refine good_same h (v:=.bool (if neg=true then !decide (l=m) else decide (l=m))) ?_ (.p _ _ (.bool _))
 simp only[execOp,ho,hxv,hyv]
 refine run_v ?_
 simp only[Sem.run_bind,hg,Result.andThen]
 subst hop
 cases neg with
 | true =>
  simp only[if_true]
  rw[run_neq_struct,show (10000:Nat)=9999+1 from rfl,heq]
  rfl
 | false =>
  simp only[Bool.false_eq_true,if_false]
  rw[run_eql_struct,show (10000:Nat)=9999+1 from rfl,heq]
  rfl
end
end Go.Proofs.YtkidkimjdiichaaGreat.M
end
section
namespace Go.Proofs.YtkidkimjdiichaaGreat.M
open Go.RowKit
section
variable {P:Program} {w0:World} {base:Nat→Prop} {nt:Nat} {loc:Locs} {s t:St} {a:Act} {w:World} {o:Oper} {id:Nat} {d:AV}
theorem ev_call {f:FuncId} {args:List Opd} {x:Option (Bool × AV × St)} (h:ev (.call f args) id s=x):x=none:=by
 subst h;rfl
theorem sim (h:Rel w0 base nt loc s a w) {ao:AOp} (hc:aop P o=some ao) (he:ev ao id s=some (true,d,t)):Good P w0 base nt o a w t d:=by
 cases hop:o.op<;>simp only[aop,hop] at hc
 case move x=>cases hc;exact sim_mov h (.inl hop) he
 case assign x=>cases hc;exact sim_mov h (.inr hop) he
 case nilCheck x=>cases hc;exact sim_nilCheck h hop he
 case pick c x y=>cases hc;exact sim_pick h hop he
 case alloc T =>
  split at hc
  ·rename_i l ag sz hz
   split at hc
   ·rename_i hok
    cases hc
    simp only[avOk,Bool.and_eq_true,beq_iff_eq,List.all_eq_true] at hok
    exact sim_alloc h hop (zeroOf_ok hz) he hok.1 hok.2
   ·cases hc
  ·cases hc
 case box T x =>
  split at hc
  ·cases hc;exact sim_box h hop he
  ·cases hc
 case build T parts =>
  split at hc
  case h_2=>cases hc
  rename_i l sz fs hz hu
  split at hc
  case h_2=>cases hc
  rename_i places hpl
  split at hc
  case h_2=>cases hc
  rename_i ps hps
  cases hc
  exact sim_build h hop (zeroOf_ok hz) hu hpl hps he
 case buildSlice T n parts =>
  split at hc
  case h_2=>cases hc
  rename_i e hu
  split at hc
  case h_2=>cases hc
  rename_i l ag sz hz
  split at hc
  case isFalse=>cases hc
  rename_i hn
  cases hc
  exact sim_buildSlice h hop hu (zeroOf_ok hz) hn.1 hn.2 he
 case load T x =>
  split at hc
  case h_2=>cases hc
  rename_i ag sz hT
  split at hc
  case isFalse=>cases hc
  rename_i hs
  cases hc
  exact sim_load h hop (tyOf_ok hT) (fun e=>by simpa[e] using hs) he
 case store T x v =>
  split at hc
  case h_2=>cases hc
  rename_i ag sz hT
  cases hc
  exact sim_store h hop (tyOf_ok hT) he
 case binOp op T x y Y =>
  split at hc
  ·cases hc;exact sim_bin h hop (by simp) he
  ·cases hc;exact sim_bin h hop (by simp) he
  ·rename_i hu;cases hc;exact sim_bin h hop (fun _=>hu) he
  ·rename_i fs hu
   split at hc
   case isFalse=>cases hc
   rename_i hi
   split at hc
   ·cases hc;exact sim_eqs h hop (by simp) hi hu he
   ·cases hc;exact sim_eqs h hop (by simp) hi hu he
   ·cases hc
  ·cases hc
 case unOp op T x=>cases hc;exact sim_un h hop he
 case convert S T x =>
  split at hc
  ·rename_i hS hT;cases hc;exact sim_conv h hop hS hT he
  ·cases hc
 case makeSlice T l c =>
  split at hc
  case h_2=>cases hc
  rename_i e hu
  split at hc
  case h_2=>cases hc
  rename_i z ag sz i hz hi
  cases hc
  exact sim_makeSlice h hop hu (zeroOf_ok hz) hi rfl he
 case slice T x lo hi mx =>
  split at hc
  ·rename_i hu
   split at hc
   ·cases hc
   ·rename_i hm
    cases hc
    have hm':mx=none:=by cases mx<;>simp at hm;rfl
    subst hm'
    exact sim_sliceS h hop hu he
  ·rename_i e hu
   split at hc
   case h_2=>cases hc
   rename_i ag sz hT
   split at hc
   ·cases hc
   ·rename_i hm
    cases hc
    exact sim_slice h hop hu (tyOf_ok hT) (fun hh=>by cases hi<;>simp_all) he
  ·cases hc
 case fieldAddr S x f =>
  split at hc
  case h_2=>cases hc
  rename_i fs hu
  split at hc
  case h_2=>cases hc
  rename_i g hf
  split at hc
  case h_2=>cases hc
  rename_i ag sz hT
  split at hc
  ·cases hc
  ·rename_i hz
   cases hc
   exact sim_fieldAddr h hop hu hf (tyOf_ok hT) (by simpa using hz) he
 case field S x f =>
  split at hc
  case h_2=>cases hc
  rename_i fs hu
  split at hc
  case h_2=>cases hc
  rename_i g hf
  split at hc
  case h_2=>cases hc
  rename_i ag sz hT
  cases hc
  exact sim_field h hop hu hf (tyOf_ok hT) he
 case indexAddr T x i =>
  split at hc
  case h_2=>cases hc
  rename_i e hu
  split at hc
  case h_2=>cases hc
  rename_i ag sz hT
  cases hc
  exact sim_indexAddr h hop hu (tyOf_ok hT) he
 case index T x i =>
  split at hc
  ·rename_i hu;cases hc;exact sim_index h hop hu he
  ·cases hc
 case extract x i=>cases hc;exact sim_extract h hop he
 case call c =>
  split at hc
  ·cases hc;cases ev_call he
  ·rename_i hcal
   split at hc
   ·rename_i x T hx hT
    split at hc
    ·rename_i hu;cases hc;exact sim_lenS h hop hcal hx hT hu he
    ·rename_i e hu;cases hc;exact sim_len h hop hcal hx hT hu he
    ·cases hc
   ·cases hc
  ·rename_i hcal
   split at hc
   ·rename_i x y hx;cases hc;exact sim_mm (mx:=true) h hop hcal hx he
   ·cases hc
  ·rename_i hcal
   split at hc
   ·rename_i x y hx;cases hc;exact sim_mm (mx:=false) h hop hcal hx he
   ·cases hc
  ·split at hc
   ·split at hc
    ·split at hc
     ·split at hc
      ·cases hc;cases he
      ·cases hc
     ·cases hc
    ·cases hc
   ·cases hc
  ·cases hc
 all_goals cases hc
end
end Go.Proofs.YtkidkimjdiichaaGreat.M
end
