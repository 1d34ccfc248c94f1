/- The small machine: the model does what the small machine says: parts, places, lengths, slices. -/
import Derived.Test.YtlnhembcfhfpkaaK1
namespace Go.Proofs.Ytlnhembcfhfpkaa.M
open Go.RowKit
section
variable {P:Program} {w0:World} {base:Bs} {nt:Nat} {loc:Locs} {s t:St} {a:Act} {w:World} {o:Oper} {id:Nat} {d:AV}
theorem partD_V {N:Nat→Prop} {cs:Array Value} {l:List D} {off sz:Nat} {ag:Bool} {e:D} (h1:cs.size=l.length) (h2:∀ q∈l,q.one=true) (h3:∀ i q,l[i]? = some q→V w N (cs.getD i undef) q)
  {T:TypeId} (hT:TyOk P T ag sz) (hp:partD l off sz ag=some e):∃ v,(part T cs off).run P w = .ok v w∧V w N v e:=by
 unfold partD at hp
 unfold part
 simp only[Sem.run_bind,run_isAgg hT,Result.andThen]
 cases ag with
 | true =>
  simp only[if_true] at hp ⊢
  split at hp
  ·rename_i hle
   simp only[Option.some.injEq] at hp
   subst hp
   simp only[Sem.run_bind,run_sizeOf hT,Result.andThen]
   refine⟨_,rfl,.agg _ _ (by simp;omega) (fun q hq=>h2 q (List.mem_of_mem_drop (List.mem_of_mem_take hq))) (fun i q hi => ?_)⟩
   have hlt:i<sz:=by have:=(List.getElem?_eq_some_iff.1 hi).1;simp at this;omega
   rw[List.getElem?_take_of_lt hlt,List.getElem?_drop] at hi
   have:=h3 _ q hi
   simp only[Array.getD_eq_getD_getElem?] at this ⊢
   rw[Array.getElem?_extract,if_pos (by omega)]
   exact this
  ·cases hp
 | false =>
  simp only[Bool.false_eq_true,if_false] at hp ⊢
  have hlt:=(List.getElem?_eq_some_iff.1 hp).1
  have hc:cs[off]? = some (cs.getD off undef):=by simp[h1,hlt]
  rw[hc]
  exact⟨_,rfl,h3 off e hp⟩
theorem partA_RV {N:Nat→Prop} {cs:Array Value} {l:List AV} {off sz:Nat} {ag:Bool} {e:AV} (h1:cs.size=l.length) (h2:∀ q∈l,q.one=true) (h3:∀ i q,l[i]? = some q→RV w N loc (cs.getD i undef) q)
  {T:TypeId} (hT:TyOk P T ag sz) (hp:partA l off sz ag=some e):∃ v,(part T cs off).run P w = .ok v w∧RV w N loc v e:=by
 unfold partA at hp
 unfold part
 simp only[Sem.run_bind,run_isAgg hT,Result.andThen]
 cases ag with
 | true =>
  simp only[if_true] at hp ⊢
  split at hp
  ·rename_i hle
   simp only[Option.some.injEq] at hp
   subst hp
   simp only[Sem.run_bind,run_sizeOf hT,Result.andThen]
   refine⟨_,rfl,.agg _ _ (by simp;omega) (fun q hq=>h2 q (List.mem_of_mem_drop (List.mem_of_mem_take hq))) (fun i q hi => ?_)⟩
   have hlt:i<sz:=by have:=(List.getElem?_eq_some_iff.1 hi).1;simp at this;omega
   rw[List.getElem?_take_of_lt hlt,List.getElem?_drop] at hi
   have:=h3 _ q hi
   simp only[Array.getD_eq_getD_getElem?] at this ⊢
   rw[Array.getElem?_extract,if_pos (by omega)]
   exact this
  ·cases hp
 | false =>
  simp only[Bool.false_eq_true,if_false] at hp ⊢
  have hlt:=(List.getElem?_eq_some_iff.1 hp).1
  have hc:cs[off]? = some (cs.getD off undef):=by simp[h1,hlt]
  rw[hc]
  exact⟨_,rfl,h3 off e hp⟩
theorem sim_field {S:TypeId} {x:Operand} {f:Nat} {fs:Array Field} {g:Field} {ag:Bool} {sz:Nat} (h:Rel w0 base nt loc s a w) (ho:o.op = .field S x f) (hS:P.underlying S=some (.struct fs)) (hf:fs[f]? = some g) (hT:TyOk P g.type ag sz) {U:Option TypeId}
  (he:ev (.field g.offset sz ag (opd P U x)) id s=some (true,d,t)):Good P w0 base nt o a w t d:=by
 have hx:=h.opd (P:=P) U x
 simp only[ev] at he
 split at he
 case isFalse=>cases he
 rename_i hagg
 split at he
 ·rename_i z hz
  simp only[Option.some.injEq,Prod.mk.injEq,true_and] at he
  obtain⟨rfl,rfl⟩:=he
  generalize hxv:a.eval x=v at hx
  have key:∀ cs,v = .agg cs→(∃ u,(part g.type cs g.offset).run P w = .ok u w∧RV w (NB base s.m loc w) loc u z)→Good P w0 base nt o a w s z:=by
   rintro cs rfl ⟨u,hu1,hu2⟩
   refine good_same h (v:=u) ?_ hu2
   simp[execOp,ho,hxv,Instr.field,run_underlying hS,hf,asAgg,hu1]
  generalize (opd P U x).ev s.r=X at hx hz hagg
  cases hx with
  | p _ e hV =>
   simp only[AV.part,Option.map_eq_some_iff] at hz
   obtain⟨q,hq,rfl⟩:=hz
   cases hV with
   | agg cs l h1 h2 h3 =>
    refine key cs rfl ?_
    obtain⟨u,hu1,hu2⟩:=partD_V (P:=P) h1 h2 h3 hT hq
    exact⟨u,hu1,.p _ _ hu2⟩
   | _=>simp[AV.isAgg,D.isAgg] at hagg
  | agg cs l h1 h2 h3=>exact key cs rfl (partA_RV h1 h2 h3 hT hz)
  | _=>simp[AV.isAgg] at hagg
 ·cases he
theorem sim_fieldAddr {S:TypeId} {x:Operand} {f:Nat} {fs:Array Field} {g:Field} {ag:Bool} {sz:Nat} (h:Rel w0 base nt loc s a w) (ho:o.op = .fieldAddr S x f) (hS:P.underlying S=some (.struct fs)) (hf:fs[f]? = some g) (hT:TyOk P g.type ag sz) (hz:sz≠0) {U:Option TypeId}
  (he:ev (.fieldAddr g.offset sz ag (opd P U x)) id s=some (true,d,t)):Good P w0 base nt o a w t d:=by
 have hx:=h.opd (P:=P) U x
 have run:∀ b p,a.eval x = .pointer (some ⟨b,p,none⟩)→(execOp a.eval o).run P w = .ok (.value (.pointer (some ⟨b,p+g.offset,none⟩))) w:=by
  intro b p hv
  simp[execOp,ho,hv,Instr.fieldAt,run_underlying hS,hf,Instr.sureAddr,fieldPlace,run_sizeOf hT,hz,add_mid]
 simp only[ev] at he
 split at he
 ·rename_i i j p hk
  simp only[Option.some.injEq,Prod.mk.injEq,true_and] at he
  obtain⟨rfl,rfl⟩:=he
  rw[hk] at hx
  generalize hxv:a.eval x=v at hx
  cases hx with
  | ptr L _ _ _ hL hn =>
  refine good_same h (run _ _ hxv) ?_
  rw[show L.o+(j*L.sz+p)+g.offset=L.o+(j*L.sz+(p+g.offset)) by omega]
  exact .ptr L _ _ _ hL hn
 ·rename_i e hk
  split at he
  ·rename_i q hq
   simp only[Option.some.injEq,Prod.mk.injEq,true_and] at he
   obtain⟨rfl,rfl⟩:=he
   rw[hk] at hx
   have hx:=hx.inv
   generalize hxv:a.eval x=v at hx
   cases hx with
   | ref b p T' _ c fr g1 g2 g0 g3 g4 =>
   refine good_same h (run _ _ hxv) (.p _ _ ?_)
   unfold D.part partD at hq
   cases ag with
   | true =>
    simp only[if_true] at hq
    split at hq
    ·rename_i hle
     simp only[Option.some.injEq] at hq
     subst hq
     have idx:∀ j e',((e.cells.drop g.offset).take sz)[j]? = some e'→e.cells[g.offset+j]? = some e':=by
      intro j e' hj
      have hlt:j<sz:=by have:=(List.getElem?_eq_some_iff.1 hj).1;simp at this;omega
      rw[List.getElem?_take_of_lt hlt,List.getElem?_drop] at hj
      exact hj
     refine .ref b _ T' _ c fr g1 g2 (fun q' hq'=>g0 q' (List.mem_of_mem_drop (List.mem_of_mem_take hq'))) (fun j e' hj => ?_) (fun j e' hj => ?_)
     ·have:=g3 _ e' (idx j e' hj);omega
     ·have:=g4 _ e' (idx j e' hj)
      rwa[←Nat.add_assoc] at this
    ·cases hq
   | false =>
    simp only[Bool.false_eq_true,if_false] at hq
    have h1:=g0 q (List.mem_of_getElem? hq)
    have hc:q.cells=[q]:=by cases q<;>first | rfl | simp[D.one] at h1
    refine .ref b _ T' _ c fr g1 g2 (fun q' hq'=>by rw[hc] at hq';simp at hq';subst hq';exact h1) (fun j e' hj => ?_) (fun j e' hj => ?_)
    ·rw[hc] at hj
     match j,hj with
     | 0,hj=>simp at hj;subst hj;have:=g3 _ q hq;omega
     | j+1,hj=>simp at hj
    ·rw[hc] at hj
     match j,hj with
     | 0,hj=>simp at hj;subst hj;exact g4 _ q hq
     | j+1,hj=>simp at hj
  ·cases he
 ·cases he
theorem asI_eval {x:Operand} {U:Option TypeId} {n:Int} (h:Rel w0 base nt loc s a w) (hi:asI ((opd P U x).ev s.r)=some n):∃ k,a.eval x = .int k n:=by
 have hx:=h.opd (P:=P) U x
 generalize (opd P U x).ev s.r=X at hx hi
 generalize a.eval x=v at hx ⊢
 cases hx with
 | p v e hV=>cases hV<;>simp[asI] at hi;subst hi;exact⟨_,rfl⟩
 | _=>simp[asI] at hi
theorem ref_part {N:Nat→Prop} {b p:Nat} {e q:D} {off sz:Nat} {ag:Bool} (hV:V w N (.pointer (some ⟨b,p,none⟩)) (.ref e)) (hq:e.part off sz ag=some q):V w N (.pointer (some ⟨b,p+off,none⟩)) (.ref q):=by
 cases hV with
 | ref b p T' _ c fr g1 g2 g0 g3 g4 =>
 unfold D.part partD at hq
 cases ag with
 | true =>
  simp only[if_true] at hq
  split at hq
  ·rename_i hle
   simp only[Option.some.injEq] at hq
   subst hq
   have idx:∀ j e',((e.cells.drop off).take sz)[j]? = some e'→e.cells[off+j]? = some e':=by
    intro j e' hj
    have hlt:j<sz:=by have:=(List.getElem?_eq_some_iff.1 hj).1;simp at this;omega
    rw[List.getElem?_take_of_lt hlt,List.getElem?_drop] at hj
    exact hj
   refine .ref b _ T' _ c fr g1 g2 (fun q' hq'=>g0 q' (List.mem_of_mem_drop (List.mem_of_mem_take hq'))) (fun j e' hj => ?_) (fun j e' hj => ?_)
   ·have:=g3 _ e' (idx j e' hj);omega
   ·have:=g4 _ e' (idx j e' hj)
    rwa[←Nat.add_assoc] at this
  ·cases hq
 | false =>
  simp only[Bool.false_eq_true,if_false] at hq
  have h1:=g0 q (List.mem_of_getElem? hq)
  have hc:q.cells=[q]:=by cases q<;>first | rfl | simp[D.one] at h1
  refine .ref b _ T' _ c fr g1 g2 (fun q' hq'=>by rw[hc] at hq';simp at hq';subst hq';exact h1) (fun j e' hj => ?_) (fun j e' hj => ?_)
  ·rw[hc] at hj
   match j,hj with
   | 0,hj=>simp at hj;subst hj;have:=g3 _ q hq;omega
   | j+1,hj=>simp at hj
  ·rw[hc] at hj
   match j,hj with
   | 0,hj=>simp at hj;subst hj;exact g4 _ q hq
   | j+1,hj=>simp at hj
theorem sim_indexAddrA {T E:TypeId} {n:Nat} {x i:Operand} {ag:Bool} {sz:Nat} (h:Rel w0 base nt loc s a w) (ho:o.op = .indexAddr T x i) (hS:P.underlying T=some (.array n E)) (hT:TyOk P E ag sz) {U W:Option TypeId}
  (he:ev (.indexAddrA n sz ag (opd P U x) (opd P W i)) id s=some (true,d,t)):Good P w0 base nt o a w t d:=by
 have hx:=h.opd (P:=P) U x
 simp only[ev] at he
 have run:∀ b p q (m:Nat),a.eval x = .pointer (some ⟨b,p,none⟩)→(∃ k,a.eval i = .int k q)→q=(m:Int)→m<n→(execOp a.eval o).run P w = .ok (.value (.pointer (some ⟨b,p+m*sz,none⟩))) w:=by
  rintro b p q m hv ⟨k,hi⟩ rfl hlt
  simp[execOp,ho,hv,hi,Instr.indexAt,Instr.sureAddr,asIntOf,run_underlying hS,hlt,run_sizeOf hT,add_mid]
 split at he
 ·rename_i j k off q hk hn
  simp only[Option.some.injEq,Prod.mk.injEq,decide_eq_true_eq] at he
  obtain⟨⟨hn0,hn1⟩,rfl,rfl⟩:=he
  rw[hk] at hx
  have hi:=asI_eval h hn
  generalize hxv:a.eval x=v at hx
  obtain⟨m,rfl⟩:=Int.eq_ofNat_of_zero_le hn0
  cases hx with
  | ptr L _ _ _ hL hnil =>
  refine good_same h (run _ _ _ m hxv hi rfl (by omega)) ?_
  rw[Int.toNat_natCast,show L.o+(k*L.sz+off)+m*sz=L.o+(k*L.sz+(off+m*sz)) by omega]
  exact .ptr L _ _ _ hL hnil
 ·rename_i e q hk hn
  split at he
  ·rename_i f hf
   simp only[Option.some.injEq,Prod.mk.injEq,decide_eq_true_eq] at he
   obtain⟨⟨hn0,hn1⟩,rfl,rfl⟩:=he
   rw[hk] at hx
   have hx:=hx.inv
   have hi:=asI_eval h hn
   generalize hxv:a.eval x=v at hx
   obtain⟨m,rfl⟩:=Int.eq_ofNat_of_zero_le hn0
   have hx2:=hx
   cases hx with
   | ref b p T' _ c fr g1 g2 g0 g3 g4 =>
   rw[Int.toNat_natCast] at hf
   exact good_same h (run _ _ _ m hxv hi rfl (by omega)) (.p _ _ (ref_part hx2 hf))
  ·cases he
 ·cases he
theorem sim_indexA {T E:TypeId} {n:Nat} {x i:Operand} {ag:Bool} {sz:Nat} (h:Rel w0 base nt loc s a w) (ho:o.op = .index T x i) (hS:P.underlying T=some (.array n E)) (hT:TyOk P E ag sz) {U W:Option TypeId}
  (he:ev (.indexA n sz ag (opd P U x) (opd P W i)) id s=some (true,d,t)):Good P w0 base nt o a w t d:=by
 have hx:=h.opd (P:=P) U x
 simp only[ev] at he
 split at he
 case h_2=>cases he
 rename_i q hn
 split at he
 case isFalse=>cases he
 rename_i hagg
 split at he
 case h_2=>cases he
 rename_i z hz
 simp only[Option.some.injEq,Prod.mk.injEq,decide_eq_true_eq] at he
 obtain⟨⟨hn0,hn1⟩,rfl,rfl⟩:=he
 obtain⟨k,hi⟩:=asI_eval h hn
 obtain⟨m,rfl⟩:=Int.eq_ofNat_of_zero_le hn0
 have hmn:m<n:=by omega
 rw[Int.toNat_natCast] at hz
 generalize hxv:a.eval x=v at hx
 have key:∀ cs,v = .agg cs→(∃ u,(part E cs (m*sz)).run P w = .ok u w∧RV w (NB base s.m loc w) loc u z)→Good P w0 base nt o a w s z:=by
  rintro cs rfl ⟨u,hu1,hu2⟩
  refine good_same h (v:=u) ?_ hu2
  simp[execOp,ho,hxv,hi,Instr.index,asIntOf,run_underlying hS,hmn,run_sizeOf hT,hu1]
 generalize (opd P U x).ev s.r=X at hx hz hagg
 cases hx with
 | p _ e hV =>
  simp only[AV.part,Option.map_eq_some_iff] at hz
  obtain⟨q,hq,rfl⟩:=hz
  cases hV with
  | agg cs l h1 h2 h3 =>
   refine key cs rfl ?_
   obtain⟨u,hu1,hu2⟩:=partD_V (P:=P) h1 h2 h3 hT hq
   exact⟨u,hu1,.p _ _ hu2⟩
  | _=>simp[AV.isAgg,D.isAgg] at hagg
 | agg cs l h1 h2 h3=>exact key cs rfl (partA_RV h1 h2 h3 hT hz)
 | _=>simp[AV.isAgg] at hagg
theorem sim_indexAddr {T E:TypeId} {x i:Operand} {ag:Bool} {sz:Nat} (h:Rel w0 base nt loc s a w) (ho:o.op = .indexAddr T x i) (hS:P.underlying T=some (.slice E)) (hT:TyOk P E ag sz) {U W:Option TypeId}
  (he:ev (.indexAddr sz (opd P U x) (opd P W i)) id s=some (true,d,t)):Good P w0 base nt o a w t d:=by
 have hx:=h.opd (P:=P) U x
 simp only[ev] at he
 have run:∀ b p n (m:Nat) len cap,a.eval x = .slice (some ⟨b,p,none⟩) len cap→(∃ k,a.eval i = .int k n)→n=(m:Int)→m<len→(execOp a.eval o).run P w = .ok (.value (.pointer (some ⟨b,p+m*sz,none⟩))) w:=by
  rintro b p n m len cap hv ⟨k,hi⟩ rfl hlt
  simp[execOp,ho,hv,hi,Instr.indexAt,asIntOf,run_underlying hS,hlt,run_sizeOf hT,add_mid]
 split at he
 ·rename_i T' sz' l n hk hn
  split at he
  ·rename_i hsz
   subst hsz
   simp only[Option.some.injEq,Prod.mk.injEq,decide_eq_true_eq] at he
   obtain⟨⟨hn0,hn1⟩,rfl,rfl⟩:=he
   rw[hk] at hx
   have hx:=hx.inv
   have hi:=asI_eval h hn
   generalize hxv:a.eval x=v at hx
   obtain⟨m,rfl⟩:=Int.eq_ofNat_of_zero_le hn0
   cases hx with
   | empty=>simp at hn1;omega
   | list b p cap _ _ _ c fr g1 g2 g3 g4 g5 g6 g7 =>
   obtain⟨T',g1,-⟩:=g1
   have hml:m<l.length:=by omega
   refine good_same h (run b p _ m _ _ hxv hi rfl hml) (.p _ _ ?_)
   have hlm:l[m]? = some (l.getD m default):=by simp[hml]
   rw[Int.toNat_natCast]
   refine .ref b _ T' _ c fr g1 g2 (g5 _ (List.mem_of_getElem? hlm)).2 (fun j e' hj => ?_) (fun j e' hj => ?_)
   ·have:=g6 m _ j e' hlm hj;omega
   ·have:=g7 m _ j e' hlm hj
    rwa[←Nat.add_assoc] at this
  ·cases he
 ·rename_i j off len n hk hn
  split at he
  ·rename_i ob hob
   split at he
   ·rename_i hsz
    subst hsz
    simp only[Option.some.injEq,Prod.mk.injEq,decide_eq_true_eq] at he
    obtain⟨⟨hn0,hn1⟩,rfl,rfl⟩:=he
    rw[hk] at hx
    have hi:=asI_eval h hn
    generalize hxv:a.eval x=v at hx
    obtain⟨m,rfl⟩:=Int.eq_ofNat_of_zero_le hn0
    cases hx with
    | sliceEmp=>simp at hn1;omega
    | slice L _ _ _ cap hL hnil h3 h4 h5 =>
    obtain⟨L',hL',hok⟩:=h.objs j ob hob
    rw[hL] at hL'
    cases hL'
    refine good_same h (run _ _ _ m _ _ hxv hi rfl (by omega)) ?_
    rw[Int.toNat_natCast,show L.o+off*L.sz+m*ob.sz=L.o+((off+m)*L.sz+0) by rw[←hok.sz,Nat.add_mul];omega]
    exact .ptr L _ _ _ hL hnil
   ·cases he
  ·cases he
 ·rename_i j off len n hk hn
  split at he
  ·rename_i hsz
   subst hsz
   simp only[Option.some.injEq,Prod.mk.injEq,decide_eq_true_eq] at he
   obtain⟨⟨hn0,hn1⟩,rfl,rfl⟩:=he
   rw[hk] at hx
   have hi:=asI_eval h hn
   generalize hxv:a.eval x=v at hx
   obtain⟨m,rfl⟩:=Int.eq_ofNat_of_zero_le hn0
   cases hx with
   | arrEmp=>simp at hn1;omega
   | arr L _ _ _ cap hL hnil h3 h4 h5 =>
   refine good_same h (run _ _ _ m _ _ hxv hi rfl (by omega)) ?_
   rw[Int.toNat_natCast,show L.o+off+m*1=L.o+(0*L.sz+(off+m)) by omega]
   exact .ptr L _ _ _ hL hnil
  ·cases he
 ·cases he
theorem sim_index {T:TypeId} {x i:Operand} (h:Rel w0 base nt loc s a w) (ho:o.op = .index T x i) (hS:P.underlying T=some .string) {U W:Option TypeId}
  (he:ev (.index (opd P U x) (opd P W i)) id s=some (true,d,t)):Good P w0 base nt o a w t d:=by
 have hx:=h.opd (P:=P) U x
 simp only[ev] at he
 split at he
 ·rename_i l n hk hn
  simp only[Option.some.injEq,Prod.mk.injEq,decide_eq_true_eq] at he
  obtain⟨⟨hn0,hn1⟩,rfl,rfl⟩:=he
  rw[hk] at hx
  have hx:=hx.inv
  obtain⟨k,hi⟩:=asI_eval h hn
  obtain⟨m,rfl⟩:=Int.eq_ofNat_of_zero_le hn0
  generalize hxv:a.eval x=v at hx
  cases hx with
  | str q =>
  have hlt:m<q.size:=by have:q.data.size=q.size:=rfl;simp at hn1;omega
  refine good_same h (v:=.int .u8 (q[m].toNat:Int)) ?_ ?_
  ·have:q[m]? = some q[m]:=by simp[hlt]
   simp[execOp,ho,hxv,hi,Instr.index,asIntOf,run_underlying hS,this]
  ·rw[Int.toNat_natCast]
   have hg:q.data.toList.getD m 0=q[m]:=by
    have:q.data.size=q.size:=rfl
    simp[this,hlt]
    rfl
   rw[hg]
   exact .p _ _ (.int _ _)
 ·cases he
theorem sim_extract {x:Operand} {i:Nat} (h:Rel w0 base nt loc s a w) (ho:o.op = .extract x i) {U:Option TypeId}
  (he:ev (.extract (opd P U x) i) id s=some (true,d,t)):Good P w0 base nt o a w t d:=by
 have hx:=h.opd (P:=P) U x
 simp only[ev] at he
 split at he
 ·rename_i l hk
  simp only[Option.map_eq_some_iff,Prod.mk.injEq,true_and] at he
  obtain⟨e,hl,rfl,rfl⟩:=he
  rw[hk] at hx
  have hx:=hx.inv
  generalize hxv:a.eval x=v at hx
  cases hx with
  | tup cs _ h1 h2 =>
  refine good_same h (v:=cs.getD i undef) ?_ (.p _ _ (h2 i e hl))
  have hlt:=(List.getElem?_eq_some_iff.1 hl).1
  have:cs[i]? = some (cs.getD i undef):=by simp[h1,hlt]
  simp only[execOp,ho,hxv,Instr.extract,this]
  simp
 ·rename_i l hk
  simp only[Option.map_eq_some_iff,Prod.mk.injEq,true_and] at he
  obtain⟨e,hl,rfl,rfl⟩:=he
  rw[hk] at hx
  generalize hxv:a.eval x=v at hx
  cases hx with
  | tup cs _ h1 h2 =>
  refine good_same h (v:=cs.getD i undef) ?_ (h2 i e hl)
  have hlt:=(List.getElem?_eq_some_iff.1 hl).1
  have:cs[i]? = some (cs.getD i undef):=by simp[h1,hlt]
  simp only[execOp,ho,hxv,Instr.extract,this]
  simp
 ·cases he
end
end Go.Proofs.Ytlnhembcfhfpkaa.M
