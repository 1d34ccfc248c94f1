/- Lemmas. -/
import Derived.Test.YtdchbabgopglcaaC6
import Derived.Laws.MakeOwn
namespace Go.Proofs.Ytdchbabgopglcaa.M
open Go.RowKit
section
variable {P:Program}{w0:World}{base:Bs}{nt:Nat}{loc:aU}{s t:St}{a:Act}{w:World}{o:Oper}{id:Nat}{d:AV}
theorem QF {T:TypeId}{x:Operand}{lo hi:Option Operand} (h:Rel w0 base nt loc s a w) (ho:o.op = .slice T x lo hi none) (hu:P.underlying T=some .string){U:Option TypeId}
  (he:ev (.sliceS (opd P U x) (lo.map (opd P none)) (hi.map (opd P none))) id s=some (true,d,t)):aK P w0 base nt o a w t d:=by
 have hx:=h.opd (P:=P) U x;simp only[ev] at he;split at he
 case h_2=>cases he
 rename_i q hk;split at he
 case h_2=>cases he
 rename_i c l n hb;simp only[Option.some.injEq,Prod.mk.injEq] at he;obtain⟨hc,rfl,rfl⟩:=he;rw[hk] at hx;have hx:=hx.inv;generalize hxv:a.eval x=v at hx;cases hx with
 |str q =>
 have hsz:q.data.toList.length=q.size:=by simp
 rw[hsz] at hb;obtain⟨m,hr,h1,h2,h3,h4⟩:=dX (P:=P) (mx:=none) false h (Nat.le_refl _) (by simp) hc hb;simp only[Option.map_none] at hr;have e:((q.data.toList.drop l).take (n-l))=(q.extract l n).data.toList:=by
  simp[ByteArray.data_extract]
 rw[e];refine aP h (v:=.string (q.extract l n)) ?_ (.p _ _ (.str _));simp[execOp,ho,hxv,Instr.sliceAt,run_underlying hu,Instr.slice,hr]
theorem QG {T E:TypeId}{ag:Bool}{sz:Nat}{x:Operand}{lo hi mx:Option Operand} (h:Rel w0 base nt loc s a w) (ho:o.op = .slice T x lo hi mx) (hu:P.underlying T=some (.slice E)) (hT:bM P E ag sz) (hm:mx.isSome=true→hi.isSome=true){U:Option TypeId}
  (he:ev (.slice sz (opd P U x) (lo.map (opd P none)) (hi.map (opd P none)) (mx.map (opd P none))) id s=some (true,d,t)):aK P w0 base nt o a w t d:=by
 have hx:=h.opd (P:=P) U x;have run:∀p len cap l n m,a.eval x = .slice p len cap→(Instr.sliceBounds true len cap (lo.map a.eval) (hi.map a.eval) (mx.map a.eval)).run P w = .ok (l,n,m) w →
   (execOp a.eval o).run P w = .ok (.value (.slice (if m=l then p else p.map (·.add (l*sz))) (n-l) (m-l))) w:=by
  intro p len cap l n m hv hr;simp[execOp,ho,hv,Instr.sliceAt,run_underlying hu,Instr.slice,hr,cL hT]
 simp only[ev] at he;split at he
 ·rename_i T' sz' q hk;split at he
  case isFalse=>cases he
  rename_i hsz;subst hsz;split at he
  case h_2=>cases he
  rename_i c l n hb;simp only[Option.some.injEq,Prod.mk.injEq] at he;obtain⟨hc,rfl,rfl⟩:=he;rw[hk] at hx;have hx:=hx.inv;generalize hxv:a.eval x=v at hx;cases hx with
  |empty p cap _ _ hcap =>
   obtain⟨m,hr,h1,h2,h3,h4⟩:=dX (P:=P) true h (Nat.zero_le cap) hm hc hb;refine aP h (run _ _ _ _ _ _ hxv hr) (.p _ _ ?_);have:n-l=0:=by omega
   simp only[List.drop_nil,List.take_nil,this];exact .empty _ _ _ _ (by omega)
  |list b p cap _ _ _ c' fr g1 g2 g3 g4 g5 g6 g7 =>
   obtain⟨m,hr,h1,h2,h3,h4⟩:=dX (P:=P) true h g3 hm hc hb;refine aP h (run _ _ _ _ _ _ hxv hr) (.p _ _ ?_);have hlen:((q.drop l).take (n-l)).length=n-l:=by simp;omega
   by_cases hml:m=l
   ·have h0:n-l=0:=by omega
    simp only[h0,List.take_zero];exact .empty _ _ _ _ (by omega)
   ·rw[if_neg hml];simp only[Option.map_some,de];have idx:∀i e,((q.drop l).take (n-l))[i]? = some e→q[l+i]? = some e:=by
     intro i e hi;have hlt:i<n-l:=by have:=(List.getElem?_eq_some_iff.1 hi).1;omega
     rw[List.getElem?_take_of_lt hlt,List.getElem?_drop] at hi;exact hi
    have:=V.list (w:=w) (N:=NB base s.m loc w) b (p+l*sz) (m-l) T' sz ((q.drop l).take (n-l)) c' fr g1 g2 (by omega) (by omega) (fun e he=>g5 e (List.mem_of_mem_drop (List.mem_of_mem_take he)))
     (fun i e j d hi hj=>by have:=g6 (l+i) e j d (idx i e hi) hj;rw[Nat.add_mul] at this;omega)
     (fun i e j d hi hj=>by have:=g7 (l+i) e j d (idx i e hi) hj;rw[show p+((l+i)*sz+j)=p+l*sz+(i*sz+j) by rw[Nat.add_mul];omega] at this;exact this)
    rw[hlen] at this;exact this
 ·rename_i i off len hk;split at he
  case h_2=>cases he
  rename_i ob hob;split at he
  case isFalse=>cases he
  rename_i hsz;subst hsz;split at he
  case h_2=>cases he
  rename_i c l n hb;simp only[Option.some.injEq,Prod.mk.injEq] at he;obtain⟨hc,rfl,rfl⟩:=he;rw[hk] at hx;generalize hxv:a.eval x=v at hx;cases hx with
  |sliceEmp L _ _ p hL =>
   obtain⟨m,hr,h1,h2,h3,h4⟩:=dX (P:=P) true h (Nat.le_refl 0) hm hc hb;refine aP h (run _ _ _ _ _ _ hxv hr) ?_;rw[show n-l=0 by omega,show m-l=0 by omega];exact .sliceEmp L _ _ _ hL
  |slice L _ _ _ cap hL hn h3 h4 h5 =>
   obtain⟨m,hr,h1,h2,h3',h4'⟩:=dX (P:=P) true h h3 hm hc hb;obtain⟨L',hL',hok⟩:=h.objs i ob hob;rw[hL] at hL';cases hL';refine aP h (run _ _ _ _ _ _ hxv hr) ?_;by_cases hml:m=l
   ·rw[show n-l=0 by omega,show m-l=0 by omega];exact .sliceEmp L _ _ _ hL
   ·rw[if_neg hml];simp only[Option.map_some,de];have hs:=hok.sz;rw[show L.o+off*L.sz+l*ob.sz=L.o+(off+l)*L.sz by rw[hs,Nat.add_mul];omega];have hmul:l*L.sz+(m-l)*L.sz≤cap*L.sz:=by
     rw[←Nat.add_mul];exact Nat.mul_le_mul_right _ (by omega)
    exact .slice L _ _ _ _ hL hn (by omega) (by omega) (by rw[Nat.add_mul];omega)
 ·rename_i T' sz' hk;split at he
  case h_2=>cases he
  rename_i c l n hb;simp only[Option.some.injEq,Prod.mk.injEq] at he;obtain⟨hc,rfl,rfl⟩:=he;rw[hk] at hx;generalize hxv:a.eval x=v at hx;cases hx;obtain⟨m,hr,h1,h2,h3,h4⟩:=dX (P:=P) true h (Nat.le_refl 0) hm hc hb;refine aP h (run _ _ _ _ _ _ hxv hr) ?_;obtain rfl:l=0:=by omega
  obtain rfl:n=0:=by omega
  obtain rfl:m=0:=by omega
  exact .nils _ _
 ·rename_i T' sz' hk;split at he
  case h_2=>cases he
  rename_i c l n hb;simp only[Option.some.injEq,Prod.mk.injEq] at he;obtain⟨hc,rfl,rfl⟩:=he;rw[hk] at hx;have hx:=hx.inv;generalize hxv:a.eval x=v at hx;cases hx;obtain⟨m,hr,h1,h2,h3,h4⟩:=dX (P:=P) true h (Nat.le_refl 0) hm hc hb;refine aP h (run _ _ _ _ _ _ hxv hr) ?_;obtain rfl:l=0:=by omega
  obtain rfl:n=0:=by omega
  obtain rfl:m=0:=by omega
  exact .nils _ _
 ·rename_i i off len hk;split at he
  case isFalse=>cases he
  rename_i hsz;subst hsz;split at he
  case h_2=>cases he
  rename_i c l n hb;simp only[Option.some.injEq,Prod.mk.injEq] at he;obtain⟨hc,rfl,rfl⟩:=he;rw[hk] at hx;generalize hxv:a.eval x=v at hx;cases hx with
  |arrEmp L _ _ p hL =>
   obtain⟨m,hr,h1,h2,h3,h4⟩:=dX (P:=P) true h (Nat.le_refl 0) hm hc hb;refine aP h (run _ _ _ _ _ _ hxv hr) ?_;rw[show n-l=0 by omega,show m-l=0 by omega];exact .arrEmp L _ _ _ hL
  |arr L _ _ _ cap hL hn h3 h4 h5 =>
   obtain⟨m,hr,h1,h2,h3',h4'⟩:=dX (P:=P) true h h3 hm hc hb;refine aP h (run _ _ _ _ _ _ hxv hr) ?_;by_cases hml:m=l
   ·rw[show n-l=0 by omega,show m-l=0 by omega];exact .arrEmp L _ _ _ hL
   ·rw[if_neg hml];simp only[Option.map_some,de];rw[show L.o+off+l*1=L.o+(off+l) by omega];exact .arr L _ _ _ _ hL hn (by omega) (by omega) (by omega)
 ·cases he
theorem gQ {T:TypeId}{l:List D}{ag:Bool}{sz:Nat} (hz:ZOk P T l ag sz):∃z:Value,(zeroValue T).run P w = .ok z w∧z.cells.size=sz∧l.length=sz∧(∀i d,l[i]? = some d→d.one=true∧∀(w:World) (N:Nat→Prop),V w N (z.cells.getD i undef) d)∧(z.cells.size=1→z.cells.getD 0 undef=z.cells.getD 0 undef):=by
 obtain⟨i,z,h1,h2,h3,h4,h5,h6⟩:=hz;obtain⟨g1,g2⟩:=gX h4;refine⟨z,by simp[zeroValue,typeInfo,h1,h2],by simpa[h5] using g1,h5,fun j d hj => ?_,fun _=>rfl⟩;obtain⟨k1,k2⟩:=g2 j d hj;refine⟨k1,fun w N => ?_⟩;have:=k2 w N;simpa using this
theorem QH {v:Value}{T:TypeId}{sz:Nat} (h:i6 v (.list T sz [])=true):v = .slice none 0 0:=by
 unfold i6 at h;split at h<;>simp_all
theorem QI {T:TypeId}{l:List D}{ag:Bool}{sz:Nat} (hz:ZOk P T l ag sz) (h1:∀e∈(ej l ag).cells,e.one=true){z:Value} (hr:(zeroValue T).run P w = .ok z w) (N:Nat→Prop) :
  ∀i e,(ej l ag).cells[i]? = some e→RV w N loc (z.cells.getD i undef) e:=by
 obtain⟨i,z',g1,g2,g3,g4,g5,g6⟩:=hz;have hzz:z'=z:=by
  have:(zeroValue T).run P w = .ok z' w:=by simp[zeroValue,typeInfo,g1,g2]
  rw[this] at hr;injection hr
 subst hzz;obtain⟨k1,k2⟩:=gX g4;have hV:∀j d,l[j]? = some d→V w N (z'.cells.getD j undef) d:=fun j d hj=>by
  have:=(k2 j d hj).2 w N;simpa using this
 intro j e hj;unfold ej at hj h1;split at hj
 ·simp only[AV.cells,D.cells,List.getElem?_map,Option.map_eq_some_iff] at hj;obtain⟨d,hd,rfl⟩:=hj;exact .p _ _ (hV j d hd)
 ·rename_i hag;rw[if_neg hag] at h1;split at hj
  ·rename_i T' sz'
   match j,hj with
   |0,hj =>
    simp[AV.cells] at hj;subst hj;have:z'.cells.toList.length=1:=k1;generalize hzl:z'.cells.toList=zl at g4 this
    match zl,this with
    |[v],_ =>
     have hv:z'.cells.getD 0 undef=v:=by
      have:z'.cells = #[v]:=by rw[←Array.toList_inj];exact hzl
      simp[this]
     rw[hv];simp only[fy,Bool.and_true] at g4;rw[QH g4];exact .nils _ _
   |j+1,hj=>simp[AV.cells] at hj
  ·rename_i d hne;simp only[AV.cells,List.getElem?_map,Option.map_eq_some_iff] at hj h1;obtain⟨q,hq,rfl⟩:=hj;have ho:=h1 (.p q) (List.mem_map.2 ⟨q,List.mem_of_getElem? hq,rfl⟩);have hd1:d.one=true:=(k2 0 d rfl).1;have hc:d.cells=[d]:=by cases d<;>first | rfl | simp[D.one] at hd1
   rw[hc] at hq
   match j,hq with
   |0,hq=>simp at hq;subst hq;exact .p _ _ (hV 0 d rfl)
   |j+1,hq=>simp at hq
  ·match j,hj with
   |0,hj=>simp[AV.cells] at hj;subst hj;exact .und _
   |j+1,hj=>simp[AV.cells] at hj
theorem QJ {T:TypeId}{l:List D}{ag:Bool}{sz:Nat} (h:Rel w0 base nt loc s a w) (ho:o.op = .alloc T) (hz:ZOk P T l ag sz)
  (he:ev (.alloc T sz (ej l ag)) id s=some (true,d,t)) (hc:(ej l ag).cells.length=sz) (h1:∀e∈(ej l ag).cells,e.one=true):aK P w0 base nt o a w t d:=by
 simp only[ev] at he;split at he
 case h_2=>cases he
 rename_i hid;simp only[Option.some.injEq,Prod.mk.injEq,true_and] at he;obtain⟨rfl,rfl⟩:=he;obtain⟨z,hr,hsz,-⟩:=gQ (w:=w) hz;have hcells:=QI (loc:=loc) hz h1 hr (NB base s.m loc w);obtain⟨loc',hl,hrel⟩:=h.alloc (T:=T) (c:=z.cells) (k:=.box (ej l ag)) (sz:=sz) hid ⟨by omega,hc,h1,fun j e hj=>by rw[Nat.zero_add];exact hcells j e hj⟩;refine⟨.pointer (some ⟨w.heap.size,0,none⟩),w.alloc (.cells z.cells T),loc',.inl ?_,hrel,?_⟩
 ·simp[execOp,ho,Instr.alloc,hr,newVar,newRow]
 ·have:=RV.ptr (w:=w.alloc (.cells z.cells T)) (N:=NB base (upd s.m id (some ⟨T,sz,.box (ej l ag),false⟩)) loc' (w.alloc (.cells z.cells T))) _ id 0 0 hl rfl;simpa using this
theorem QK {T:TypeId}{sz:Nat}{x:Operand} (h:Rel w0 base nt loc s a w) (ho:o.op = .box T x){U:Option TypeId}
  (he:ev (.box T sz (opd P U x)) id s=some (true,d,t)):aK P w0 base nt o a w t d:=by
 have hx:=h.opd (P:=P) U x;simp only[ev] at he;split at he
 case h_2=>cases he
 rename_i hid;split at he
 case isFalse=>cases he
 rename_i hcond;obtain⟨hc,h1⟩:=hcond;rw[List.all_eq_true] at h1;simp only[Option.some.injEq,Prod.mk.injEq,true_and] at he;obtain⟨rfl,rfl⟩:=he;obtain⟨g1,g2⟩:=hx.cells h1;obtain⟨loc',hl,hrel⟩:=h.alloc (T:=T) (c:=(a.eval x).cells) (k:=.box ((opd P U x).ev s.r)) (sz:=sz) hid ⟨by omega,hc,h1,fun j e hj=>by rw[Nat.zero_add];exact g2 j e hj⟩;refine⟨.pointer (some ⟨w.heap.size,0,none⟩),w.alloc (.cells (a.eval x).cells T),loc',.inl ?_,hrel,?_⟩
 ·simp[execOp,ho,Instr.box,newVar,newRow]
 ·have:=RV.ptr (w:=w.alloc (.cells (a.eval x).cells T)) (N:=NB base (upd s.m id (some ⟨T,sz,.box ((opd P U x).ev s.r),false⟩)) loc' (w.alloc (.cells (a.eval x).cells T))) _ id 0 0 hl rfl;simpa using this
theorem QL {T E:TypeId}{l:List D}{ag:Bool}{sz bytes:Nat}{x y:Operand} (h:Rel w0 base nt loc s a w) (ho:o.op = .makeSlice T x y) (hu:P.underlying T=some (.slice E)) (hz:ZOk P E l ag sz){i:TypeInfo} (hi:P.info? E=some i) (hb:i.bytes=bytes){U W:Option TypeId}
  (he:ev (.makeSlice E sz bytes (if ag then .agg l else l.headD default) (opd P U x) (opd P W y)) id s=some (true,d,t)):aK P w0 base nt o a w t d:=by
 simp only[ev] at he;split at he
 case h_2=>cases he
 rename_i hid;split at he
 case h_2=>cases he
 rename_i n m hn hm;simp only[Option.some.injEq,Prod.mk.injEq,decide_eq_true_eq] at he;obtain⟨⟨h0,rfl,h2,h3⟩,rfl,rfl⟩:=he;obtain⟨k1,hx⟩:=cY h hn;obtain⟨k2,hy⟩:=cY h hm;obtain⟨q,rfl⟩:=Int.eq_ofNat_of_zero_le h0;obtain⟨z,hr,hsz,hl,hcell,-⟩:=gQ (w:=w) hz;have hcl:(if ag then D.agg l else l.headD default).cells=l:=by
  cases ag with
  |true=>rfl
  |false =>
   have:sz=1:=by obtain⟨_,_,_,_,_,_,_,h6⟩:=hz;exact h6 rfl
   match l,hl with
   |[e],_ =>
    have:=(hcell 0 e rfl).1;cases e<;>first | rfl | simp[D.one] at this
   |[],hl=>simp at hl;omega
   |_::_::_,hl=>simp at hl;omega
 have hTy:bM P E ag sz:=by obtain⟨_,_,_,_,h3,_⟩:=hz;exact h3
 obtain⟨loc',hl',hrel⟩:=h.alloc (T:=E) (c:=(madeCells z.cells (q*sz))) (k:=.row (List.replicate q (if ag then D.agg l else l.headD default))) (sz:=sz) hid (by
  refine⟨by simp[madeCells],fun e he => ?_,fun i e j d hi hj => ?_⟩
  ·rw[List.eq_of_mem_replicate he,hcl,hl]
  ·have hiq:i<q:=by have:=(List.getElem?_eq_some_iff.1 hi).1;simpa using this
   have he:=List.eq_of_mem_replicate (List.mem_of_getElem? hi);rw[he,hcl] at hj;have hjl:j<sz:=by have:=(List.getElem?_eq_some_iff.1 hj).1;omega
   obtain⟨g1,g2⟩:=hcell j d hj;refine⟨g1,?_⟩;have hlt:i*sz+j<q*sz:=by
    have:=Nat.mul_le_mul_right sz (show i+1≤q by omega);rw[Nat.add_mul] at this;omega
   have hmod:(i*sz+j) % sz=j:=by rw[Nat.add_comm,Nat.add_mul_mod_self_right];exact Nat.mod_eq_of_lt hjl
   have:=g2 w (NB base s.m loc w);simp only[Nat.zero_add,Array.getD_eq_getD_getElem?] at this ⊢;simp[madeCells,hlt,hsz,hmod];simpa[hsz,hjl] using this)
 refine⟨.slice (some ⟨w.heap.size,0,none⟩) q q,w.alloc (.cells (madeCells z.cells (q*sz)) E),loc',.inl ?_,hrel,?_⟩
 ·obtain⟨i',z',g1,g2,g3,_⟩:=hz;rw[hi] at g1;cases g1;have hzz:z'=z:=by
   have:(zeroValue E).run P w = .ok z' w:=by simp[zeroValue,typeInfo,hi,g2]
   rw[this] at hr;injection hr
  subst hzz;have his:i.size=sz:=by obtain⟨_,i2,_,_,h3,h4⟩:=hTy;rw[hi] at h3;cases h3;exact h4
  have:=run_make (P:=P) w T E i z' hu hi g2 k1 k2 (q:Int) (q:Int) (by omega) (by omega) (by rw[hb];omega) (by omega);rw[Int.toNat_natCast,his] at this;simp[execOp,ho,hx,hy,this]
 ·have:=RV.slice (w:=w.alloc (.cells (madeCells z.cells (q*sz)) E)) (N:=NB base (upd s.m id (some ⟨E,sz,.row (List.replicate q (if ag then D.agg l else l.headD default)),false⟩)) loc' (w.alloc (.cells (madeCells z.cells (q*sz)) E))) _ id 0 q q hl' rfl (Nat.le_refl _) (by omega) (by simp[madeCells]);simpa using this
end
section
variable {P:Program}{w0:World}{base:Bs}{nt:Nat}{loc:aU}{s t:St}{a:Act}{w:World}{o:Oper}{id:Nat}{d:AV}
theorem jy {any:Bool}{M:Mem}:∀{n:Nat}{l:List AV}{ds:List D},cK any M n l=some ds→l.length=ds.length∧∀(i:Nat) (e:D),ds[i]? = some e→∃(x:AV) (m:Nat),m<n∧l[i]? = some x∧x.toD any M m=some e
 |0,l,ds,h=>by simp[cK] at h
 |n+1,[],ds,h=>by
  simp only[cK,Option.some.injEq] at h;subst h;exact⟨rfl,fun i d h=>by simp at h⟩
 |n+1,v::l,ds,h=>by
  simp only[cK] at h;split at h
  ·rename_i d ds' h1 h2;simp only[Option.some.injEq] at h;subst h;obtain⟨g1,g2⟩:=jy h2;refine⟨by simp[g1],fun i d' hi => ?_⟩
   match i,hi with
   |0,hi=>simp at hi;subst hi;exact⟨v,n,by omega,rfl,h1⟩
   |i+1,hi =>
    obtain⟨x,m,k1,k2,k3⟩:=g2 i d' (by simpa using hi);exact⟨x,m,by omega,by simpa using k2,k3⟩
  ·cases h
theorem k7 {any:Bool}{M:Mem}{n:Nat}{x:AV}{d:D} (h:x.toD any M n=some d) (h1:x.one=true):d.one=true:=by
 cases n with
 |zero=>simp[AV.toD] at h
 |succ n =>
  cases x with
  |p e=>simp[AV.toD] at h;subst h;exact h1
  |nils T sz=>simp[AV.toD] at h;subst h;rfl
  |slice i off len =>
   simp only[AV.toD] at h;split at h
   ·split at h
    ·split at h
     ·simp only[Option.some.injEq] at h;subst h;rfl
     ·cases h
    ·cases h
   ·cases h
  |ptr i j off =>
   simp only[AV.toD] at h;split at h
   ·split at h
    ·split at h
     ·split at h
      ·simp only[Option.map_eq_some_iff] at h;obtain⟨e,-,rfl⟩:=h;rfl
      ·cases h
     ·cases h
    ·cases h
   ·cases h
  |arr i off len =>
   simp only[AV.toD] at h;split at h
   ·split at h
    ·split at h
     ·simp only[Option.some.injEq] at h;subst h;rfl
     ·cases h
    ·cases h
   ·cases h
  |cell=>simp[AV.toD] at h
  |_=>simp[AV.one] at h1
theorem Fa {any:Bool}{M:Mem}{n:Nat}{x:AV}{d:D} (h:x.toD any M n=some d) (h1:∀e∈x.cells,e.one=true) :
  d.cells.length=x.cells.length∧∀(j:Nat) (e:D),d.cells[j]? = some e→e.one=true∧∃(y:AV) (m:Nat),m≤n∧x.cells[j]? = some y∧y.toD any M m=some e:=by
 cases n with
 |zero=>simp[AV.toD] at h
 |succ n =>
  have single:x.one=true→x.cells=[x]→d.cells.length=x.cells.length∧∀(j:Nat) (e:D),d.cells[j]? = some e→e.one=true∧∃(y:AV) (m:Nat),m≤n+1∧x.cells[j]? = some y∧y.toD any M m=some e:=by
   intro ho hc;have hd:=k7 h ho;have hdc:d.cells=[d]:=by cases d<;>first | rfl | simp[D.one] at hd
   rw[hc,hdc];refine⟨rfl,fun j e hj => ?_⟩
   match j,hj with
   |0,hj=>simp at hj;subst hj;exact⟨hd,x,n+1,Nat.le_refl _,rfl,h⟩
   |j+1,hj=>simp at hj
  cases x with
  |p e =>
   simp[AV.toD] at h;subst h;refine⟨by simp[AV.cells],fun j q hq => ?_⟩;have hm:(AV.p e).cells[j]? = some (.p q):=by simp[AV.cells,hq]
   exact⟨h1 (.p q) (List.mem_of_getElem? hm),.p q,n+1,Nat.le_refl _,hm,by simp[AV.toD]⟩
  |agg l =>
   simp only[AV.toD,Option.map_eq_some_iff] at h;obtain⟨ds,hds,rfl⟩:=h;obtain⟨g1,g2⟩:=jy hds;refine⟨g1.symm,fun j e hj => ?_⟩;obtain⟨y,m,k1,k2,k3⟩:=g2 j e hj;exact⟨k7 k3 (h1 y (List.mem_of_getElem? k2)),y,m,by omega,k2,k3⟩
  |nils T sz=>exact single rfl rfl
  |slice i off len=>exact single rfl rfl
  |ptr i j off=>exact single rfl rfl
  |arr i j off=>exact single rfl rfl
  |cell=>simp[AV.toD] at h
  |und=>simp[AV.cells,AV.one] at h1
  |tup l=>simp[AV.cells,AV.one] at h1
theorem oN {any:Bool}{N':Nat→Prop}{M':Mem} (h:Rel w0 base nt loc s a w) (hM:∀i o,M' i=some o→s.m i=some o) (hN:∀b,NB base s.m loc w b→N' b)
  (hO:∀id o L,M' id=some o→(o.frz||any)=true→loc id=some L→L.nil=false→N' L.b) :
  ∀(n:Nat) (x:AV) (v:Value) (d:D),x.toD any M' n=some d→RV w (NB base s.m loc w) loc v x→V w N' v d:=by
 intro n;induction n using Nat.strongRecOn with
 |_ n ih =>
 intro x v d hd hv;cases n with
 |zero=>simp[AV.toD] at hd
 |succ n =>
 cases hv with
 |und=>simp[AV.toD] at hd
 |cell=>simp[AV.toD] at hd
 |p _ e hV =>
  simp[AV.toD] at hd;subst hd;exact hV.mono (fun _ _=>rfl) hN
 |nils T sz =>
  simp[AV.toD] at hd;subst hd;exact .empty _ _ _ _ (by omega)
 |agg cs l h1 h2 h3 =>
  simp only[AV.toD,Option.map_eq_some_iff] at hd;obtain⟨ds,hds,rfl⟩:=hd;obtain⟨g1,g2⟩:=jy hds;refine .agg _ _ (h1.trans g1) (fun e he => ?_) (fun i e hi => ?_)
  ·obtain⟨i,hi⟩:=List.getElem?_of_mem he;obtain⟨y,m,k1,k2,k3⟩:=g2 i e hi;exact k7 k3 (h2 y (List.mem_of_getElem? k2))
  ·obtain⟨y,m,k1,k2,k3⟩:=g2 i e hi;exact ih m (by omega) y _ e k3 (h3 i y k2)
 |tup cs l h1 h3 =>
  simp only[AV.toD,Option.map_eq_some_iff] at hd;obtain⟨ds,hds,rfl⟩:=hd;obtain⟨g1,g2⟩:=jy hds;refine .tup _ _ (h1.trans g1) (fun i e hi => ?_);obtain⟨y,m,k1,k2,k3⟩:=g2 i e hi;exact ih m (by omega) y _ e k3 (h3 i y k2)
 |slice L i off len cap hL hn h3 h4 h5 =>
  simp only[AV.toD] at hd;split at hd
  case h_2=>cases hd
  rename_i ob hob;split at hd
  case h_2=>cases hd
  rename_i l hcont;split at hd
  case isFalse=>cases hd
  rename_i hc;simp only[Bool.and_eq_true,decide_eq_true_eq] at hc;simp only[Option.some.injEq] at hd;subst hd;obtain⟨L',hL',hok⟩:=h.objs i ob (hM _ _ hob);rw[hL] at hL';cases hL';obtain⟨c,fr,k1,k2,k3,k4,k5⟩:=hok.at_ hn;rw[hcont] at k3;obtain⟨m1,m2,m3⟩:=k3;have hsz:=hok.sz;have hlen:((l.drop off).take len).length=len:=by simp;omega
  have idx:∀j e,((l.drop off).take len)[j]? = some e→l[off+j]? = some e:=by
   intro j e hj;have hlt:j<len:=by have:=(List.getElem?_eq_some_iff.1 hj).1;omega
   rw[List.getElem?_take_of_lt hlt,List.getElem?_drop] at hj;exact hj
  have:=V.list (w:=w) (N:=N') L.b (L.o+off*L.sz) cap ob.T ob.sz ((l.drop off).take len) c fr (.of k1) (hO i ob L hob hc.1 hL hn) (by omega) h4
   (fun e he=>by
    have hm:=List.mem_of_mem_drop (List.mem_of_mem_take he);refine⟨m2 e hm,fun q hq => ?_⟩;obtain⟨p,hp⟩:=List.getElem?_of_mem hm;obtain⟨r,hr⟩:=List.getElem?_of_mem hq;exact (m3 p e r q hp hr).1)
   (fun p e r q hp hr=>by
    have hle:=idx p e hp;have hlt:=(List.getElem?_eq_some_iff.1 hle).1;have hrl:r<ob.sz:=by have:=(List.getElem?_eq_some_iff.1 hr).1;have:=m2 e (List.mem_of_getElem? hle);omega
    have hmul:=Nat.mul_le_mul_right ob.sz (show off+p+1≤l.length by omega);rw[Nat.add_mul,Nat.add_mul] at hmul;rw[hsz];omega)
   (fun p e r q hp hr=>by
    have:=(m3 _ e r q (idx p e hp) hr).2;rw[show L.o+((off+p)*ob.sz+r)=L.o+off*L.sz+(p*ob.sz+r) by rw[hsz,Nat.add_mul];omega] at this;exact this.mono (fun _ _=>rfl) hN)
  rw[hlen] at this;exact this
 |sliceEmp L i off p hL =>
  simp only[AV.toD] at hd;split at hd
  case h_2=>cases hd
  rename_i ob hob;split at hd
  case h_2=>cases hd
  rename_i l hcont;split at hd
  case isFalse=>cases hd
  simp only[List.take_zero,Option.some.injEq] at hd;subst hd;exact .empty _ _ _ _ (by omega)
 |arr L i off len cap hL hn h3 h4 h5 =>
  simp only[AV.toD] at hd;split at hd
  case h_2=>cases hd
  rename_i ob hob;split at hd
  case h_2=>cases hd
  rename_i q hcont;split at hd
  case isFalse=>cases hd
  rename_i hc;simp only[Bool.and_eq_true,decide_eq_true_eq] at hc;simp only[Option.some.injEq] at hd;subst hd;obtain⟨L',hL',hok⟩:=h.objs i ob (hM _ _ hob);rw[hL] at hL';cases hL';obtain⟨c,fr,k1,k2,k3,k4,k5⟩:=hok.at_ hn;rw[hcont] at k3;obtain⟨m1,m2,m3,m4⟩:=k3;have hlen:((q.cells.drop off).take len).length=len:=by simp;omega
  have idx:∀j e,((q.cells.drop off).take len)[j]? = some e→q.cells[off+j]? = some e:=by
   intro j e hj;have hlt:j<len:=by have:=(List.getElem?_eq_some_iff.1 hj).1;omega
   rw[List.getElem?_take_of_lt hlt,List.getElem?_drop] at hj;exact hj
  have hone:∀e∈q.cells,e.one=true:=fun e he=>by
   have:=m3 (.p e) (by simp only[AV.cells,List.mem_map];exact⟨e,he,rfl⟩);exact this
  have hcell:∀e∈q.cells,e.cells=[e]:=fun e he=>by
   have h1:=hone e he;cases e<;>first | rfl | simp[D.one] at h1
  have this:=V.list (w:=w) (N:=N') L.b (L.o+off) cap 1000000 1 ((q.cells.drop off).take len) c fr ⟨_,k1,.inr (Nat.le_refl _)⟩ (hO i ob L hob hc.1.1 hL hn) (by omega) h4
   (fun e he=>by
    have hm:=List.mem_of_mem_drop (List.mem_of_mem_take he);rw[hcell e hm];exact⟨rfl,fun z hz=>by simp at hz;subst hz;exact hone _ hm⟩)
   (fun p e r z hp hr=>by
    have hle:=idx p e hp;have hlt:=(List.getElem?_eq_some_iff.1 hp).1;rw[hcell e (List.mem_of_getElem? hle)] at hr;have hr0:=(List.getElem?_eq_some_iff.1 hr).1;simp only[List.length_singleton] at hr0;omega)
   (fun p e r z hp hr=>by
    have hle:=idx p e hp;rw[hcell e (List.mem_of_getElem? hle)] at hr;have hr0:=(List.getElem?_eq_some_iff.1 hr).1;simp only[List.length_singleton] at hr0;obtain rfl:r=0:=by omega
    simp only[List.getElem?_cons_zero,Option.some.injEq] at hr;subst hr;have:=m4 (off+p) (.p e) (by simp only[AV.cells,List.getElem?_map,hle,Option.map_some]);rw[show L.o+(off+p)=L.o+off+(p*1+0) by omega] at this;exact this.inv.mono (fun _ _=>rfl) hN)
  rw[hlen] at this;exact this
 |arrEmp L i off p hL =>
  simp only[AV.toD] at hd;split at hd
  case h_2=>cases hd
  split at hd
  case h_2=>cases hd
  split at hd
  case isFalse=>cases hd
  simp only[List.take_zero,Option.some.injEq] at hd;subst hd;exact .empty _ _ _ _ (by omega)
 |ptr L i j off hL hn =>
  simp only[AV.toD] at hd;split at hd
  case isFalse=>cases hd
  rename_i hij;obtain⟨rfl,rfl⟩:=hij;split at hd
  case h_2=>cases hd
  rename_i ob hob;split at hd
  case h_2=>cases hd
  rename_i u hcont;split at hd
  case isFalse=>cases hd
  rename_i hc;simp only[Option.map_eq_some_iff] at hd;obtain⟨e,he,rfl⟩:=hd;obtain⟨L',hL',hok⟩:=h.objs i ob (hM _ _ hob);rw[hL] at hL';cases hL';obtain⟨c,fr,k1,k2,k3,k4,k5⟩:=hok.at_ hn;rw[hcont] at k3;obtain⟨m1,m2,m3,m4⟩:=k3;obtain⟨g1,g2⟩:=Fa he m3;rw[show L.o+(0*L.sz+0)=L.o by omega];refine .ref L.b L.o ob.T e c fr k1 (hO i ob L hob hc hL hn) (fun q hq => ?_) (fun p q hp => ?_) (fun p q hp => ?_)
  ·obtain⟨p,hp⟩:=List.getElem?_of_mem hq;exact (g2 p q hp).1
  ·have:=(List.getElem?_eq_some_iff.1 hp).1;omega
  ·obtain⟨_,y,m,r1,r2,r3⟩:=g2 p q hp;exact ih m (by omega) y _ q r3 (m4 p y r2)
theorem Fb {any:Bool}{N':Nat→Prop} (h:Rel w0 base nt loc s a w) (hN:∀b,NB base s.m loc w b→N' b)
  (hO:∀id o L,s.m id=some o→(o.frz||any)=true→loc id=some L→L.nil=false→N' L.b) :
  ∀(n:Nat) (x:AV) (v:Value) (d:D),x.toD any s.m n=some d→RV w (NB base s.m loc w) loc v x→V w N' v d:=oN h (fun _ _ h=>h) hN hO
end
end Go.Proofs.Ytdchbabgopglcaa.M
