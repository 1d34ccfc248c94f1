/- The small machine: the model does what the small machine says: slice expressions, new objects, stores. -/
import Derived.Test.YtlnhembcfhfpkaaMIx
import Derived.Laws.MakeOwn
namespace Go.Proofs.Ytlnhembcfhfpkaa.M
open Go.RowKit
section
variable {P:Program} {w0:World} {base:Bs} {nt:Nat} {loc:Locs} {s t:St} {a:Act} {w:World} {o:Oper} {id:Nat} {d:AV}
theorem sim_sliceS {T:TypeId} {x:Operand} {lo hi:Option Operand} (h:Rel w0 base nt loc s a w) (ho:o.op = .slice T x lo hi none) (hu:P.underlying T=some .string) {U:Option TypeId}
  (he:ev (.sliceS (opd P U x) (lo.map (opd P none)) (hi.map (opd P none))) id s=some (true,d,t)):Good P w0 base nt o a w t d:=by
 have hx:=h.opd (P:=P) U x
 simp only[ev] at he
 split at he
 case h_2=>cases he
 rename_i q hk
 split at he
 case h_2=>cases he
 rename_i c l n hb
 simp only[Option.some.injEq,Prod.mk.injEq] at he
 obtain⟨hc,rfl,rfl⟩:=he
 rw[hk] at hx
 have hx:=hx.inv
 generalize hxv:a.eval x=v at hx
 cases hx with
 | str q =>
 have hsz:q.data.toList.length=q.size:=by simp
 rw[hsz] at hb
 obtain⟨m,hr,h1,h2,h3,h4⟩:=run_bounds (P:=P) (mx:=none) false h (Nat.le_refl _) (by simp) hc hb
 simp only[Option.map_none] at hr
 have e:((q.data.toList.drop l).take (n-l))=(q.extract l n).data.toList:=by
  simp[ByteArray.data_extract]
 rw[e]
 refine good_same h (v:=.string (q.extract l n)) ?_ (.p _ _ (.str _))
 simp[execOp,ho,hxv,Instr.sliceAt,run_underlying hu,Instr.slice,hr]
theorem sim_slice {T E:TypeId} {ag:Bool} {sz:Nat} {x:Operand} {lo hi mx:Option Operand} (h:Rel w0 base nt loc s a w) (ho:o.op = .slice T x lo hi mx) (hu:P.underlying T=some (.slice E)) (hT:TyOk P E ag sz) (hm:mx.isSome=true→hi.isSome=true) {U:Option TypeId}
  (he:ev (.slice sz (opd P U x) (lo.map (opd P none)) (hi.map (opd P none)) (mx.map (opd P none))) id s=some (true,d,t)):Good P w0 base nt o a w t d:=by
 have hx:=h.opd (P:=P) U x
 have run:∀ p len cap l n m,a.eval x = .slice p len cap→(Instr.sliceBounds true len cap (lo.map a.eval) (hi.map a.eval) (mx.map a.eval)).run P w = .ok (l,n,m) w →
   (execOp a.eval o).run P w = .ok (.value (.slice (if m=l then p else p.map (·.add (l*sz))) (n-l) (m-l))) w:=by
  intro p len cap l n m hv hr
  simp[execOp,ho,hv,Instr.sliceAt,run_underlying hu,Instr.slice,hr,run_sizeOf hT]
 simp only[ev] at he
 split at he
 ·rename_i T' sz' q hk
  split at he
  case isFalse=>cases he
  rename_i hsz
  subst hsz
  split at he
  case h_2=>cases he
  rename_i c l n hb
  simp only[Option.some.injEq,Prod.mk.injEq] at he
  obtain⟨hc,rfl,rfl⟩:=he
  rw[hk] at hx
  have hx:=hx.inv
  generalize hxv:a.eval x=v at hx
  cases hx with
  | empty p cap _ _ hcap =>
   obtain⟨m,hr,h1,h2,h3,h4⟩:=run_bounds (P:=P) true h (Nat.zero_le cap) hm hc hb
   refine good_same h (run _ _ _ _ _ _ hxv hr) (.p _ _ ?_)
   have:n-l=0:=by omega
   simp only[List.drop_nil,List.take_nil,this]
   exact .empty _ _ _ _ (by omega)
  | list b p cap _ _ _ c' fr g1 g2 g3 g4 g5 g6 g7 =>
   obtain⟨m,hr,h1,h2,h3,h4⟩:=run_bounds (P:=P) true h g3 hm hc hb
   refine good_same h (run _ _ _ _ _ _ hxv hr) (.p _ _ ?_)
   have hlen:((q.drop l).take (n-l)).length=n-l:=by simp;omega
   by_cases hml:m=l
   ·have h0:n-l=0:=by omega
    simp only[h0,List.take_zero]
    exact .empty _ _ _ _ (by omega)
   ·rw[if_neg hml]
    simp only[Option.map_some,add_mid]
    have idx:∀ i e,((q.drop l).take (n-l))[i]? = some e→q[l+i]? = some e:=by
     intro i e hi
     have hlt:i<n-l:=by have:=(List.getElem?_eq_some_iff.1 hi).1;omega
     rw[List.getElem?_take_of_lt hlt,List.getElem?_drop] at hi
     exact hi
    have:=V.list (w:=w) (N:=NB base s.m loc w) b (p+l*sz) (m-l) T' sz ((q.drop l).take (n-l)) c' fr g1 g2 (by omega) (by omega) (fun e he=>g5 e (List.mem_of_mem_drop (List.mem_of_mem_take he)))
     (fun i e j d hi hj=>by have:=g6 (l+i) e j d (idx i e hi) hj;rw[Nat.add_mul] at this;omega)
     (fun i e j d hi hj=>by have:=g7 (l+i) e j d (idx i e hi) hj;rw[show p+((l+i)*sz+j)=p+l*sz+(i*sz+j) by rw[Nat.add_mul];omega] at this;exact this)
    rw[hlen] at this
    exact this
 ·rename_i i off len hk
  split at he
  case h_2=>cases he
  rename_i ob hob
  split at he
  case isFalse=>cases he
  rename_i hsz
  subst hsz
  split at he
  case h_2=>cases he
  rename_i c l n hb
  simp only[Option.some.injEq,Prod.mk.injEq] at he
  obtain⟨hc,rfl,rfl⟩:=he
  rw[hk] at hx
  generalize hxv:a.eval x=v at hx
  cases hx with
  | sliceEmp L _ _ p hL =>
   obtain⟨m,hr,h1,h2,h3,h4⟩:=run_bounds (P:=P) true h (Nat.le_refl 0) hm hc hb
   refine good_same h (run _ _ _ _ _ _ hxv hr) ?_
   rw[show n-l=0 by omega,show m-l=0 by omega]
   exact .sliceEmp L _ _ _ hL
  | slice L _ _ _ cap hL hn h3 h4 h5 =>
   obtain⟨m,hr,h1,h2,h3',h4'⟩:=run_bounds (P:=P) true h h3 hm hc hb
   obtain⟨L',hL',hok⟩:=h.objs i ob hob
   rw[hL] at hL'
   cases hL'
   refine good_same h (run _ _ _ _ _ _ hxv hr) ?_
   by_cases hml:m=l
   ·rw[show n-l=0 by omega,show m-l=0 by omega]
    exact .sliceEmp L _ _ _ hL
   ·rw[if_neg hml]
    simp only[Option.map_some,add_mid]
    have hs:=hok.sz
    rw[show L.o+off*L.sz+l*ob.sz=L.o+(off+l)*L.sz by rw[hs,Nat.add_mul];omega]
    have hmul:l*L.sz+(m-l)*L.sz≤cap*L.sz:=by
     rw[←Nat.add_mul];exact Nat.mul_le_mul_right _ (by omega)
    exact .slice L _ _ _ _ hL hn (by omega) (by omega) (by rw[Nat.add_mul];omega)
 ·rename_i T' sz' hk
  split at he
  case h_2=>cases he
  rename_i c l n hb
  simp only[Option.some.injEq,Prod.mk.injEq] at he
  obtain⟨hc,rfl,rfl⟩:=he
  rw[hk] at hx
  generalize hxv:a.eval x=v at hx
  cases hx
  obtain⟨m,hr,h1,h2,h3,h4⟩:=run_bounds (P:=P) true h (Nat.le_refl 0) hm hc hb
  refine good_same h (run _ _ _ _ _ _ hxv hr) ?_
  obtain rfl:l=0:=by omega
  obtain rfl:n=0:=by omega
  obtain rfl:m=0:=by omega
  exact .nils _ _
 ·rename_i i off len hk
  split at he
  case isFalse=>cases he
  rename_i hsz
  subst hsz
  split at he
  case h_2=>cases he
  rename_i c l n hb
  simp only[Option.some.injEq,Prod.mk.injEq] at he
  obtain⟨hc,rfl,rfl⟩:=he
  rw[hk] at hx
  generalize hxv:a.eval x=v at hx
  cases hx with
  | arrEmp L _ _ p hL =>
   obtain⟨m,hr,h1,h2,h3,h4⟩:=run_bounds (P:=P) true h (Nat.le_refl 0) hm hc hb
   refine good_same h (run _ _ _ _ _ _ hxv hr) ?_
   rw[show n-l=0 by omega,show m-l=0 by omega]
   exact .arrEmp L _ _ _ hL
  | arr L _ _ _ cap hL hn h3 h4 h5 =>
   obtain⟨m,hr,h1,h2,h3',h4'⟩:=run_bounds (P:=P) true h h3 hm hc hb
   refine good_same h (run _ _ _ _ _ _ hxv hr) ?_
   by_cases hml:m=l
   ·rw[show n-l=0 by omega,show m-l=0 by omega]
    exact .arrEmp L _ _ _ hL
   ·rw[if_neg hml]
    simp only[Option.map_some,add_mid]
    rw[show L.o+off+l*1=L.o+(off+l) by omega]
    exact .arr L _ _ _ _ hL hn (by omega) (by omega) (by omega)
 ·cases he
theorem zero_run {T:TypeId} {l:List D} {ag:Bool} {sz:Nat} (hz:ZOk P T l ag sz):∃ z:Value,(zeroValue T).run P w = .ok z w∧z.cells.size=sz∧l.length=sz∧(∀ i d,l[i]? = some d→d.one=true∧∀ (w:World) (N:Nat→Prop),V w N (z.cells.getD i undef) d)∧(z.cells.size=1→z.cells.getD 0 undef=z.cells.getD 0 undef):=by
 obtain⟨i,z,h1,h2,h3,h4,h5,h6⟩:=hz
 obtain⟨g1,g2⟩:=chkL_ok h4
 refine⟨z,by simp[zeroValue,typeInfo,h1,h2],by simpa[h5] using g1,h5,fun j d hj => ?_,fun _=>rfl⟩
 obtain⟨k1,k2⟩:=g2 j d hj
 refine⟨k1,fun w N => ?_⟩
 have:=k2 w N
 simpa using this
theorem chk_nil {v:Value} {T:TypeId} {sz:Nat} (h:chkD v (.list T sz [])=true):v = .slice none 0 0:=by
 unfold chkD at h
 split at h<;>simp_all
theorem zeroA_cells {T:TypeId} {l:List D} {ag:Bool} {sz:Nat} (hz:ZOk P T l ag sz) (h1:∀ e∈(zeroA l ag).cells,e.one=true) {z:Value} (hr:(zeroValue T).run P w = .ok z w) (N:Nat→Prop) :
  ∀ i e,(zeroA l ag).cells[i]? = some e→RV w N loc (z.cells.getD i undef) e:=by
 obtain⟨i,z',g1,g2,g3,g4,g5,g6⟩:=hz
 have hzz:z'=z:=by
  have:(zeroValue T).run P w = .ok z' w:=by simp[zeroValue,typeInfo,g1,g2]
  rw[this] at hr
  injection hr
 subst hzz
 obtain⟨k1,k2⟩:=chkL_ok g4
 have hV:∀ j d,l[j]? = some d→V w N (z'.cells.getD j undef) d:=fun j d hj=>by
  have:=(k2 j d hj).2 w N
  simpa using this
 intro j e hj
 unfold zeroA at hj h1
 split at hj
 ·simp only[AV.cells,D.cells,List.getElem?_map,Option.map_eq_some_iff] at hj
  obtain⟨d,hd,rfl⟩:=hj
  exact .p _ _ (hV j d hd)
 ·rename_i hag
  rw[if_neg hag] at h1
  split at hj
  ·rename_i T' sz'
   match j,hj with
   | 0,hj =>
    simp[AV.cells] at hj
    subst hj
    have:z'.cells.toList.length=1:=k1
    generalize hzl:z'.cells.toList=zl at g4 this
    match zl,this with
    | [v],_ =>
     have hv:z'.cells.getD 0 undef=v:=by
      have:z'.cells = #[v]:=by rw[←Array.toList_inj];exact hzl
      simp[this]
     rw[hv]
     simp only[chkL,Bool.and_true] at g4
     rw[chk_nil g4]
     exact .nils _ _
   | j+1,hj=>simp[AV.cells] at hj
  ·rename_i d hne
   simp only[AV.cells,List.getElem?_map,Option.map_eq_some_iff] at hj h1
   obtain⟨q,hq,rfl⟩:=hj
   have ho:=h1 (.p q) (List.mem_map.2 ⟨q,List.mem_of_getElem? hq,rfl⟩)
   have hd1:d.one=true:=(k2 0 d rfl).1
   have hc:d.cells=[d]:=by cases d<;>first | rfl | simp[D.one] at hd1
   rw[hc] at hq
   match j,hq with
   | 0,hq=>simp at hq;subst hq;exact .p _ _ (hV 0 d rfl)
   | j+1,hq=>simp at hq
  ·match j,hj with
   | 0,hj=>simp[AV.cells] at hj;subst hj;exact .und _
   | j+1,hj=>simp[AV.cells] at hj
theorem sim_alloc {T:TypeId} {l:List D} {ag:Bool} {sz:Nat} (h:Rel w0 base nt loc s a w) (ho:o.op = .alloc T) (hz:ZOk P T l ag sz)
  (he:ev (.alloc T sz (zeroA l ag)) id s=some (true,d,t)) (hc:(zeroA l ag).cells.length=sz) (h1:∀ e∈(zeroA l ag).cells,e.one=true):Good P w0 base nt o a w t d:=by
 simp only[ev] at he
 split at he
 case h_2=>cases he
 rename_i hid
 simp only[Option.some.injEq,Prod.mk.injEq,true_and] at he
 obtain⟨rfl,rfl⟩:=he
 obtain⟨z,hr,hsz,-⟩:=zero_run (w:=w) hz
 have hcells:=zeroA_cells (loc:=loc) hz h1 hr (NB base s.m loc w)
 obtain⟨loc',hl,hrel⟩:=h.alloc (T:=T) (c:=z.cells) (k:=.box (zeroA l ag)) (sz:=sz) hid ⟨by omega,hc,h1,fun j e hj=>by rw[Nat.zero_add];exact hcells j e hj⟩
 refine⟨.pointer (some ⟨w.heap.size,0,none⟩),w.alloc (.cells z.cells T),loc',.inl ?_,hrel,?_⟩
 ·simp[execOp,ho,Instr.alloc,hr,newVar,newRow]
 ·have:=RV.ptr (w:=w.alloc (.cells z.cells T)) (N:=NB base (upd s.m id (some ⟨T,sz,.box (zeroA l ag),false⟩)) loc' (w.alloc (.cells z.cells T))) _ id 0 0 hl rfl
  simpa using this
theorem sim_box {T:TypeId} {sz:Nat} {x:Operand} (h:Rel w0 base nt loc s a w) (ho:o.op = .box T x) {U:Option TypeId}
  (he:ev (.box T sz (opd P U x)) id s=some (true,d,t)):Good P w0 base nt o a w t d:=by
 have hx:=h.opd (P:=P) U x
 simp only[ev] at he
 split at he
 case h_2=>cases he
 rename_i hid
 split at he
 case isFalse=>cases he
 rename_i hcond
 obtain⟨hc,h1⟩:=hcond
 rw[List.all_eq_true] at h1
 simp only[Option.some.injEq,Prod.mk.injEq,true_and] at he
 obtain⟨rfl,rfl⟩:=he
 obtain⟨g1,g2⟩:=hx.cells h1
 obtain⟨loc',hl,hrel⟩:=h.alloc (T:=T) (c:=(a.eval x).cells) (k:=.box ((opd P U x).ev s.r)) (sz:=sz) hid ⟨by omega,hc,h1,fun j e hj=>by rw[Nat.zero_add];exact g2 j e hj⟩
 refine⟨.pointer (some ⟨w.heap.size,0,none⟩),w.alloc (.cells (a.eval x).cells T),loc',.inl ?_,hrel,?_⟩
 ·simp[execOp,ho,Instr.box,newVar,newRow]
 ·have:=RV.ptr (w:=w.alloc (.cells (a.eval x).cells T)) (N:=NB base (upd s.m id (some ⟨T,sz,.box ((opd P U x).ev s.r),false⟩)) loc' (w.alloc (.cells (a.eval x).cells T))) _ id 0 0 hl rfl
  simpa using this
theorem sim_makeSlice {T E:TypeId} {l:List D} {ag:Bool} {sz bytes:Nat} {x y:Operand} (h:Rel w0 base nt loc s a w) (ho:o.op = .makeSlice T x y) (hu:P.underlying T=some (.slice E)) (hz:ZOk P E l ag sz) {i:TypeInfo} (hi:P.info? E=some i) (hb:i.bytes=bytes) {U W:Option TypeId}
  (he:ev (.makeSlice E sz bytes (if ag then .agg l else l.headD default) (opd P U x) (opd P W y)) id s=some (true,d,t)):Good P w0 base nt o a w t d:=by
 simp only[ev] at he
 split at he
 case h_2=>cases he
 rename_i hid
 split at he
 case h_2=>cases he
 rename_i n m hn hm
 simp only[Option.some.injEq,Prod.mk.injEq,decide_eq_true_eq] at he
 obtain⟨⟨h0,rfl,h2,h3⟩,rfl,rfl⟩:=he
 obtain⟨k1,hx⟩:=asI_eval h hn
 obtain⟨k2,hy⟩:=asI_eval h hm
 obtain⟨q,rfl⟩:=Int.eq_ofNat_of_zero_le h0
 obtain⟨z,hr,hsz,hl,hcell,-⟩:=zero_run (w:=w) hz
 have hcl:(if ag then D.agg l else l.headD default).cells=l:=by
  cases ag with
  | true=>rfl
  | false =>
   have:sz=1:=by obtain⟨_,_,_,_,_,_,_,h6⟩:=hz;exact h6 rfl
   match l,hl with
   | [e],_ =>
    have:=(hcell 0 e rfl).1
    cases e<;>first | rfl | simp[D.one] at this
   | [],hl=>simp at hl;omega
   | _::_::_,hl=>simp at hl;omega
 have hTy:TyOk P E ag sz:=by obtain⟨_,_,_,_,h3,_⟩:=hz;exact h3
 obtain⟨loc',hl',hrel⟩:=h.alloc (T:=E) (c:=(madeCells z.cells (q*sz))) (k:=.row (List.replicate q (if ag then D.agg l else l.headD default))) (sz:=sz) hid (by
  refine⟨by simp[madeCells],fun e he => ?_,fun i e j d hi hj => ?_⟩
  ·rw[List.eq_of_mem_replicate he,hcl,hl]
  ·have hiq:i<q:=by have:=(List.getElem?_eq_some_iff.1 hi).1;simpa using this
   have he:=List.eq_of_mem_replicate (List.mem_of_getElem? hi)
   rw[he,hcl] at hj
   have hjl:j<sz:=by have:=(List.getElem?_eq_some_iff.1 hj).1;omega
   obtain⟨g1,g2⟩:=hcell j d hj
   refine⟨g1,?_⟩
   have hlt:i*sz+j<q*sz:=by
    have:=Nat.mul_le_mul_right sz (show i+1≤q by omega)
    rw[Nat.add_mul] at this;omega
   have hmod:(i*sz+j) % sz=j:=by rw[Nat.add_comm,Nat.add_mul_mod_self_right];exact Nat.mod_eq_of_lt hjl
   have:=g2 w (NB base s.m loc w)
   simp only[Nat.zero_add,Array.getD_eq_getD_getElem?] at this ⊢
   simp[madeCells,hlt,hsz,hmod]
   simpa[hsz,hjl] using this)
 refine⟨.slice (some ⟨w.heap.size,0,none⟩) q q,w.alloc (.cells (madeCells z.cells (q*sz)) E),loc',.inl ?_,hrel,?_⟩
 ·obtain⟨i',z',g1,g2,g3,_⟩:=hz
  rw[hi] at g1
  cases g1
  have hzz:z'=z:=by
   have:(zeroValue E).run P w = .ok z' w:=by simp[zeroValue,typeInfo,hi,g2]
   rw[this] at hr
   injection hr
  subst hzz
  have his:i.size=sz:=by obtain⟨_,i2,_,_,h3,h4⟩:=hTy;rw[hi] at h3;cases h3;exact h4
  have:=run_make (P:=P) w T E i z' hu hi g2 k1 k2 (q:Int) (q:Int) (by omega) (by omega) (by rw[hb];omega) (by omega)
  rw[Int.toNat_natCast,his] at this
  simp[execOp,ho,hx,hy,this]
 ·have:=RV.slice (w:=w.alloc (.cells (madeCells z.cells (q*sz)) E)) (N:=NB base (upd s.m id (some ⟨E,sz,.row (List.replicate q (if ag then D.agg l else l.headD default)),false⟩)) loc' (w.alloc (.cells (madeCells z.cells (q*sz)) E))) _ id 0 q q hl' rfl (Nat.le_refl _) (by omega) (by simp[madeCells])
  simpa using this
end
end Go.Proofs.Ytlnhembcfhfpkaa.M
