/- Lemmas. -/
import Derived.Test.YtbnhgnhgbhjkcaaGreatQ8
import Derived.Laws.MakeOwn
namespace Go.Proofs.YtbnhgnhgbhjkcaaGreat.M
set_option linter.unusedSimpArgs false
open Go.RowKit
section
variable {P:Program}{w0:World}{base:Bs}{nt:Nat}{loc:aX}{s t:St}{a:Act}{w:World}{o:Oper}{id:Nat}{d:AV}
theorem L6 {T:TypeId}{x:Operand}{lo hi:Option Operand} (h:Rel w0 base nt loc s a w) (ho:o.op = .slice T x lo hi none) (hu:P.underlying T=some .string){U:Option TypeId}
  (he:ev (.sliceS (opd P U x) (lo.map (opd P none)) (hi.map (opd P none))) id s=some (true,d,t)):aM P w0 base nt o a w t d:=by
 have hx:=h.opd (P:=P) U x;simp only[ev] at he;split at he
 case h_2=>cases he
 rename_i q hk;split at he
 case h_2=>cases he
 rename_i c l n hb;simp only[z99,z97] at he;obtain⟨hc,rfl,rfl⟩:=he;rw[hk] at hx;have hx:=hx.inv;generalize hxv:a.eval x=v at hx;cases hx with
 |str q =>
 have hsz:q.data.toList.length=q.size:=by simp
 rw[hsz] at hb;obtain⟨m,hr,h1,h2,h3,h4⟩:=eH (P:=P) (mx:=none) false h (z95 _) (by simp) hc hb;simp only[Option.map_none] at hr;have e:((q.data.toList.drop l).take (n-l))=(q.extract l n).data.toList:=by
  simp[ByteArray.data_extract]
 rw[e];refine aT h (v:=.string (q.extract l n)) ?_ (.p _ _ (.str _));simp[execOp,ho,hxv,Instr.sliceAt,run_underlying hu,Instr.slice,hr]
theorem L7 {T E:TypeId}{ag:Bool}{sz:Nat}{x:Operand}{lo hi mx:Option Operand} (h:Rel w0 base nt loc s a w) (ho:o.op = .slice T x lo hi mx) (hu:P.underlying T=some (.slice E)) (hT:bU P E ag sz) (hm:mx.isSome=true→hi.isSome=true){U:Option TypeId}
  (he:ev (.slice sz (opd P U x) (lo.map (opd P none)) (hi.map (opd P none)) (mx.map (opd P none))) id s=some (true,d,t)):aM P w0 base nt o a w t d:=by
 have hx:=h.opd (P:=P) U x;have run:∀p len cap l n m,a.eval x = .slice p len cap→(Instr.sliceBounds true len cap (lo.map a.eval) (hi.map a.eval) (mx.map a.eval)).run P w = .ok (l,n,m) w →
   (execOp a.eval o).run P w = .ok (.value (.slice (if m=l then p else p.map (·.add (l*sz))) (n-l) (m-l))) w:=by
  intro p len cap l n m hv hr;simp[execOp,ho,hv,Instr.sliceAt,run_underlying hu,Instr.slice,hr,c8 hT]
 simp only[ev] at he;split at he
 ·rename_i T' sz' q hk;split at he
  case isFalse=>cases he
  rename_i hsz;subst hsz;split at he
  case h_2=>cases he
  rename_i c l n hb;simp only[z99,z97] at he;obtain⟨hc,rfl,rfl⟩:=he;rw[hk] at hx;have hx:=hx.inv;generalize hxv:a.eval x=v at hx;cases hx with
  |empty p cap _ _ hcap =>
   obtain⟨m,hr,h1,h2,h3,h4⟩:=eH (P:=P) true h (z9O cap) hm hc hb;refine aT h (run _ _ _ _ _ _ hxv hr) (.p _ _ ?_);have:n-l=0:=by omega
   simp only[List.drop_nil,List.take_nil,this];exact .empty _ _ _ _ (by omega)
  |list b p cap _ _ _ c' fr g1 g2 g3 g4 g5 g6 g7 =>
   obtain⟨m,hr,h1,h2,h3,h4⟩:=eH (P:=P) true h g3 hm hc hb;refine aT h (run _ _ _ _ _ _ hxv hr) (.p _ _ ?_);have hlen:((q.drop l).take (n-l)).length=n-l:=by simp;omega
   by_cases hml:m=l
   ·have h0:n-l=0:=by omega
    simp only[h0,List.take_zero];exact .empty _ _ _ _ (by omega)
   ·rw[if_neg hml];simp only[Option.map_some,dE];have idx:∀i e,((q.drop l).take (n-l))[i]? = some e→q[l+i]? = some e:=by
     intro i e hi;have hlt:i<n-l:=by have:=(z98.1 hi).1;omega
     rw[z9t hlt,z9s] at hi;exact hi
    have:=V.list (w:=w) (N:=NB base s.m loc w) b (p+l*sz) (m-l) T' sz ((q.drop l).take (n-l)) c' fr g1 g2 (by omega) (by omega) (fun e he=>g5 e (z9r (z9M he)))
     (fun i e j d hi hj=>by have:=g6 (l+i) e j d (idx i e hi) hj;rw[z9F] at this;omega)
     (fun i e j d hi hj=>by have:=g7 (l+i) e j d (idx i e hi) hj;rw[show p+((l+i)*sz+j)=p+l*sz+(i*sz+j) by rw[z9F];omega] at this;exact this)
    rw[hlen] at this;exact this
 ·rename_i i off len hk;split at he
  case h_2=>cases he
  rename_i ob hob;split at he
  case isFalse=>cases he
  rename_i hsz;subst hsz;split at he
  case h_2=>cases he
  rename_i c l n hb;simp only[z99,z97] at he;obtain⟨hc,rfl,rfl⟩:=he;rw[hk] at hx;generalize hxv:a.eval x=v at hx;cases hx with
  |sliceEmp L _ _ p hL =>
   obtain⟨m,hr,h1,h2,h3,h4⟩:=eH (P:=P) true h (z95 0) hm hc hb;refine aT h (run _ _ _ _ _ _ hxv hr) ?_;rw[show n-l=0 by omega,show m-l=0 by omega];exact .sliceEmp L _ _ _ hL
  |slice L _ _ _ cap hL hn h3 h4 h5 =>
   obtain⟨m,hr,h1,h2,h3',h4'⟩:=eH (P:=P) true h h3 hm hc hb;obtain⟨L',hL',hok⟩:=h.objs i ob hob;rw[hL] at hL';cases hL';refine aT h (run _ _ _ _ _ _ hxv hr) ?_;by_cases hml:m=l
   ·rw[show n-l=0 by omega,show m-l=0 by omega];exact .sliceEmp L _ _ _ hL
   ·rw[if_neg hml];simp only[Option.map_some,dE];have hs:=hok.sz;rw[show L.o+off*L.sz+l*ob.sz=L.o+(off+l)*L.sz by rw[hs,z9F];omega];have hmul:l*L.sz+(m-l)*L.sz≤cap*L.sz:=by
     rw[←z9F];exact z92 _ (by omega)
    exact .slice L _ _ _ _ hL hn (by omega) (by omega) (by rw[z9F];omega)
 ·rename_i T' sz' hk;split at he
  case h_2=>cases he
  rename_i c l n hb;simp only[z99,z97] at he;obtain⟨hc,rfl,rfl⟩:=he;rw[hk] at hx;generalize hxv:a.eval x=v at hx;cases hx;obtain⟨m,hr,h1,h2,h3,h4⟩:=eH (P:=P) true h (z95 0) hm hc hb;refine aT h (run _ _ _ _ _ _ hxv hr) ?_;obtain rfl:l=0:=by omega
  obtain rfl:n=0:=by omega
  obtain rfl:m=0:=by omega
  exact .nils _ _
 ·rename_i T' sz' hk;split at he
  case h_2=>cases he
  rename_i c l n hb;simp only[z99,z97] at he;obtain⟨hc,rfl,rfl⟩:=he;rw[hk] at hx;have hx:=hx.inv;generalize hxv:a.eval x=v at hx;cases hx;obtain⟨m,hr,h1,h2,h3,h4⟩:=eH (P:=P) true h (z95 0) hm hc hb;refine aT h (run _ _ _ _ _ _ hxv hr) ?_;obtain rfl:l=0:=by omega
  obtain rfl:n=0:=by omega
  obtain rfl:m=0:=by omega
  exact .nils _ _
 ·rename_i i off len hk;split at he
  case isFalse=>cases he
  rename_i hsz;subst hsz;split at he
  case h_2=>cases he
  rename_i c l n hb;simp only[z99,z97] at he;obtain⟨hc,rfl,rfl⟩:=he;rw[hk] at hx;generalize hxv:a.eval x=v at hx;cases hx with
  |arrEmp L _ _ p hL =>
   obtain⟨m,hr,h1,h2,h3,h4⟩:=eH (P:=P) true h (z95 0) hm hc hb;refine aT h (run _ _ _ _ _ _ hxv hr) ?_;rw[show n-l=0 by omega,show m-l=0 by omega];exact .arrEmp L _ _ _ hL
  |arr L _ _ _ cap hL hn h3 h4 h5 =>
   obtain⟨m,hr,h1,h2,h3',h4'⟩:=eH (P:=P) true h h3 hm hc hb;refine aT h (run _ _ _ _ _ _ hxv hr) ?_;by_cases hml:m=l
   ·rw[show n-l=0 by omega,show m-l=0 by omega];exact .arrEmp L _ _ _ hL
   ·rw[if_neg hml];simp only[Option.map_some,dE];rw[show L.o+off+l*1=L.o+(off+l) by omega];exact .arr L _ _ _ _ hL hn (by omega) (by omega) (by omega)
 ·cases he
theorem ik {T:TypeId}{l:List D}{ag:Bool}{sz:Nat} (hz:ZOk P T l ag sz):∃z:Value,(zeroValue T).run P w = .ok z w∧z.cells.size=sz∧l.length=sz∧(∀i d,l[i]? = some d→d.one=true∧∀(w:World) (N:Nat→Prop),V w N (z.cells.getD i undef) d)∧(z.cells.size=1→z.cells.getD 0 undef=z.cells.getD 0 undef):=by
 obtain⟨i,z,h1,h2,h3,h4,h5,h6⟩:=hz;obtain⟨g1,g2⟩:=iB h4;refine⟨z,by simp[zeroValue,typeInfo,h1,h2],by simpa[h5] using g1,h5,fun j d hj => ?_,fun _=>rfl⟩;obtain⟨k1,k2⟩:=g2 j d hj;refine⟨k1,fun w N => ?_⟩;have:=k2 w N;simpa using this
theorem L8 {v:Value}{T:TypeId}{sz:Nat} (h:jw v (.list T sz [])=true):v = .slice none 0 0:=by
 unfold jw at h;split at h<;>simp_all
theorem L9 {T:TypeId}{l:List D}{ag:Bool}{sz:Nat} (hz:ZOk P T l ag sz) (h1:∀e∈(eG l ag).cells,e.one=true){z:Value} (hr:(zeroValue T).run P w = .ok z w) (N:Nat→Prop) :
  ∀i e,(eG l ag).cells[i]? = some e→RV w N loc (z.cells.getD i undef) e:=by
 obtain⟨i,z',g1,g2,g3,g4,g5,g6⟩:=hz;have hzz:z'=z:=by
  have:(zeroValue T).run P w = .ok z' w:=by simp[zeroValue,typeInfo,g1,g2]
  rw[this] at hr;injection hr
 subst hzz;obtain⟨k1,k2⟩:=iB g4;have hV:∀j d,l[j]? = some d→V w N (z'.cells.getD j undef) d:=fun j d hj=>by
  have:=(k2 j d hj).2 w N;simpa using this
 intro j e hj;unfold eG at hj h1;split at hj
 ·simp only[AV.cells,D.cells,z9B,z94] at hj;obtain⟨d,hd,rfl⟩:=hj;exact .p _ _ (hV j d hd)
 ·rename_i hag;rw[if_neg hag] at h1;split at hj
  ·rename_i T' sz'
   match j,hj with
   |0,hj =>
    simp[AV.cells] at hj;subst hj;have:z'.cells.toList.length=1:=k1;generalize hzl:z'.cells.toList=zl at g4 this
    match zl,this with
    |[v],_ =>
     have hv:z'.cells.getD 0 undef=v:=by
      have:z'.cells = #[v]:=by rw[←z87];exact hzl
      simp[this]
     rw[hv];simp only[fX,Bool.and_true] at g4;rw[L8 g4];exact .nils _ _
   |j+1,hj=>simp[AV.cells] at hj
  ·rename_i d hne;simp only[AV.cells,z9B,z94] at hj h1;obtain⟨q,hq,rfl⟩:=hj;have ho:=h1 (.p q) (z9Q.2 ⟨q,z90 hq,rfl⟩);have hd1:d.one=true:=(k2 0 d rfl).1;have hc:d.cells=[d]:=by cases d<;>first | rfl | simp[D.one] at hd1
   rw[hc] at hq
   match j,hq with
   |0,hq=>simp at hq;subst hq;exact .p _ _ (hV 0 d rfl)
   |j+1,hq=>simp at hq
  ·match j,hj with
   |0,hj=>simp[AV.cells] at hj;subst hj;exact .und _
   |j+1,hj=>simp[AV.cells] at hj
theorem Ma {T:TypeId}{l:List D}{ag:Bool}{sz:Nat} (h:Rel w0 base nt loc s a w) (ho:o.op = .alloc T) (hz:ZOk P T l ag sz)
  (he:ev (.alloc T sz (eG l ag)) id s=some (true,d,t)) (hc:(eG l ag).cells.length=sz) (h1:∀e∈(eG l ag).cells,e.one=true):aM P w0 base nt o a w t d:=by
 simp only[ev] at he;split at he
 case h_2=>cases he
 rename_i hid;simp only[z99,z97,true_and] at he;obtain⟨rfl,rfl⟩:=he;obtain⟨z,hr,hsz,-⟩:=ik (w:=w) hz;have hcells:=L9 (loc:=loc) hz h1 hr (NB base s.m loc w);obtain⟨loc',hl,hrel⟩:=h.alloc (T:=T) (c:=z.cells) (k:=.box (eG l ag)) (sz:=sz) hid ⟨by omega,hc,h1,fun j e hj=>by rw[z9o];exact hcells j e hj⟩;refine⟨.pointer (some ⟨w.heap.size,0,none⟩),w.alloc (.cells z.cells T),loc',.inl ?_,hrel,?_⟩
 ·simp[execOp,ho,Instr.alloc,hr,newVar,newRow]
 ·have:=RV.ptr (w:=w.alloc (.cells z.cells T)) (N:=NB base (upd s.m id (some ⟨T,sz,.box (eG l ag),false⟩)) loc' (w.alloc (.cells z.cells T))) _ id 0 0 hl rfl;simpa using this
theorem Mb {T:TypeId}{sz:Nat}{x:Operand} (h:Rel w0 base nt loc s a w) (ho:o.op = .box T x){U:Option TypeId}
  (he:ev (.box T sz (opd P U x)) id s=some (true,d,t)):aM P w0 base nt o a w t d:=by
 have hx:=h.opd (P:=P) U x;simp only[ev] at he;split at he
 case h_2=>cases he
 rename_i hid;split at he
 case isFalse=>cases he
 rename_i hcond;obtain⟨hc,h1⟩:=hcond;rw[z9C] at h1;simp only[z99,z97,true_and] at he;obtain⟨rfl,rfl⟩:=he;obtain⟨g1,g2⟩:=hx.cells h1;obtain⟨loc',hl,hrel⟩:=h.alloc (T:=T) (c:=(a.eval x).cells) (k:=.box ((opd P U x).ev s.r)) (sz:=sz) hid ⟨by omega,hc,h1,fun j e hj=>by rw[z9o];exact g2 j e hj⟩;refine⟨.pointer (some ⟨w.heap.size,0,none⟩),w.alloc (.cells (a.eval x).cells T),loc',.inl ?_,hrel,?_⟩
 ·simp[execOp,ho,Instr.box,newVar,newRow]
 ·have:=RV.ptr (w:=w.alloc (.cells (a.eval x).cells T)) (N:=NB base (upd s.m id (some ⟨T,sz,.box ((opd P U x).ev s.r),false⟩)) loc' (w.alloc (.cells (a.eval x).cells T))) _ id 0 0 hl rfl;simpa using this
theorem Mc {T E:TypeId}{l:List D}{ag:Bool}{sz bytes:Nat}{x y:Operand} (h:Rel w0 base nt loc s a w) (ho:o.op = .makeSlice T x y) (hu:P.underlying T=some (.slice E)) (hz:ZOk P E l ag sz){i:TypeInfo} (hi:P.info? E=some i) (hb:i.bytes=bytes){U W:Option TypeId}
  (he:ev (.makeSlice E sz bytes (if ag then .agg l else l.headD default) (opd P U x) (opd P W y)) id s=some (true,d,t)):aM P w0 base nt o a w t d:=by
 simp only[ev] at he;split at he
 case h_2=>cases he
 rename_i hid;split at he
 case h_2=>cases he
 rename_i n m hn hm;simp only[z99,z97,z8T] at he;obtain⟨⟨h0,rfl,h2,h3⟩,rfl,rfl⟩:=he;obtain⟨k1,hx⟩:=dJ h hn;obtain⟨k2,hy⟩:=dJ h hm;obtain⟨q,rfl⟩:=z9W h0;obtain⟨z,hr,hsz,hl,hcell,-⟩:=ik (w:=w) hz;have hcl:(if ag then D.agg l else l.headD default).cells=l:=by
  cases ag with
  |true=>rfl
  |false =>
   have:sz=1:=by obtain⟨_,_,_,_,_,_,_,h6⟩:=hz;exact h6 rfl
   match l,hl with
   |[e],_ =>
    have:=(hcell 0 e rfl).1;cases e<;>first | rfl | simp[D.one] at this
   |[],hl=>simp at hl;omega
   |_::_::_,hl=>simp at hl;omega
 have hTy:bU P E ag sz:=by obtain⟨_,_,_,_,h3,_⟩:=hz;exact h3
 obtain⟨loc',hl',hrel⟩:=h.alloc (T:=E) (c:=(madeCells z.cells (q*sz))) (k:=.row (List.replicate q (if ag then D.agg l else l.headD default))) (sz:=sz) hid (by
  refine⟨by simp[madeCells],fun e he => ?_,fun i e j d hi hj => ?_⟩
  ·rw[z9b he,hcl,hl]
  ·have hiq:i<q:=by have:=(z98.1 hi).1;simpa using this
   have he:=z9b (z90 hi);rw[he,hcl] at hj;have hjl:j<sz:=by have:=(z98.1 hj).1;omega
   obtain⟨g1,g2⟩:=hcell j d hj;refine⟨g1,?_⟩;have hlt:i*sz+j<q*sz:=by
    have:=z92 sz (show i+1≤q by omega);rw[z9F] at this;omega
   have hmod:(i*sz+j) % sz=j:=by rw[Nat.add_comm,Nat.add_mul_mod_self_right];exact Nat.mod_eq_of_lt hjl
   have:=g2 w (NB base s.m loc w);simp only[z9o,z9Y] at this ⊢;simp[madeCells,hlt,hsz,hmod];simpa[hsz,hjl] using this)
 refine⟨.slice (some ⟨w.heap.size,0,none⟩) q q,w.alloc (.cells (madeCells z.cells (q*sz)) E),loc',.inl ?_,hrel,?_⟩
 ·obtain⟨i',z',g1,g2,g3,_⟩:=hz;rw[hi] at g1;cases g1;have hzz:z'=z:=by
   have:(zeroValue E).run P w = .ok z' w:=by simp[zeroValue,typeInfo,hi,g2]
   rw[this] at hr;injection hr
  subst hzz;have his:i.size=sz:=by obtain⟨_,i2,_,_,h3,h4⟩:=hTy;rw[hi] at h3;cases h3;exact h4
  have:=run_make (P:=P) w T E i z' hu hi g2 k1 k2 (q:Int) (q:Int) (by omega) (by omega) (by rw[hb];omega) (by omega);rw[Int.toNat_natCast,his] at this;simp[execOp,ho,hx,hy,this]
 ·have:=RV.slice (w:=w.alloc (.cells (madeCells z.cells (q*sz)) E)) (N:=NB base (upd s.m id (some ⟨E,sz,.row (List.replicate q (if ag then D.agg l else l.headD default)),false⟩)) loc' (w.alloc (.cells (madeCells z.cells (q*sz)) E))) _ id 0 q q hl' rfl (z95 _) (by omega) (by simp[madeCells]);simpa using this
end
set_option linter.unusedSimpArgs false
open Go.RowKit
section
variable {P:Program}{w0:World}{base:Bs}{nt:Nat}{loc:aX}{s t:St}{a:Act}{w:World}{o:Oper}{id:Nat}{d:AV}
theorem ld {any:Bool}{M:Mem}:∀{n:Nat}{l:List AV}{ds:List D},dh any M n l=some ds→l.length=ds.length∧∀(i:Nat) (e:D),ds[i]? = some e→∃(x:AV) (m:Nat),m<n∧l[i]? = some x∧x.toD any M m=some e
 |0,l,ds,h=>by simp[dh] at h
 |n+1,[],ds,h=>by
  simp only[dh,z99] at h;subst h;exact⟨rfl,fun i d h=>by simp at h⟩
 |n+1,v::l,ds,h=>by
  simp only[dh] at h;split at h
  ·rename_i d ds' h1 h2;simp only[z99] at h;subst h;obtain⟨g1,g2⟩:=ld h2;refine⟨by simp[g1],fun i d' hi => ?_⟩
   match i,hi with
   |0,hi=>simp at hi;subst hi;exact⟨v,n,by omega,rfl,h1⟩
   |i+1,hi =>
    obtain⟨x,m,k1,k2,k3⟩:=g2 i d' (by simpa using hi);exact⟨x,m,by omega,by simpa using k2,k3⟩
  ·cases h
theorem nZ {any:Bool}{M:Mem}{n:Nat}{x:AV}{d:D} (h:x.toD any M n=some d) (h1:x.one=true):d.one=true:=by
 cases n with
 |zero=>simp[AV.toD] at h
 |succ n =>
  cases x with
  |p e=>simp[AV.toD] at h;subst h;exact h1
  |nils T sz=>simp[AV.toD] at h;subst h;rfl
  |slice i off len =>
   simp only[AV.toD] at h;split at h
   ·split at h
    ·split at h
     ·simp only[z99] at h;subst h;rfl
     ·cases h
    ·cases h
   ·cases h
  |ptr i j off =>
   simp only[AV.toD] at h;split at h
   ·split at h
    ·split at h
     ·split at h
      ·simp only[z94] at h;obtain⟨e,-,rfl⟩:=h;rfl
      ·cases h
     ·cases h
    ·cases h
   ·cases h
  |arr i off len =>
   simp only[AV.toD] at h;split at h
   ·split at h
    ·split at h
     ·simp only[z99] at h;subst h;rfl
     ·cases h
    ·cases h
   ·cases h
  |_=>simp[AV.one] at h1
theorem WE {any:Bool}{M:Mem}{n:Nat}{x:AV}{d:D} (h:x.toD any M n=some d) (h1:∀e∈x.cells,e.one=true) :
  d.cells.length=x.cells.length∧∀(j:Nat) (e:D),d.cells[j]? = some e→e.one=true∧∃(y:AV) (m:Nat),m≤n∧x.cells[j]? = some y∧y.toD any M m=some e:=by
 cases n with
 |zero=>simp[AV.toD] at h
 |succ n =>
  have single:x.one=true→x.cells=[x]→d.cells.length=x.cells.length∧∀(j:Nat) (e:D),d.cells[j]? = some e→e.one=true∧∃(y:AV) (m:Nat),m≤n+1∧x.cells[j]? = some y∧y.toD any M m=some e:=by
   intro ho hc;have hd:=nZ h ho;have hdc:d.cells=[d]:=by cases d<;>first | rfl | simp[D.one] at hd
   rw[hc,hdc];refine⟨rfl,fun j e hj => ?_⟩
   match j,hj with
   |0,hj=>simp at hj;subst hj;exact⟨hd,x,n+1,z95 _,rfl,h⟩
   |j+1,hj=>simp at hj
  cases x with
  |p e =>
   simp[AV.toD] at h;subst h;refine⟨by simp[AV.cells],fun j q hq => ?_⟩;have hm:(AV.p e).cells[j]? = some (.p q):=by simp[AV.cells,hq]
   exact⟨h1 (.p q) (z90 hm),.p q,n+1,z95 _,hm,by simp[AV.toD]⟩
  |agg l =>
   simp only[AV.toD,z94] at h;obtain⟨ds,hds,rfl⟩:=h;obtain⟨g1,g2⟩:=ld hds;refine⟨g1.symm,fun j e hj => ?_⟩;obtain⟨y,m,k1,k2,k3⟩:=g2 j e hj;exact⟨nZ k3 (h1 y (z90 k2)),y,m,by omega,k2,k3⟩
  |nils T sz=>exact single rfl rfl
  |slice i off len=>exact single rfl rfl
  |ptr i j off=>exact single rfl rfl
  |arr i j off=>exact single rfl rfl
  |und=>simp[AV.cells,AV.one] at h1
  |tup l=>simp[AV.cells,AV.one] at h1
theorem tq {any:Bool}{N':Nat→Prop}{M':Mem} (h:Rel w0 base nt loc s a w) (hM:∀i o,M' i=some o→s.m i=some o) (hN:∀b,NB base s.m loc w b→N' b)
  (hO:∀id o L,M' id=some o→(o.frz||any)=true→loc id=some L→L.nil=false→N' L.b) :
  ∀(n:Nat) (x:AV) (v:Value) (d:D),x.toD any M' n=some d→RV w (NB base s.m loc w) loc v x→V w N' v d:=by
 intro n;induction n using Nat.strongRecOn with
 |_ n ih =>
 intro x v d hd hv;cases n with
 |zero=>simp[AV.toD] at hd
 |succ n =>
 cases hv with
 |und=>simp[AV.toD] at hd
 |p _ e hV =>
  simp[AV.toD] at hd;subst hd;exact hV.mono (fun _ _=>rfl) hN
 |nils T sz =>
  simp[AV.toD] at hd;subst hd;exact .empty _ _ _ _ (by omega)
 |agg cs l h1 h2 h3 =>
  simp only[AV.toD,z94] at hd;obtain⟨ds,hds,rfl⟩:=hd;obtain⟨g1,g2⟩:=ld hds;refine .agg _ _ (h1.trans g1) (fun e he => ?_) (fun i e hi => ?_)
  ·obtain⟨i,hi⟩:=z9q he;obtain⟨y,m,k1,k2,k3⟩:=g2 i e hi;exact nZ k3 (h2 y (z90 k2))
  ·obtain⟨y,m,k1,k2,k3⟩:=g2 i e hi;exact ih m (by omega) y _ e k3 (h3 i y k2)
 |tup cs l h1 h3 =>
  simp only[AV.toD,z94] at hd;obtain⟨ds,hds,rfl⟩:=hd;obtain⟨g1,g2⟩:=ld hds;refine .tup _ _ (h1.trans g1) (fun i e hi => ?_);obtain⟨y,m,k1,k2,k3⟩:=g2 i e hi;exact ih m (by omega) y _ e k3 (h3 i y k2)
 |slice L i off len cap hL hn h3 h4 h5 =>
  simp only[AV.toD] at hd;split at hd
  case h_2=>cases hd
  rename_i ob hob;split at hd
  case h_2=>cases hd
  rename_i l hcont;split at hd
  case isFalse=>cases hd
  rename_i hc;simp only[z9S,z8T] at hc;simp only[z99] at hd;subst hd;obtain⟨L',hL',hok⟩:=h.objs i ob (hM _ _ hob);rw[hL] at hL';cases hL';obtain⟨c,fr,k1,k2,k3,k4,k5⟩:=hok.at_ hn;rw[hcont] at k3;obtain⟨m1,m2,m3⟩:=k3;have hsz:=hok.sz;have hlen:((l.drop off).take len).length=len:=by simp;omega
  have idx:∀j e,((l.drop off).take len)[j]? = some e→l[off+j]? = some e:=by
   intro j e hj;have hlt:j<len:=by have:=(z98.1 hj).1;omega
   rw[z9t hlt,z9s] at hj;exact hj
  have:=V.list (w:=w) (N:=N') L.b (L.o+off*L.sz) cap ob.T ob.sz ((l.drop off).take len) c fr (.of k1) (hO i ob L hob hc.1 hL hn) (by omega) h4
   (fun e he=>by
    have hm:=z9r (z9M he);refine⟨m2 e hm,fun q hq => ?_⟩;obtain⟨p,hp⟩:=z9q hm;obtain⟨r,hr⟩:=z9q hq;exact (m3 p e r q hp hr).1)
   (fun p e r q hp hr=>by
    have hle:=idx p e hp;have hlt:=(z98.1 hle).1;have hrl:r<ob.sz:=by have:=(z98.1 hr).1;have:=m2 e (z90 hle);omega
    have hmul:=z92 ob.sz (show off+p+1≤l.length by omega);rw[z9F,z9F] at hmul;rw[hsz];omega)
   (fun p e r q hp hr=>by
    have:=(m3 _ e r q (idx p e hp) hr).2;rw[show L.o+((off+p)*ob.sz+r)=L.o+off*L.sz+(p*ob.sz+r) by rw[hsz,z9F];omega] at this;exact this.mono (fun _ _=>rfl) hN)
  rw[hlen] at this;exact this
 |sliceEmp L i off p hL =>
  simp only[AV.toD] at hd;split at hd
  case h_2=>cases hd
  rename_i ob hob;split at hd
  case h_2=>cases hd
  rename_i l hcont;split at hd
  case isFalse=>cases hd
  simp only[List.take_zero,z99] at hd;subst hd;exact .empty _ _ _ _ (by omega)
 |arr L i off len cap hL hn h3 h4 h5 =>
  simp only[AV.toD] at hd;split at hd
  case h_2=>cases hd
  rename_i ob hob;split at hd
  case h_2=>cases hd
  rename_i q hcont;split at hd
  case isFalse=>cases hd
  rename_i hc;simp only[z9S,z8T] at hc;simp only[z99] at hd;subst hd;obtain⟨L',hL',hok⟩:=h.objs i ob (hM _ _ hob);rw[hL] at hL';cases hL';obtain⟨c,fr,k1,k2,k3,k4,k5⟩:=hok.at_ hn;rw[hcont] at k3;obtain⟨m1,m2,m3,m4⟩:=k3;have hlen:((q.cells.drop off).take len).length=len:=by simp;omega
  have idx:∀j e,((q.cells.drop off).take len)[j]? = some e→q.cells[off+j]? = some e:=by
   intro j e hj;have hlt:j<len:=by have:=(z98.1 hj).1;omega
   rw[z9t hlt,z9s] at hj;exact hj
  have hone:∀e∈q.cells,e.one=true:=fun e he=>by
   have:=m3 (.p e) (by simp only[AV.cells,z9Q];exact⟨e,he,rfl⟩);exact this
  have hcell:∀e∈q.cells,e.cells=[e]:=fun e he=>by
   have h1:=hone e he;cases e<;>first | rfl | simp[D.one] at h1
  have this:=V.list (w:=w) (N:=N') L.b (L.o+off) cap 1000000 1 ((q.cells.drop off).take len) c fr ⟨_,k1,.inr (z95 _)⟩ (hO i ob L hob hc.1.1 hL hn) (by omega) h4
   (fun e he=>by
    have hm:=z9r (z9M he);rw[hcell e hm];exact⟨rfl,fun z hz=>by simp at hz;subst hz;exact hone _ hm⟩)
   (fun p e r z hp hr=>by
    have hle:=idx p e hp;have hlt:=(z98.1 hp).1;rw[hcell e (z90 hle)] at hr;have hr0:=(z98.1 hr).1;simp only[List.length_singleton] at hr0;omega)
   (fun p e r z hp hr=>by
    have hle:=idx p e hp;rw[hcell e (z90 hle)] at hr;have hr0:=(z98.1 hr).1;simp only[List.length_singleton] at hr0;obtain rfl:r=0:=by omega
    simp only[List.getElem?_cons_zero,z99] at hr;subst hr;have:=m4 (off+p) (.p e) (by simp only[AV.cells,z9B,hle,Option.map_some]);rw[show L.o+(off+p)=L.o+off+(p*1+0) by omega] at this;exact this.inv.mono (fun _ _=>rfl) hN)
  rw[hlen] at this;exact this
 |arrEmp L i off p hL =>
  simp only[AV.toD] at hd;split at hd
  case h_2=>cases hd
  split at hd
  case h_2=>cases hd
  split at hd
  case isFalse=>cases hd
  simp only[List.take_zero,z99] at hd;subst hd;exact .empty _ _ _ _ (by omega)
 |ptr L i j off hL hn =>
  simp only[AV.toD] at hd;split at hd
  case isFalse=>cases hd
  rename_i hij;obtain⟨rfl,rfl⟩:=hij;split at hd
  case h_2=>cases hd
  rename_i ob hob;split at hd
  case h_2=>cases hd
  rename_i u hcont;split at hd
  case isFalse=>cases hd
  rename_i hc;simp only[z94] at hd;obtain⟨e,he,rfl⟩:=hd;obtain⟨L',hL',hok⟩:=h.objs i ob (hM _ _ hob);rw[hL] at hL';cases hL';obtain⟨c,fr,k1,k2,k3,k4,k5⟩:=hok.at_ hn;rw[hcont] at k3;obtain⟨m1,m2,m3,m4⟩:=k3;obtain⟨g1,g2⟩:=WE he m3;rw[show L.o+(0*L.sz+0)=L.o by omega];refine .ref L.b L.o ob.T e c fr k1 (hO i ob L hob hc hL hn) (fun q hq => ?_) (fun p q hp => ?_) (fun p q hp => ?_)
  ·obtain⟨p,hp⟩:=z9q hq;exact (g2 p q hp).1
  ·have:=(z98.1 hp).1;omega
  ·obtain⟨_,y,m,r1,r2,r3⟩:=g2 p q hp;exact ih m (by omega) y _ q r3 (m4 p y r2)
theorem WF {any:Bool}{N':Nat→Prop} (h:Rel w0 base nt loc s a w) (hN:∀b,NB base s.m loc w b→N' b)
  (hO:∀id o L,s.m id=some o→(o.frz||any)=true→loc id=some L→L.nil=false→N' L.b) :
  ∀(n:Nat) (x:AV) (v:Value) (d:D),x.toD any s.m n=some d→RV w (NB base s.m loc w) loc v x→V w N' v d:=tq h (fun _ _ h=>h) hN hO
end
set_option linter.unusedSimpArgs false
open Go.RowKit
section
variable {P:Program}{w0:World}{base:Bs}{nt:Nat}{loc:aX}{s t:St}{a:Act}{w:World}{o:Oper}{id:Nat}{d:AV}
theorem f9 (h:Rel w0 base nt loc s a w){n:Nat}{x:AV}{v:Value}{d:D} (hd:x.toD false s.m n=some d) (hv:RV w (NB base s.m loc w) loc v x):V w (NB base s.m loc w) v d:=by
 refine WF h (fun _ h=>h) (fun id o L ho hf hL hn => ?_) n x v d hd hv;obtain⟨L',hL',hok⟩:=h.objs id o ho;rw[hL] at hL';cases hL';obtain⟨c,fr,k1,k2,k3,k4,k5⟩:=hok.at_ hn;exact k5 (by simpa using hf)
theorem vz {d:D} (h:d.cells.all D.one=true):∀l,d≠.tup l:=by
 rintro l rfl;simp[D.cells,D.one] at h
theorem pB {l:List AV} (h1:∀e∈l,e.one=true):(AV.mk l).cells.length=l.length∧(∀e∈(AV.mk l).cells,e.one=true) ∧
  ∀(w:World) (N:Nat→Prop) (loc:aX) (v:Value) (r:Nat) (z:AV),(AV.mk l).cells[r]? = some z→(∀e,l[r]? = some e→RV w N loc v e)→RV w N loc v z:=by
 unfold AV.mk;split
 ·rename_i ds hds;obtain⟨g1,g2⟩:=mJ hds;refine⟨by simp[AV.cells,D.cells,g1],fun e he => ?_,fun w N loc v r z hz hr => ?_⟩
  ·simp only[AV.cells,D.cells,z9Q] at he;obtain⟨q,hq,rfl⟩:=he;obtain⟨i,hi⟩:=z9q hq;obtain⟨x,hx,hp⟩:=g2 i q hi;have:=h1 x (z90 hx);cases x<;>simp[AV.one] at this<;>simp[AV.pure] at hp
   ·subst hp;exact this
   ·subst hp;rfl
  ·simp only[AV.cells,D.cells,z9B,z94] at hz;obtain⟨q,hq,rfl⟩:=hz;obtain⟨x,hx,hp⟩:=g2 r q hq;exact .p _ _ ((hr x hx).pure hp)
 ·exact⟨rfl,h1,fun w N loc v r z hz hr=>hr z hz⟩
theorem vA (l:List D):(D.agg l).cells=l:=rfl
theorem zbL {T:TypeId}{ag:Bool}{sz:Nat}{x v:Operand} (h:Rel w0 base nt loc s a w) (ho:o.op = .store T x v) (hT:bU P T ag sz){U W:Option TypeId}
  (he:ev (.store sz (opd P U x) (opd P W v)) id s=some (true,d,t)):aM P w0 base nt o a w t d:=by
 have hx:=h.opd (P:=P) U x;have hv:=h.opd (P:=P) W v;simp only[ev] at he;split at he
 case h_2=>cases he
 rename_i i j off hk;rw[hk] at hx;generalize hxv:a.eval x=xv at hx;cases hx with
 |ptr L _ _ _ hL hn =>
 have goal:∀(ob:AObj) (k:Cont),s.m i=some ob→ob.frz=false→(a.eval v).cells.size=sz→(∀u∈(a.eval v).cells.toList,u.oneCell'=true) →
   (∀c,c.size=L.n→bF w (NB base s.m loc w) loc c L.o ob.sz ob.cont→L.o+(j*L.sz+off)+sz≤c.size) →
   (∀(w':World) (c:Array Value),w.heap.size≤w'.heap.size→(∀b,NB base s.m loc w b→w'.heap[b]? = w.heap[b]?)→bF w' (NB base s.m loc w') loc c L.o ob.sz ob.cont→c.size=L.n→bF w' (NB base s.m loc w') loc (cq c (L.o+(j*L.sz+off)) (a.eval v).cells.toList) L.o ob.sz k) →
   aM P w0 base nt o a w ⟨s.r,upd s.m i (some ⟨ob.T,ob.sz,k,false⟩)⟩ .und:=by
  intro ob k hob hf hsz h1 hfit hk';have hrel:=h.write hob hf hL hn hk';refine⟨undef,_,loc,.inr ⟨?_,rfl⟩,hrel,.und _⟩;obtain⟨L',hL',hok⟩:=h.objs i ob hob;rw[hL] at hL';cases hL';obtain⟨c,fr,k1,k2,k3,k4,k5⟩:=hok.at_ hn;have hr:=Uw (P:=P) (v:=a.eval v) hT k1 (hfit c k2 k3) hsz (fun y hy=>(k4 hf).2 y (by omega)) h1;simp[execOp,ho,hxv,hr]
 split at he
 ·rename_i T' osz l hm;split at he
  case h_2=>cases he
  rename_i e hd;split at he
  case isFalse=>cases he
  rename_i hc;obtain⟨hc1,hc2⟩:=hc;have hV:=f9 h hd hv;obtain⟨g1,g2⟩:=hV.cells (vz hc2);split at he
  case isFalse =>
   split at he
   case isFalse=>cases he
   rename_i hoff;simp only[z99,z97,z8T] at he;obtain⟨hj,rfl,rfl⟩:=he;obtain⟨L',hL',hok⟩:=h.objs i _ hm;rw[hL] at hL';cases hL';have hLs:L.sz=osz:=hok.sz;have hmul:j*osz+osz≤l.length*osz:=by
    have:=z92 osz (show j+1≤l.length by omega);rw[z9F] at this;omega
   have hvs:(a.eval v).cells.toList.length=sz:=by simp;omega
   obtain⟨e0,he0⟩:∃e0,l.getD j default=e0:=⟨_,rfl⟩
   rw[he0];have he0m:l[j]? = some e0:=by
    rw[←he0,z9P hj];simp[hj]
   refine goal _ (.row (l.set j (.agg (e0.cells.take off++e.cells++e0.cells.drop (off+sz))))) hm rfl (by omega) (fun u hu => ?_) (fun c hcs hcc => ?_) (fun w' c hws hw' hcc hcs => ?_)
   ·obtain⟨p,hp⟩:=z9q hu;have hlt:=(z98.1 hp).1;have hq:e.cells[p]? = some (e.cells[p]'(by simp at hlt;omega)):=by simp
    have:=g2 p _ hq;have hu':(a.eval v).cells.getD p undef=u:=by simpa using congrArg (·.getD undef) hp
    rw[hu'] at this;exact this.2.one this.1
   ·have:=hcc.1;rw[hLs];simp only at this;omega
   ·obtain⟨m1,m2,m3⟩:=hcc;simp only at m1 m2 m3;have hel:=m2 e0 (z90 he0m);have hcl:(D.agg (e0.cells.take off++e.cells++e0.cells.drop (off+sz))).cells.length=osz:=by
     rw[vA];simp only[z96,z9N,z86];omega
    refine⟨by simpa using m1,fun q hq => ?_,fun p q r z hp hr => ?_⟩
    ·rcases List.mem_or_eq_of_mem_set hq with hq | rfl
     ·exact m2 q hq
     ·exact hcl
    ·rw[hLs];by_cases hpj:p=j
     ·subst hpj;have hqe:q = .agg (e0.cells.take off++e.cells++e0.cells.drop (off+sz)):=by
       rw[List.getElem?_set_self hj] at hp;simpa using hp.symm
      subst hqe;have hrl:r<osz:=by have:=(z98.1 hr).1;omega
      rw[vA] at hr;have hout:r<off∨off+sz≤r→e0.cells[r]? = some z:=fun hx=>by
       rcases hx with hx | hx
       ·rw[z9A,z9v (by simp;omega),z9t hx] at hr;exact hr
       ·rw[z9z (by simp;omega)] at hr;rw[z9s] at hr;rw[←hr];congr 1
        simp;omega
      by_cases hx:r<off∨off+sz≤r
      ·obtain⟨q1,q2⟩:=m3 p e0 r z he0m (hout hx);dsimp only;rw[dc]
       ·exact⟨q1,q2⟩
       ·rw[hvs];rcases hx with hx | hx
        ·left;omega
        ·right;omega
      ·have hz:e.cells[r-off]? = some z:=by
        rw[z9A,z9z (by simp;omega),z9v (by simp;omega)] at hr;rw[←hr];congr 1;simp;omega
       obtain⟨q1,q2⟩:=g2 (r-off) z hz;have hin:=eE (a.eval v).cells.toList (L.o+(p*osz+off)) c (r-off) (by rw[hvs];omega) (by rw[hvs];omega);rw[show L.o+(p*osz+r)=L.o+(p*osz+off)+(r-off) by omega,hin];have hz':(a.eval v).cells.toList.getD (r-off) undef=(a.eval v).cells.getD (r-off) undef:=by simp
       rw[hz'];exact⟨q1,q2.mono hw' (fun b hb=>⟨z9n hb.1 hws,hb.2⟩)⟩
     ·have hp':l[p]? = some q:=by rwa[List.getElem?_set_ne (by omega)] at hp
      obtain⟨q1,q2⟩:=m3 p q r z hp' hr;have hrl:r<osz:=by have:=(z98.1 hr).1;have:=m2 q (z90 hp');omega
      dsimp only;rw[dc]
      ·exact⟨q1,q2⟩
      ·rw[hvs];rcases Nat.lt_or_gt_of_ne hpj with hlt | hgt
       ·left
        have:=z92 osz (show p+1≤j by omega);rw[z9F] at this;omega
       ·right
        have:=z92 osz (show j+1≤p by omega);rw[z9F] at this;omega
  rename_i hoff;obtain⟨rfl,rfl⟩:=hoff;simp only[z99,z97,z8T] at he;obtain⟨hj,rfl,rfl⟩:=he;obtain⟨L',hL',hok⟩:=h.objs i _ hm;rw[hL] at hL';cases hL';have hLs:L.sz=sz:=hok.sz;have hmul:j*sz+sz≤l.length*sz:=by
   have:=z92 sz (show j+1≤l.length by omega);rw[z9F] at this;omega
  have hvs:(a.eval v).cells.toList.length=sz:=by simp;omega
  refine goal _ (.row (l.set j e)) hm rfl (by omega) (fun u hu => ?_) (fun c hcs hcc => ?_) (fun w' c hws hw' hcc hcs => ?_)
  ·obtain⟨p,hp⟩:=z9q hu;have hlt:=(z98.1 hp).1;have hq:e.cells[p]? = some (e.cells[p]'(by simp at hlt;omega)):=by simp
   have:=g2 p _ hq;have hu':(a.eval v).cells.getD p undef=u:=by simpa using congrArg (·.getD undef) hp
   rw[hu'] at this;exact this.2.one this.1
  ·have:=hcc.1;rw[hLs];simp only at this;omega
  ·obtain⟨m1,m2,m3⟩:=hcc;simp only at m1 m2 m3;refine⟨by simpa using m1,fun q hq => ?_,fun p q r z hp hr => ?_⟩
   ·rcases List.mem_or_eq_of_mem_set hq with hq | rfl
    ·exact m2 q hq
    ·exact hc1
   ·rw[hLs];by_cases hpj:p=j
    ·subst hpj;have hqe:q=e:=by
      rw[List.getElem?_set_self (by omega)] at hp;simpa using hp.symm
     subst hqe;have hrl:r<sz:=by have:=(z98.1 hr).1;omega
     have hin:=eE (a.eval v).cells.toList (L.o+(p*sz+0)) c r (by rw[hvs];omega) (by rw[hvs];exact hrl);rw[show L.o+(p*sz+r)=L.o+(p*sz+0)+r by omega,hin];obtain⟨q1,q2⟩:=g2 r z hr;have hz:(a.eval v).cells.toList.getD r undef=(a.eval v).cells.getD r undef:=by simp
     rw[hz];exact⟨q1,q2.mono hw' (fun b hb=>⟨z9n hb.1 hws,hb.2⟩)⟩
    ·have hp':l[p]? = some q:=by rwa[List.getElem?_set_ne (by omega)] at hp
     obtain⟨q1,q2⟩:=m3 p q r z hp' hr;have hrl:r<sz:=by have:=(z98.1 hr).1;have:=m2 q (z90 hp');omega
     dsimp only;rw[dc]
     ·exact⟨q1,q2⟩
     ·rw[hvs];rcases Nat.lt_or_gt_of_ne hpj with hlt | hgt
      ·left
       have:=z92 sz (show p+1≤j by omega);rw[z9F] at this;omega
      ·right
       have:=z92 sz (show j+1≤p by omega);rw[z9F] at this;omega
 ·rename_i T' osz u hm;split at he
  case isFalse=>cases he
  rename_i hc;obtain⟨hc1,hc2,rfl⟩:=hc;rw[z9C] at hc2;obtain⟨g1,g2⟩:=hv.cells hc2;obtain⟨L',hL',hok⟩:=h.objs i _ hm;rw[hL] at hL';cases hL';have hLs:L.sz=osz:=hok.sz;have hvs:(a.eval v).cells.toList.length=sz:=by simp;omega
  have hone:∀q∈(a.eval v).cells.toList,q.oneCell'=true:=by
   intro q hq;obtain⟨p,hp⟩:=z9q hq;have hlt:=(z98.1 hp).1;have hy:((opd P W v).ev s.r).cells[p]? = some (((opd P W v).ev s.r).cells[p]'(by simp at hlt;omega)):=by simp
   have:=g2 p _ hy;have hu':(a.eval v).cells.getD p undef=q:=by simpa using congrArg (·.getD undef) hp
   rw[hu'] at this;exact this.one (hc2 _ (z90 hy))
  have hin:∀(w':World) (c:Array Value),w.heap.size≤w'.heap.size→(∀b,NB base s.m loc w b→w'.heap[b]? = w.heap[b]?)→L.o+off+sz≤c.size→∀r z,((opd P W v).ev s.r).cells[r]? = some z→RV w' (NB base s.m loc w') loc ((cq c (L.o+(0*L.sz+off)) (a.eval v).cells.toList).getD (L.o+(off+r)) undef) z:=by
   intro w' c hws hw' hfit r z hr;have hrl:r<sz:=by have:=(z98.1 hr).1;omega
   have hin:=eE (a.eval v).cells.toList (L.o+(0*L.sz+off)) c r (by rw[hvs];omega) (by rw[hvs];exact hrl);rw[show L.o+(off+r)=L.o+(0*L.sz+off)+r by omega,hin];have hz:(a.eval v).cells.toList.getD r undef=(a.eval v).cells.getD r undef:=by simp
   rw[hz];exact (g2 r z hr).mono hw' (fun b hb=>⟨z9n hb.1 hws,hb.2⟩) (fun _ _ x=>x)
  split at he
  ·rename_i hoff;obtain⟨rfl,rfl⟩:=hoff;simp only[z99,z97,true_and] at he;obtain⟨rfl,rfl⟩:=he;refine goal _ (.box ((opd P W v).ev s.r)) hm rfl (by omega) hone (fun c hcs hcc => ?_) (fun w' c hws hw' hcc hcs => ?_)
   ·have:=hcc.1;simp only at this;omega
   ·obtain⟨m1,m2,m3,m4⟩:=hcc;simp only at m1;refine⟨by simpa using m1,hc1,hc2,fun r z hr => ?_⟩;have:=hin w' c hws hw' (by omega) r z hr
    rwa[z9o] at this
  ·split at he
   case isFalse=>cases he
   rename_i hle;simp only[z99,z97,true_and] at he;obtain⟨rfl,rfl⟩:=he;refine goal _ (.box (AV.mk (u.cells.take off++((opd P W v).ev s.r).cells++u.cells.drop (off+sz)))) hm rfl (by omega) hone (fun c hcs hcc => ?_) (fun w' c hws hw' hcc hcs => ?_)
   ·have:=hcc.1;simp only at this;omega
   ·obtain⟨m1,m2,m3,m4⟩:=hcc;simp only at m1 m2 m3 m4;have hall:∀e∈u.cells.take off++((opd P W v).ev s.r).cells++u.cells.drop (off+sz),e.one=true:=by
     intro e he;rcases z9y.1 he with he | he
     ·rcases z9y.1 he with he | he
      ·exact m3 e (z9M he)
      ·exact hc2 e he
     ·exact m3 e (z9r he)
    have hlen:(u.cells.take off++((opd P W v).ev s.r).cells++u.cells.drop (off+sz)).length=osz:=by simp;omega
    obtain⟨k1,k2,k3⟩:=pB hall;refine⟨by simpa using m1,by rw[k1];exact hlen,k2,fun r z hr => ?_⟩;refine k3 w' _ loc _ r z hr fun e he => ?_
    by_cases h1:r<off
    ·rw[z9A,z9v (by simp;omega),z9t h1] at he;rw[dc _ _ _ _ (.inl (by omega))];exact m4 r e he
    ·by_cases h2:r<off+sz
     ·have:=hin w' c hws hw' (by omega) (r-off) e (by
       rw[z9A,z9z (by simp;omega),z9v (by simp;omega)] at he;simpa[show min off u.cells.length=off by omega] using he)
      rwa[show L.o+(off+(r-off))=L.o+r by omega] at this
     ·rw[z9z (by simp;omega)] at he;simp only[z96,z9N,z9s] at he;rw[show off+sz+(r-(min off u.cells.length+((opd P W v).ev s.r).cells.length))=r by omega] at he;rw[dc _ _ _ _ (.inr (by rw[hvs];omega))];exact m4 r e he
 ·rename_i T' osz hm;split at he
  case isFalse=>cases he
  rename_i hc;obtain⟨hc1,hc2,rfl⟩:=hc;rw[z9C] at hc2;obtain⟨g1,g2⟩:=hv.cells hc2;obtain⟨L',hL',hok⟩:=h.objs i _ hm;rw[hL] at hL';cases hL';have hLs:L.sz=osz:=hok.sz;have hvs:(a.eval v).cells.toList.length=sz:=by simp;omega
  have hone:∀q∈(a.eval v).cells.toList,q.oneCell'=true:=by
   intro q hq;obtain⟨p,hp⟩:=z9q hq;have hlt:=(z98.1 hp).1;have hy:((opd P W v).ev s.r).cells[p]? = some (((opd P W v).ev s.r).cells[p]'(by simp at hlt;omega)):=by simp
   have:=g2 p _ hy;have hu':(a.eval v).cells.getD p undef=q:=by simpa using congrArg (·.getD undef) hp
   rw[hu'] at this;exact this.one (hc2 _ (z90 hy))
  have hin:∀(w':World) (c:Array Value),w.heap.size≤w'.heap.size→(∀b,NB base s.m loc w b→w'.heap[b]? = w.heap[b]?)→L.o+off+sz≤c.size→∀r z,((opd P W v).ev s.r).cells[r]? = some z→RV w' (NB base s.m loc w') loc ((cq c (L.o+(0*L.sz+off)) (a.eval v).cells.toList).getD (L.o+(off+r)) undef) z:=by
   intro w' c hws hw' hfit r z hr;have hrl:r<sz:=by have:=(z98.1 hr).1;omega
   have hin:=eE (a.eval v).cells.toList (L.o+(0*L.sz+off)) c r (by rw[hvs];omega) (by rw[hvs];exact hrl);rw[show L.o+(off+r)=L.o+(0*L.sz+off)+r by omega,hin];have hz:(a.eval v).cells.toList.getD r undef=(a.eval v).cells.getD r undef:=by simp
   rw[hz];exact (g2 r z hr).mono hw' (fun b hb=>⟨z9n hb.1 hws,hb.2⟩) (fun _ _ x=>x)
  split at he
  ·rename_i hoff;obtain⟨rfl,rfl⟩:=hoff;simp only[z99,z97,true_and] at he;obtain⟨rfl,rfl⟩:=he;refine goal _ (.box ((opd P W v).ev s.r)) hm rfl (by omega) hone (fun c hcs hcc => ?_) (fun w' c hws hw' hcc hcs => ?_)
   ·have:=hcc;simp only[bF] at this;omega
   ·have m1:=hcc;simp only[bF] at m1;refine⟨by simpa using m1,hc1,hc2,fun r z hr => ?_⟩;have:=hin w' c hws hw' (by omega) r z hr
    rwa[z9o] at this
  ·cases he
 ·cases he
end
end Go.Proofs.YtbnhgnhgbhjkcaaGreat.M
