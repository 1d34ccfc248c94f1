/- The small machine: what is handed on as plain data; stores; structs and slices that are written out. The small machine: the model does what the small machine says: stores, structs and slices that are written out. The small machine: structs and slices that are written out; append. The small machine: any operation but a call. -/
import Derived.Test.YtdjbfgfbpimakaaK1
import Derived.Laws.Tables
import Derived.Laws.StructEq
section
namespace Go.Proofs.Ytdjbfgfbpimakaa.M
open Go.RowKit
section
variable {P:Program} {w0:World} {base:Nat→Prop} {nt:Nat} {loc:Locs} {s t:St} {a:Act} {w:World} {o:Oper} {id:Nat} {d:AV}
theorem toDL_spec {any:Bool} {M:Mem}:∀ {n:Nat} {l:List AV} {ds:List D},toDL any M n l=some ds→l.length=ds.length∧∀ (i:Nat) (e:D),ds[i]? = some e→∃ (x:AV) (m:Nat),m<n∧l[i]? = some x∧x.toD any M m=some e
 | 0,l,ds,h=>by simp[toDL] at h
 | n+1,[],ds,h=>by
  simp only[toDL,Option.some.injEq] at h
  subst h
  exact⟨rfl,fun i d h=>by simp at h⟩
 | n+1,v::l,ds,h=>by
  simp only[toDL] at h
  split at h
  ·rename_i d ds' h1 h2
   simp only[Option.some.injEq] at h
   subst h
   obtain⟨g1,g2⟩:=toDL_spec h2
   refine⟨by simp[g1],fun i d' hi => ?_⟩
   match i,hi with
   | 0,hi=>simp at hi;subst hi;exact⟨v,n,by omega,rfl,h1⟩
   | i+1,hi =>
    obtain⟨x,m,k1,k2,k3⟩:=g2 i d' (by simpa using hi)
    exact⟨x,m,by omega,by simpa using k2,k3⟩
  ·cases h
theorem toD_one {any:Bool} {M:Mem} {n:Nat} {x:AV} {d:D} (h:x.toD any M n=some d) (h1:x.one=true):d.one=true:=by
 cases n with
 | zero=>simp[AV.toD] at h
 | succ n =>
  cases x with
  | p e=>simp[AV.toD] at h;subst h;exact h1
  | nils T sz=>simp[AV.toD] at h;subst h;rfl
  | slice i off len =>
   simp only[AV.toD] at h
   split at h
   ·split at h
    ·split at h
     ·simp only[Option.some.injEq] at h;subst h;rfl
     ·cases h
    ·cases h
   ·cases h
  | ptr i j off =>
   simp only[AV.toD] at h
   split at h
   ·split at h
    ·split at h
     ·split at h
      ·simp only[Option.map_eq_some_iff] at h;obtain⟨e,-,rfl⟩:=h;rfl
      ·cases h
     ·cases h
    ·cases h
   ·cases h
  | _=>simp[AV.one] at h1
theorem toD_cells {any:Bool} {M:Mem} {n:Nat} {x:AV} {d:D} (h:x.toD any M n=some d) (h1:∀ e∈x.cells,e.one=true) :
  d.cells.length=x.cells.length∧∀ (j:Nat) (e:D),d.cells[j]? = some e→e.one=true∧∃ (y:AV) (m:Nat),m≤n∧x.cells[j]? = some y∧y.toD any M m=some e:=by
 cases n with
 | zero=>simp[AV.toD] at h
 | succ n =>
  have single:x.one=true→x.cells=[x]→d.cells.length=x.cells.length∧∀ (j:Nat) (e:D),d.cells[j]? = some e→e.one=true∧∃ (y:AV) (m:Nat),m≤n+1∧x.cells[j]? = some y∧y.toD any M m=some e:=by
   intro ho hc
   have hd:=toD_one h ho
   have hdc:d.cells=[d]:=by cases d<;>first | rfl | simp[D.one] at hd
   rw[hc,hdc]
   refine⟨rfl,fun j e hj => ?_⟩
   match j,hj with
   | 0,hj=>simp at hj;subst hj;exact⟨hd,x,n+1,Nat.le_refl _,rfl,h⟩
   | j+1,hj=>simp at hj
  cases x with
  | p e =>
   simp[AV.toD] at h
   subst h
   refine⟨by simp[AV.cells],fun j q hq => ?_⟩
   have hm:(AV.p e).cells[j]? = some (.p q):=by simp[AV.cells,hq]
   exact⟨h1 (.p q) (List.mem_of_getElem? hm),.p q,n+1,Nat.le_refl _,hm,by simp[AV.toD]⟩
  | agg l =>
   simp only[AV.toD,Option.map_eq_some_iff] at h
   obtain⟨ds,hds,rfl⟩:=h
   obtain⟨g1,g2⟩:=toDL_spec hds
   refine⟨g1.symm,fun j e hj => ?_⟩
   obtain⟨y,m,k1,k2,k3⟩:=g2 j e hj
   exact⟨toD_one k3 (h1 y (List.mem_of_getElem? k2)),y,m,by omega,k2,k3⟩
  | nils T sz=>exact single rfl rfl
  | slice i off len=>exact single rfl rfl
  | ptr i j off=>exact single rfl rfl
  | und=>simp[AV.cells,AV.one] at h1
  | tup l=>simp[AV.cells,AV.one] at h1
theorem toD_ok {any:Bool} {N':Nat→Prop} (h:Rel w0 base nt loc s a w) (hN:∀ b,NB base s.m loc w b→N' b)
  (hO:∀ id o L,s.m id=some o→(o.frz||any)=true→loc id=some L→L.nil=false→N' L.b) :
  ∀ (n:Nat) (x:AV) (v:Value) (d:D),x.toD any s.m n=some d→RV w (NB base s.m loc w) loc v x→V w N' v d:=by
 intro n
 induction n using Nat.strongRecOn with
 | _ n ih =>
 intro x v d hd hv
 cases n with
 | zero=>simp[AV.toD] at hd
 | succ n =>
 cases hv with
 | und=>simp[AV.toD] at hd
 | p _ e hV =>
  simp[AV.toD] at hd
  subst hd
  exact hV.mono (fun _ _=>rfl) hN
 | nils T sz =>
  simp[AV.toD] at hd
  subst hd
  exact .empty _ _ _ _ (by omega)
 | agg cs l h1 h2 h3 =>
  simp only[AV.toD,Option.map_eq_some_iff] at hd
  obtain⟨ds,hds,rfl⟩:=hd
  obtain⟨g1,g2⟩:=toDL_spec hds
  refine .agg _ _ (h1.trans g1) (fun e he => ?_) (fun i e hi => ?_)
  ·obtain⟨i,hi⟩:=List.getElem?_of_mem he
   obtain⟨y,m,k1,k2,k3⟩:=g2 i e hi
   exact toD_one k3 (h2 y (List.mem_of_getElem? k2))
  ·obtain⟨y,m,k1,k2,k3⟩:=g2 i e hi
   exact ih m (by omega) y _ e k3 (h3 i y k2)
 | tup cs l h1 h3 =>
  simp only[AV.toD,Option.map_eq_some_iff] at hd
  obtain⟨ds,hds,rfl⟩:=hd
  obtain⟨g1,g2⟩:=toDL_spec hds
  refine .tup _ _ (h1.trans g1) (fun i e hi => ?_)
  obtain⟨y,m,k1,k2,k3⟩:=g2 i e hi
  exact ih m (by omega) y _ e k3 (h3 i y k2)
 | slice L i off len cap hL hn h3 h4 h5 =>
  simp only[AV.toD] at hd
  split at hd
  case h_2=>cases hd
  rename_i ob hob
  split at hd
  case h_2=>cases hd
  rename_i l hcont
  split at hd
  case isFalse=>cases hd
  rename_i hc
  simp only[Bool.and_eq_true,decide_eq_true_eq] at hc
  simp only[Option.some.injEq] at hd
  subst hd
  obtain⟨L',hL',hok⟩:=h.objs i ob hob
  rw[hL] at hL'
  cases hL'
  obtain⟨c,fr,k1,k2,k3,k4,k5⟩:=hok.at_ hn
  rw[hcont] at k3
  obtain⟨m1,m2,m3⟩:=k3
  have hsz:=hok.sz
  have hlen:((l.drop off).take len).length=len:=by simp;omega
  have idx:∀ j e,((l.drop off).take len)[j]? = some e→l[off+j]? = some e:=by
   intro j e hj
   have hlt:j<len:=by have:=(List.getElem?_eq_some_iff.1 hj).1;omega
   rw[List.getElem?_take_of_lt hlt,List.getElem?_drop] at hj
   exact hj
  have:=V.list (w:=w) (N:=N') L.b (L.o+off*L.sz) cap ob.T ob.sz ((l.drop off).take len) c fr (.of k1) (hO i ob L hob hc.1 hL hn) (by omega) h4
   (fun e he=>by
    have hm:=List.mem_of_mem_drop (List.mem_of_mem_take he)
    refine⟨m2 e hm,fun q hq => ?_⟩
    obtain⟨p,hp⟩:=List.getElem?_of_mem hm
    obtain⟨r,hr⟩:=List.getElem?_of_mem hq
    exact (m3 p e r q hp hr).1)
   (fun p e r q hp hr=>by
    have hle:=idx p e hp
    have hlt:=(List.getElem?_eq_some_iff.1 hle).1
    have hrl:r<ob.sz:=by have:=(List.getElem?_eq_some_iff.1 hr).1;have:=m2 e (List.mem_of_getElem? hle);omega
    have hmul:=Nat.mul_le_mul_right ob.sz (show off+p+1≤l.length by omega)
    rw[Nat.add_mul,Nat.add_mul] at hmul
    rw[hsz];omega)
   (fun p e r q hp hr=>by
    have:=(m3 _ e r q (idx p e hp) hr).2
    rw[show L.o+((off+p)*ob.sz+r)=L.o+off*L.sz+(p*ob.sz+r) by rw[hsz,Nat.add_mul];omega] at this
    exact this.mono (fun _ _=>rfl) hN)
  rw[hlen] at this
  exact this
 | sliceEmp L i off p hL =>
  simp only[AV.toD] at hd
  split at hd
  case h_2=>cases hd
  rename_i ob hob
  split at hd
  case h_2=>cases hd
  rename_i l hcont
  split at hd
  case isFalse=>cases hd
  simp only[List.take_zero,Option.some.injEq] at hd
  subst hd
  exact .empty _ _ _ _ (by omega)
 | ptr L i j off hL hn =>
  simp only[AV.toD] at hd
  split at hd
  case isFalse=>cases hd
  rename_i hij
  obtain⟨rfl,rfl⟩:=hij
  split at hd
  case h_2=>cases hd
  rename_i ob hob
  split at hd
  case h_2=>cases hd
  rename_i u hcont
  split at hd
  case isFalse=>cases hd
  rename_i hc
  simp only[Option.map_eq_some_iff] at hd
  obtain⟨e,he,rfl⟩:=hd
  obtain⟨L',hL',hok⟩:=h.objs i ob hob
  rw[hL] at hL'
  cases hL'
  obtain⟨c,fr,k1,k2,k3,k4,k5⟩:=hok.at_ hn
  rw[hcont] at k3
  obtain⟨m1,m2,m3,m4⟩:=k3
  obtain⟨g1,g2⟩:=toD_cells he m3
  rw[show L.o+(0*L.sz+0)=L.o by omega]
  refine .ref L.b L.o ob.T e c fr k1 (hO i ob L hob hc hL hn) (fun q hq => ?_) (fun p q hp => ?_) (fun p q hp => ?_)
  ·obtain⟨p,hp⟩:=List.getElem?_of_mem hq
   exact (g2 p q hp).1
  ·have:=(List.getElem?_eq_some_iff.1 hp).1;omega
  ·obtain⟨_,y,m,r1,r2,r3⟩:=g2 p q hp
   exact ih m (by omega) y _ q r3 (m4 p y r2)
end
end Go.Proofs.Ytdjbfgfbpimakaa.M
end

section
namespace Go.Proofs.Ytdjbfgfbpimakaa.M
open Go.RowKit
section
variable {P:Program} {w0:World} {base:Nat→Prop} {nt:Nat} {loc:Locs} {s t:St} {a:Act} {w:World} {o:Oper} {id:Nat} {d:AV}
theorem toD_pure (h:Rel w0 base nt loc s a w) {n:Nat} {x:AV} {v:Value} {d:D} (hd:x.toD false s.m n=some d) (hv:RV w (NB base s.m loc w) loc v x):V w (NB base s.m loc w) v d:=by
 refine toD_ok h (fun _ h=>h) (fun id o L ho hf hL hn => ?_) n x v d hd hv
 obtain⟨L',hL',hok⟩:=h.objs id o ho
 rw[hL] at hL'
 cases hL'
 obtain⟨c,fr,k1,k2,k3,k4,k5⟩:=hok.at_ hn
 exact k5 (by simpa using hf)
theorem cells_not_tup {d:D} (h:d.cells.all D.one=true):∀ l,d≠.tup l:=by
 rintro l rfl
 simp[D.cells,D.one] at h
theorem mk_cells {l:List AV} (h1:∀ e∈l,e.one=true):(AV.mk l).cells.length=l.length∧(∀ e∈(AV.mk l).cells,e.one=true) ∧
  ∀ (w:World) (N:Nat→Prop) (loc:Locs) (v:Value) (r:Nat) (z:AV),(AV.mk l).cells[r]? = some z→(∀ e,l[r]? = some e→RV w N loc v e)→RV w N loc v z:=by
 unfold AV.mk
 split
 ·rename_i ds hds
  obtain⟨g1,g2⟩:=pureL_spec hds
  refine⟨by simp[AV.cells,D.cells,g1],fun e he => ?_,fun w N loc v r z hz hr => ?_⟩
  ·simp only[AV.cells,D.cells,List.mem_map] at he
   obtain⟨q,hq,rfl⟩:=he
   obtain⟨i,hi⟩:=List.getElem?_of_mem hq
   obtain⟨x,hx,hp⟩:=g2 i q hi
   have:=h1 x (List.mem_of_getElem? hx)
   cases x<;>simp[AV.one] at this<;>simp[AV.pure] at hp
   ·subst hp;exact this
   ·subst hp;rfl
  ·simp only[AV.cells,D.cells,List.getElem?_map,Option.map_eq_some_iff] at hz
   obtain⟨q,hq,rfl⟩:=hz
   obtain⟨x,hx,hp⟩:=g2 r q hq
   exact .p _ _ ((hr x hx).pure hp)
 ·exact⟨rfl,h1,fun w N loc v r z hz hr=>hr z hz⟩
theorem sim_store {T:TypeId} {ag:Bool} {sz:Nat} {x v:Operand} (h:Rel w0 base nt loc s a w) (ho:o.op = .store T x v) (hT:TyOk P T ag sz) {U W:Option TypeId}
  (he:ev (.store sz (opd P U x) (opd P W v)) id s=some (true,d,t)):Good P w0 base nt o a w t d:=by
 have hx:=h.opd (P:=P) U x
 have hv:=h.opd (P:=P) W v
 simp only[ev] at he
 split at he
 case h_2=>cases he
 rename_i i j off hk
 rw[hk] at hx
 generalize hxv:a.eval x=xv at hx
 cases hx with
 | ptr L _ _ _ hL hn =>
 have goal:∀ (ob:AObj) (k:Cont),s.m i=some ob→ob.frz=false→(a.eval v).cells.size=sz→(∀ u∈(a.eval v).cells.toList,u.oneCell'=true) →
   (∀ c,c.size=L.n→ContOk w (NB base s.m loc w) loc c L.o ob.sz ob.cont→L.o+(j*L.sz+off)+sz≤c.size) →
   (∀ (w':World) (c:Array Value),w.heap.size≤w'.heap.size→(∀ b,NB base s.m loc w b→w'.heap[b]? = w.heap[b]?)→ContOk w' (NB base s.m loc w') loc c L.o ob.sz ob.cont→c.size=L.n→ContOk w' (NB base s.m loc w') loc (setC c (L.o+(j*L.sz+off)) (a.eval v).cells.toList) L.o ob.sz k) →
   Good P w0 base nt o a w ⟨s.r,upd s.m i (some ⟨ob.T,ob.sz,k,false⟩)⟩ .und:=by
  intro ob k hob hf hsz h1 hfit hk'
  have hrel:=h.write hob hf hL hn hk'
  refine⟨undef,_,loc,.inr ⟨?_,rfl⟩,hrel,.und _⟩
  obtain⟨L',hL',hok⟩:=h.objs i ob hob
  rw[hL] at hL'
  cases hL'
  obtain⟨c,fr,k1,k2,k3,k4,k5⟩:=hok.at_ hn
  have hr:=run_storeAt (P:=P) (v:=a.eval v) hT k1 (hfit c k2 k3) hsz (fun y hy=>(k4 hf).2 y (by omega)) h1
  simp[execOp,ho,hxv,hr]
 split at he
 ·rename_i T' osz l hm
  split at he
  case h_2=>cases he
  rename_i e hd
  split at he
  case isFalse=>cases he
  rename_i hc
  obtain⟨hc1,hc2⟩:=hc
  split at he
  case isFalse=>cases he
  rename_i hoff
  obtain⟨rfl,rfl⟩:=hoff
  simp only[Option.some.injEq,Prod.mk.injEq,decide_eq_true_eq] at he
  obtain⟨hj,rfl,rfl⟩:=he
  have hV:=toD_pure h hd hv
  obtain⟨g1,g2⟩:=hV.cells (cells_not_tup hc2)
  obtain⟨L',hL',hok⟩:=h.objs i _ hm
  rw[hL] at hL'
  cases hL'
  have hLs:L.sz=sz:=hok.sz
  have hmul:j*sz+sz≤l.length*sz:=by
   have:=Nat.mul_le_mul_right sz (show j+1≤l.length by omega)
   rw[Nat.add_mul] at this;omega
  have hvs:(a.eval v).cells.toList.length=sz:=by simp;omega
  refine goal _ (.row (l.set j e)) hm rfl (by omega) (fun u hu => ?_) (fun c hcs hcc => ?_) (fun w' c hws hw' hcc hcs => ?_)
  ·obtain⟨p,hp⟩:=List.getElem?_of_mem hu
   have hlt:=(List.getElem?_eq_some_iff.1 hp).1
   have hq:e.cells[p]? = some (e.cells[p]'(by simp at hlt;omega)):=by simp
   have:=g2 p _ hq
   have hu':(a.eval v).cells.getD p undef=u:=by simpa using congrArg (·.getD undef) hp
   rw[hu'] at this
   exact this.2.one this.1
  ·have:=hcc.1
   rw[hLs];simp only at this;omega
  ·obtain⟨m1,m2,m3⟩:=hcc
   simp only at m1 m2 m3
   refine⟨by simpa using m1,fun q hq => ?_,fun p q r z hp hr => ?_⟩
   ·rcases List.mem_or_eq_of_mem_set hq with hq | rfl
    ·exact m2 q hq
    ·exact hc1
   ·rw[hLs]
    by_cases hpj:p=j
    ·subst hpj
     have hqe:q=e:=by
      rw[List.getElem?_set_self (by omega)] at hp
      simpa using hp.symm
     subst hqe
     have hrl:r<sz:=by have:=(List.getElem?_eq_some_iff.1 hr).1;omega
     have hin:=setC_in (a.eval v).cells.toList (L.o+(p*sz+0)) c r (by rw[hvs];omega) (by rw[hvs];exact hrl)
     rw[show L.o+(p*sz+r)=L.o+(p*sz+0)+r by omega,hin]
     obtain⟨q1,q2⟩:=g2 r z hr
     have hz:(a.eval v).cells.toList.getD r undef=(a.eval v).cells.getD r undef:=by simp
     rw[hz]
     exact⟨q1,q2.mono hw' (fun b hb=>⟨Nat.lt_of_lt_of_le hb.1 hws,hb.2⟩)⟩
    ·have hp':l[p]? = some q:=by rwa[List.getElem?_set_ne (by omega)] at hp
     obtain⟨q1,q2⟩:=m3 p q r z hp' hr
     have hrl:r<sz:=by have:=(List.getElem?_eq_some_iff.1 hr).1;have:=m2 q (List.mem_of_getElem? hp');omega
     dsimp only
     rw[setC_out]
     ·exact⟨q1,q2⟩
     ·rw[hvs]
      rcases Nat.lt_or_gt_of_ne hpj with hlt | hgt
      ·left
       have:=Nat.mul_le_mul_right sz (show p+1≤j by omega)
       rw[Nat.add_mul] at this;omega
      ·right
       have:=Nat.mul_le_mul_right sz (show j+1≤p by omega)
       rw[Nat.add_mul] at this;omega
 ·rename_i T' osz u hm
  split at he
  case isFalse=>cases he
  rename_i hc
  obtain⟨hc1,hc2,rfl⟩:=hc
  rw[List.all_eq_true] at hc2
  obtain⟨g1,g2⟩:=hv.cells hc2
  obtain⟨L',hL',hok⟩:=h.objs i _ hm
  rw[hL] at hL'
  cases hL'
  have hLs:L.sz=osz:=hok.sz
  have hvs:(a.eval v).cells.toList.length=sz:=by simp;omega
  have hone:∀ q∈(a.eval v).cells.toList,q.oneCell'=true:=by
   intro q hq
   obtain⟨p,hp⟩:=List.getElem?_of_mem hq
   have hlt:=(List.getElem?_eq_some_iff.1 hp).1
   have hy:((opd P W v).ev s.r).cells[p]? = some (((opd P W v).ev s.r).cells[p]'(by simp at hlt;omega)):=by simp
   have:=g2 p _ hy
   have hu':(a.eval v).cells.getD p undef=q:=by simpa using congrArg (·.getD undef) hp
   rw[hu'] at this
   exact this.one (hc2 _ (List.mem_of_getElem? hy))
  have hin:∀ (w':World) (c:Array Value),w.heap.size≤w'.heap.size→(∀ b,NB base s.m loc w b→w'.heap[b]? = w.heap[b]?)→L.o+off+sz≤c.size→∀ r z,((opd P W v).ev s.r).cells[r]? = some z→RV w' (NB base s.m loc w') loc ((setC c (L.o+(0*L.sz+off)) (a.eval v).cells.toList).getD (L.o+(off+r)) undef) z:=by
   intro w' c hws hw' hfit r z hr
   have hrl:r<sz:=by have:=(List.getElem?_eq_some_iff.1 hr).1;omega
   have hin:=setC_in (a.eval v).cells.toList (L.o+(0*L.sz+off)) c r (by rw[hvs];omega) (by rw[hvs];exact hrl)
   rw[show L.o+(off+r)=L.o+(0*L.sz+off)+r by omega,hin]
   have hz:(a.eval v).cells.toList.getD r undef=(a.eval v).cells.getD r undef:=by simp
   rw[hz]
   exact (g2 r z hr).mono hw' (fun b hb=>⟨Nat.lt_of_lt_of_le hb.1 hws,hb.2⟩) (fun _ _ x=>x)
  split at he
  ·rename_i hoff
   obtain⟨rfl,rfl⟩:=hoff
   simp only[Option.some.injEq,Prod.mk.injEq,true_and] at he
   obtain⟨rfl,rfl⟩:=he
   refine goal _ (.box ((opd P W v).ev s.r)) hm rfl (by omega) hone (fun c hcs hcc => ?_) (fun w' c hws hw' hcc hcs => ?_)
   ·have:=hcc.1;simp only at this;omega
   ·obtain⟨m1,m2,m3,m4⟩:=hcc
    simp only at m1
    refine⟨by simpa using m1,hc1,hc2,fun r z hr => ?_⟩
    have:=hin w' c hws hw' (by omega) r z hr
    rwa[Nat.zero_add] at this
  ·split at he
   case isFalse=>cases he
   rename_i hle
   simp only[Option.some.injEq,Prod.mk.injEq,true_and] at he
   obtain⟨rfl,rfl⟩:=he
   refine goal _ (.box (AV.mk (u.cells.take off++((opd P W v).ev s.r).cells++u.cells.drop (off+sz)))) hm rfl (by omega) hone (fun c hcs hcc => ?_) (fun w' c hws hw' hcc hcs => ?_)
   ·have:=hcc.1;simp only at this;omega
   ·obtain⟨m1,m2,m3,m4⟩:=hcc
    simp only at m1 m2 m3 m4
    have hall:∀ e∈u.cells.take off++((opd P W v).ev s.r).cells++u.cells.drop (off+sz),e.one=true:=by
     intro e he
     rcases List.mem_append.1 he with he | he
     ·rcases List.mem_append.1 he with he | he
      ·exact m3 e (List.mem_of_mem_take he)
      ·exact hc2 e he
     ·exact m3 e (List.mem_of_mem_drop he)
    have hlen:(u.cells.take off++((opd P W v).ev s.r).cells++u.cells.drop (off+sz)).length=osz:=by simp;omega
    obtain⟨k1,k2,k3⟩:=mk_cells hall
    refine⟨by simpa using m1,by rw[k1];exact hlen,k2,fun r z hr => ?_⟩
    refine k3 w' _ loc _ r z hr fun e he => ?_
    by_cases h1:r<off
    ·rw[List.append_assoc,List.getElem?_append_left (by simp;omega),List.getElem?_take_of_lt h1] at he
     rw[setC_out _ _ _ _ (.inl (by omega))]
     exact m4 r e he
    ·by_cases h2:r<off+sz
     ·have:=hin w' c hws hw' (by omega) (r-off) e (by
       rw[List.append_assoc,List.getElem?_append_right (by simp;omega),List.getElem?_append_left (by simp;omega)] at he
       simpa[show min off u.cells.length=off by omega] using he)
      rwa[show L.o+(off+(r-off))=L.o+r by omega] at this
     ·rw[List.getElem?_append_right (by simp;omega)] at he
      simp only[List.length_append,List.length_take,List.getElem?_drop] at he
      rw[show off+sz+(r-(min off u.cells.length+((opd P W v).ev s.r).cells.length))=r by omega] at he
      rw[setC_out _ _ _ _ (.inr (by rw[hvs];omega))]
      exact m4 r e he
 ·rename_i T' osz hm
  split at he
  case isFalse=>cases he
  rename_i hc
  obtain⟨hc1,hc2,rfl⟩:=hc
  rw[List.all_eq_true] at hc2
  obtain⟨g1,g2⟩:=hv.cells hc2
  obtain⟨L',hL',hok⟩:=h.objs i _ hm
  rw[hL] at hL'
  cases hL'
  have hLs:L.sz=osz:=hok.sz
  have hvs:(a.eval v).cells.toList.length=sz:=by simp;omega
  have hone:∀ q∈(a.eval v).cells.toList,q.oneCell'=true:=by
   intro q hq
   obtain⟨p,hp⟩:=List.getElem?_of_mem hq
   have hlt:=(List.getElem?_eq_some_iff.1 hp).1
   have hy:((opd P W v).ev s.r).cells[p]? = some (((opd P W v).ev s.r).cells[p]'(by simp at hlt;omega)):=by simp
   have:=g2 p _ hy
   have hu':(a.eval v).cells.getD p undef=q:=by simpa using congrArg (·.getD undef) hp
   rw[hu'] at this
   exact this.one (hc2 _ (List.mem_of_getElem? hy))
  have hin:∀ (w':World) (c:Array Value),w.heap.size≤w'.heap.size→(∀ b,NB base s.m loc w b→w'.heap[b]? = w.heap[b]?)→L.o+off+sz≤c.size→∀ r z,((opd P W v).ev s.r).cells[r]? = some z→RV w' (NB base s.m loc w') loc ((setC c (L.o+(0*L.sz+off)) (a.eval v).cells.toList).getD (L.o+(off+r)) undef) z:=by
   intro w' c hws hw' hfit r z hr
   have hrl:r<sz:=by have:=(List.getElem?_eq_some_iff.1 hr).1;omega
   have hin:=setC_in (a.eval v).cells.toList (L.o+(0*L.sz+off)) c r (by rw[hvs];omega) (by rw[hvs];exact hrl)
   rw[show L.o+(off+r)=L.o+(0*L.sz+off)+r by omega,hin]
   have hz:(a.eval v).cells.toList.getD r undef=(a.eval v).cells.getD r undef:=by simp
   rw[hz]
   exact (g2 r z hr).mono hw' (fun b hb=>⟨Nat.lt_of_lt_of_le hb.1 hws,hb.2⟩) (fun _ _ x=>x)
  split at he
  ·rename_i hoff
   obtain⟨rfl,rfl⟩:=hoff
   simp only[Option.some.injEq,Prod.mk.injEq,true_and] at he
   obtain⟨rfl,rfl⟩:=he
   refine goal _ (.box ((opd P W v).ev s.r)) hm rfl (by omega) hone (fun c hcs hcc => ?_) (fun w' c hws hw' hcc hcs => ?_)
   ·have:=hcc;simp only[ContOk] at this;omega
   ·have m1:=hcc
    simp only[ContOk] at m1
    refine⟨by simpa using m1,hc1,hc2,fun r z hr => ?_⟩
    have:=hin w' c hws hw' (by omega) r z hr
    rwa[Nat.zero_add] at this
  ·cases he
 ·cases he
end
end Go.Proofs.Ytdjbfgfbpimakaa.M
end

section
namespace Go.Proofs.Ytdjbfgfbpimakaa.M
open Go.RowKit
section
variable {P:Program} {w0:World} {base:Nat→Prop} {nt:Nat} {loc:Locs} {s t:St} {a:Act} {w:World} {o:Oper} {id:Nat} {d:AV}
def putC (cs:Array Value) (off:Nat) (v:Array Value):Array Value:=v.zipIdx.foldl (fun cs (c,j)=>cs.setIfInBounds (off+j) c) cs
theorem putC_list:∀ (v:List Value) (k off:Nat) (cs:Array Value),(v.zipIdx k).foldl (fun cs (p:Value × Nat)=>cs.setIfInBounds (off+p.2) p.1) cs=setC cs (off+k) v
 | [],_,_,_=>rfl
 | x::v,k,off,cs=>by
  rw[List.zipIdx_cons,List.foldl_cons,putC_list v (k+1) off,setC]
  rfl
theorem putC_eq (cs:Array Value) (off:Nat) (v:Array Value):putC cs off v=setC cs off v.toList:=by
 unfold putC
 rw[←Array.foldl_toList,Array.toList_zipIdx]
 exact putC_list v.toList 0 off cs
def RVs (w:World) (N:Nat→Prop) (loc:Locs) (cs:Array Value) (l:List AV):Prop:=cs.size=l.length∧(∀ e∈l,e.one=true)∧∀ i e,l[i]? = some e→RV w N loc (cs.getD i undef) e
theorem RVs.put {N:Nat→Prop} {cs:Array Value} {l:List AV} {v:Value} {x:AV} {off:Nat} (h:RVs w N loc cs l) (hv:RV w N loc v x) (h1:∀ e∈x.cells,e.one=true) (hle:off+x.cells.length≤l.length) :
  RVs w N loc (putC cs off v.cells) (l.take off++x.cells++l.drop (off+x.cells.length))∧v.cells.size=x.cells.length:=by
 obtain⟨g1,g2⟩:=hv.cells h1
 obtain⟨k1,k2,k3⟩:=h
 have hvs:v.cells.toList.length=x.cells.length:=by simp;omega
 refine⟨⟨?_,?_,?_⟩,g1⟩
 ·rw[putC_eq,size_setC];simp;omega
 ·intro e he
  rcases List.mem_append.1 he with he | he
  ·rcases List.mem_append.1 he with he | he
   ·exact k2 e (List.mem_of_mem_take he)
   ·exact h1 e he
  ·exact k2 e (List.mem_of_mem_drop he)
 ·intro r e he
  rw[putC_eq]
  by_cases q1:r<off
  ·rw[List.append_assoc,List.getElem?_append_left (by simp;omega),List.getElem?_take_of_lt q1] at he
   rw[setC_out _ _ _ _ (.inl q1)]
   exact k3 r e he
  ·by_cases q2:r<off+x.cells.length
   ·rw[List.append_assoc,List.getElem?_append_right (by simp;omega),List.getElem?_append_left (by simp;omega)] at he
    have hin:=setC_in v.cells.toList off cs (r-off) (by omega) (by omega)
    rw[show off+(r-off)=r by omega] at hin
    rw[hin]
    have hz:v.cells.toList.getD (r-off) undef=v.cells.getD (r-off) undef:=by simp
    rw[hz]
    exact g2 (r-off) e (by simpa[show min off l.length=off by omega] using he)
   ·rw[List.getElem?_append_right (by simp;omega)] at he
    simp only[List.length_append,List.length_take,List.getElem?_drop] at he
    rw[show off+x.cells.length+(r-(min off l.length+x.cells.length))=r by omega] at he
    rw[setC_out _ _ _ _ (.inr (by omega))]
    exact k3 r e he
theorem fill_ok (h:Rel w0 base nt loc s a w) (place:Nat→Option (Nat × Nat)):∀ (parts:List (Nat × Operand)) (ps:List (Nat × Nat × Opd)) (cs:Array Value) (l m:List AV),
  parts.length=ps.length→(∀ (k i:Nat) (x:Operand) (off sz:Nat) (X:Opd),parts[k]? = some (i,x)→ps[k]? = some (off,sz,X)→place i=some (off,sz)∧RV w (NB base s.m loc w) loc (a.eval x) (X.ev s.r)) →
  RVs w (NB base s.m loc w) loc cs l→fillA l s.r ps=some m→∃ cs',Instr.fill place cs (parts.map fun p=>(p.1,a.eval p.2))=some cs'∧RVs w (NB base s.m loc w) loc cs' m
 | [],[],cs,l,m,_,_,hr,hf=>by
  simp only[fillA,Option.some.injEq] at hf
  subst hf
  exact⟨cs,rfl,hr⟩
 | (i,x)::parts,(off,sz,X)::ps,cs,l,m,hl,hp,hr,hf=>by
  simp only[fillA] at hf
  split at hf
  case isFalse=>cases hf
  rename_i hc
  obtain⟨c1,c2,c3⟩:=hc
  rw[List.all_eq_true] at c3
  obtain⟨p1,p2⟩:=hp 0 i x off sz X rfl rfl
  subst c1
  obtain⟨q1,q2⟩:=hr.put p2 c3 c2
  obtain⟨cs',g1,g2⟩:=fill_ok h place parts ps _ _ m (by simpa using hl) (fun k i x off sz X h1 h2=>hp (k+1) i x off sz X (by simpa using h1) (by simpa using h2)) q1 hf
  refine⟨cs',?_,g2⟩
  have hcs:=hr.1
  simp only[List.map_cons,Instr.fill,p1]
  rw[if_neg (by simp only[Bool.or_eq_true,decide_eq_true_eq,not_or,ne_eq,Decidable.not_not,Nat.not_lt,gt_iff_lt];omega)]
  exact g1
 | [],_::_,_,_,_,hl,_,_,_=>by simp at hl
 | _::_,[],_,_,_,hl,_,_,_=>by simp at hl
theorem sim_build {T:TypeId} {parts:Array (Nat × Operand)} {l:List D} {sz:Nat} {fs:Array Field} {places:List (Nat × Nat)} {ps:List (Nat × Nat × Opd)} (h:Rel w0 base nt loc s a w) (ho:o.op = .build T parts) (hz:ZOk P T l true sz) (hu:P.underlying T=some (.struct fs))
  (hpl:fs.toList.mapM (fun f=>(P.info? f.type).map fun i=>(f.offset,i.size))=some places)
  (hps:parts.toList.mapM (fun p:Nat × Operand=>match places[p.1]?,fs[p.1]? with
     | some (off,sz),some f=>some (off,sz,opd P (some f.type) p.2)
     | _,_=>none)=some ps)
  (he:ev (.build (l.map .p) ps) id s=some (true,d,t)):Good P w0 base nt o a w t d:=by
 simp only[ev] at he
 split at he
 case h_2=>cases he
 rename_i m hm
 simp only[Option.some.injEq,Prod.mk.injEq,true_and] at he
 obtain⟨rfl,rfl⟩:=he
 obtain⟨i,z,g1,g2,g3,g4,g5,g6⟩:=hz
 obtain⟨k1,k2⟩:=chkL_ok g4
 have hzc:RVs w (NB base s.m loc w) loc z.cells (l.map .p):=by
  refine⟨by simpa using k1,fun e he => ?_,fun j e hj => ?_⟩
  ·simp only[List.mem_map] at he
   obtain⟨q,hq,rfl⟩:=he
   obtain⟨j,hj⟩:=List.getElem?_of_mem hq
   exact (k2 j q hj).1
  ·simp only[List.getElem?_map,Option.map_eq_some_iff] at hj
   obtain⟨q,hq,rfl⟩:=hj
   have:=(k2 j q hq).2 w (NB base s.m loc w)
   exact .p _ _ (by simpa using this)
 have hpar:∀ (l1:List (Nat × Operand)) (l2:List (Nat × Nat × Opd)),l1.mapM (fun p:Nat × Operand=>match places[p.1]?,fs[p.1]? with
     | some (off,sz),some f=>some (off,sz,opd P (some f.type) p.2)
     | _,_=>none)=some l2→l1.length=l2.length∧∀ (k i:Nat) (x:Operand) (off sz:Nat) (X:Opd),l1[k]? = some (i,x)→l2[k]? = some (off,sz,X)→places[i]? = some (off,sz)∧∃ T,X=opd P T x:=by
  intro l1
  induction l1 with
  | nil=>intro l2 hh;simp at hh;subst hh;exact⟨rfl,fun k i x off sz X h1=>by simp at h1⟩
  | cons p l1 ih =>
   intro l2 hh
   simp only[List.mapM_cons,Option.bind_eq_bind,Option.bind_eq_some_iff,Option.pure_def,Option.some.injEq] at hh
   obtain⟨y,hy,l2',hl2,rfl⟩:=hh
   obtain⟨r1,r2⟩:=ih l2' hl2
   refine⟨by simp[r1],fun k i x off sz X h1 h2 => ?_⟩
   match k,h1,h2 with
   | 0,h1,h2 =>
    simp only[List.getElem?_cons_zero,Option.some.injEq] at h1 h2
    subst h1;subst h2
    split at hy
    ·rename_i off' sz' f e1 e2
     simp only[Option.some.injEq,Prod.mk.injEq] at hy
     obtain⟨rfl,rfl,rfl⟩:=hy
     exact⟨e1,_,rfl⟩
    ·cases hy
   | k+1,h1,h2=>exact r2 k i x off sz X (by simpa using h1) (by simpa using h2)
 obtain⟨r1,r2⟩:=hpar _ _ hps
 obtain⟨cs',q1,q2⟩:=fill_ok h (places.toArray[·]?) parts.toList ps z.cells _ m r1 (fun k i x off sz X h1 h2=>by
  obtain⟨u1,T',rfl⟩:=r2 k i x off sz X h1 h2
  exact⟨by simpa using u1,h.opd T' x⟩) hzc hm
 have hb:P.built T (parts.map fun (i,x)=>(i,a.eval x)).toList=some cs':=by
  unfold Program.built
  simp only[g1,hu,g2,hpl]
  rw[Array.toList_map]
  exact q1
 refine good_same h (v:=.agg cs') ?_ (rv_mk q2.1 q2.2.1 q2.2.2)
 simp only[execOp,ho]
 exact run_v (run_build w T _ cs' hb)
theorem row_put {N:Nat→Prop} {c:Array Value} {sz:Nat} {l:List D} {i:Nat} {v:Value} {e:D} (h:ContOk w N loc c 0 sz (.row l)) (hi:i<l.length) (hv:V w N v e) (h1:e.cells.length=sz) (h2:e.cells.all D.one=true) :
  ContOk w N loc (putC c (i*sz) v.cells) 0 sz (.row (l.set i e))∧v.cells.size=sz:=by
 obtain⟨g1,g2⟩:=hv.cells (cells_not_tup h2)
 obtain⟨m1,m2,m3⟩:=h
 have hvs:v.cells.toList.length=sz:=by simp;omega
 have hmul:i*sz+sz≤l.length*sz:=by
  have:=Nat.mul_le_mul_right sz (show i+1≤l.length by omega)
  rw[Nat.add_mul] at this;omega
 refine⟨⟨by rw[putC_eq,size_setC];simpa using m1,fun q hq => ?_,fun p q r z hp hr => ?_⟩,by omega⟩
 ·rcases List.mem_or_eq_of_mem_set hq with hq | rfl
  ·exact m2 q hq
  ·exact h1
 ·rw[putC_eq]
  by_cases hpj:p=i
  ·subst hpj
   have hqe:q=e:=by
    rw[List.getElem?_set_self (by omega)] at hp
    simpa using hp.symm
   subst hqe
   have hrl:r<sz:=by have:=(List.getElem?_eq_some_iff.1 hr).1;omega
   have hin:=setC_in v.cells.toList (p*sz) c r (by rw[hvs];omega) (by rw[hvs];exact hrl)
   rw[Nat.zero_add,hin]
   obtain⟨q1,q2⟩:=g2 r z hr
   have hz:v.cells.toList.getD r undef=v.cells.getD r undef:=by simp
   rw[hz]
   exact⟨q1,q2⟩
  ·have hp':l[p]? = some q:=by rwa[List.getElem?_set_ne (by omega)] at hp
   obtain⟨q1,q2⟩:=m3 p q r z hp' hr
   have hrl:r<sz:=by have:=(List.getElem?_eq_some_iff.1 hr).1;have:=m2 q (List.mem_of_getElem? hp');omega
   rw[setC_out]
   ·exact⟨q1,q2⟩
   ·rw[hvs]
    rcases Nat.lt_or_gt_of_ne hpj with hlt | hgt
    ·left
     have:=Nat.mul_le_mul_right sz (show p+1≤i by omega)
     rw[Nat.add_mul] at this;omega
    ·right
     have:=Nat.mul_le_mul_right sz (show i+1≤p by omega)
     rw[Nat.add_mul] at this;omega
theorem size_fill {place:Nat→Option (Nat × Nat)}:∀ (parts:List (Nat × Value)) (cs cs':Array Value),Instr.fill place cs parts=some cs'→cs'.size=cs.size:=by
 intro parts
 induction parts with
 | nil=>intro cs cs' h;simp[Instr.fill] at h;rw[h]
 | cons p parts ih =>
  intro cs cs' h
  obtain⟨i,v⟩:=p
  simp only[Instr.fill] at h
  split at h
  ·cases h
  ·split at h
   ·cases h
   ·have:=ih _ _ h
    rw[this]
    exact (congrArg Array.size (putC_eq cs _ v.cells)).trans (size_setC _ _ _)
theorem fillR_ok (h:Rel w0 base nt loc s a w) (sz:Nat):∀ (parts:List (Nat × Operand)) (T:Option TypeId) (c:Array Value) (l m:List D),ContOk w (NB base s.m loc w) loc c 0 sz (.row l)→c.size=l.length*sz →
  fillR sz l s.r s.m (parts.map fun p=>(p.1,opd P T p.2))=some m→∃ cs',Instr.fill (fun i=>some (i*sz,sz)) c (parts.map fun p=>(p.1,a.eval p.2))=some cs'∧ContOk w (NB base s.m loc w) loc cs' 0 sz (.row m)∧m.length=l.length
 | [],T,c,l,m,hr,_,hf=>by
  simp only[List.map_nil,fillR,Option.some.injEq] at hf
  subst hf
  exact⟨c,rfl,hr,rfl⟩
 | (i,x)::parts,T,c,l,m,hr,hs,hf=>by
  simp only[List.map_cons,fillR] at hf
  split at hf
  case h_2=>cases hf
  rename_i e hd
  split at hf
  case isFalse=>cases hf
  rename_i hc
  obtain⟨c1,c2,c3⟩:=hc
  have hV:=toD_pure h hd (h.opd (P:=P) T x)
  obtain⟨q1,q2⟩:=row_put hr c3 hV c1 c2
  obtain⟨cs',g1,g2,g3⟩:=fillR_ok h sz parts T _ _ m q1 (by rw[putC_eq,size_setC];simpa using hs) hf
  refine⟨cs',?_,g2,by simpa using g3⟩
  have hmul:i*sz+sz≤l.length*sz:=by
   have:=Nat.mul_le_mul_right sz (show i+1≤l.length by omega)
   rw[Nat.add_mul] at this;omega
  simp only[List.map_cons,Instr.fill]
  rw[if_neg (by simp only[Bool.or_eq_true,decide_eq_true_eq,not_or,ne_eq,Decidable.not_not,Nat.not_lt,gt_iff_lt];omega)]
  exact g1
theorem zero_row {E:TypeId} {l:List D} {ag:Bool} {sz:Nat} (hz:ZOk P E l ag sz) {z:Value} (hr:(zeroValue E).run P w = .ok z w) (N:Nat→Prop) (q:Nat) :
  ContOk w N loc (madeCells z.cells (q*sz)) 0 sz (.row (List.replicate q (if ag then D.agg l else l.headD default))):=by
 obtain⟨z',hr',hsz,hl,hcell,-⟩:=zero_run (w:=w) hz
 rw[hr] at hr'
 have hzz:z=z':=by injection hr'
 subst hzz
 have hcl:(if ag then D.agg l else l.headD default).cells=l:=by
  cases ag with
  | true=>rfl
  | false =>
   have:sz=1:=by obtain⟨_,_,_,_,_,_,_,h6⟩:=hz;exact h6 rfl
   match l,hl with
   | [e],_ =>
    have:=(hcell 0 e rfl).1
    cases e<;>first | rfl | simp[D.one] at this
   | [],hl=>simp at hl;omega
   | _::_::_,hl=>simp at hl;omega
 refine⟨by simp[madeCells],fun e he => ?_,fun i e j d hi hj => ?_⟩
 ·rw[List.eq_of_mem_replicate he,hcl,hl]
 ·have hiq:i<q:=by have:=(List.getElem?_eq_some_iff.1 hi).1;simpa using this
  have he:=List.eq_of_mem_replicate (List.mem_of_getElem? hi)
  rw[he,hcl] at hj
  have hjl:j<sz:=by have:=(List.getElem?_eq_some_iff.1 hj).1;omega
  obtain⟨g1,g2⟩:=hcell j d hj
  refine⟨g1,?_⟩
  have hlt:i*sz+j<q*sz:=by
   have:=Nat.mul_le_mul_right sz (show i+1≤q by omega)
   rw[Nat.add_mul] at this;omega
  have hmod:(i*sz+j) % sz=j:=by rw[Nat.add_comm,Nat.add_mul_mod_self_right];exact Nat.mod_eq_of_lt hjl
  have:=g2 w N
  simp only[Nat.zero_add,Array.getD_eq_getD_getElem?] at this ⊢
  simp[madeCells,hlt,hsz,hmod]
  simpa[hsz,hjl] using this
theorem sim_buildSlice {T E:TypeId} {n:Nat} {parts:Array (Nat × Operand)} {l:List D} {ag:Bool} {sz:Nat} (h:Rel w0 base nt loc s a w) (ho:o.op = .buildSlice T n parts) (hu:P.underlying T=some (.slice E)) (hz:ZOk P E l ag sz) (hn:n*sz≤16777216) (hn2:n≤9223372036854775807) {U:Option TypeId}
  (he:ev (.buildSlice E sz (if ag then .agg l else l.headD default) n (parts.toList.map fun (i,x)=>(i,opd P U x))) id s=some (true,d,t)):Good P w0 base nt o a w t d:=by
 simp only[ev] at he
 split at he
 case h_2=>cases he
 rename_i hid
 split at he
 case h_2=>cases he
 rename_i m hm
 simp only[Option.some.injEq,Prod.mk.injEq,true_and] at he
 obtain⟨rfl,rfl⟩:=he
 obtain⟨z,hr,hsz,hl,hcell,-⟩:=zero_run (w:=w) hz
 have hTy:TyOk P E ag sz:=by obtain⟨_,_,_,_,h3,_⟩:=hz;exact h3
 have hrow:=zero_row (loc:=loc) hz hr (NB base s.m loc w) n
 obtain⟨cs',g1,g2,g3⟩:=fillR_ok h sz parts.toList U _ _ m hrow (by simp[madeCells]) hm
 simp only[List.length_replicate] at g3
 have hcs:cs'.size=n*sz:=by rw[size_fill _ _ _ g1];simp[madeCells]
 obtain⟨loc',hl',hrel⟩:=h.alloc (T:=E) (c:=cs') (k:=.row m) (sz:=sz) hid g2
 refine⟨.slice (some ⟨w.heap.size,0,none⟩) n n,w.alloc (.cells cs' E),loc',.inl ?_,hrel,?_⟩
 ·have hg:Instr.fill (fun i=>some (i*sz,sz)) (madeCells z.cells (n*sz)) (parts.map fun x=>(x.1,a.eval x.2)).toList=some cs':=by
   rw[Array.toList_map,←g1]
  unfold madeCells at hg
  simp only[execOp,ho]
  refine run_v ?_
  by_cases h0:n*sz=0
  ·have e0:∀ f:Nat→Value,Array.map f (Array.range 0) = #[]:=fun f=>by simp
   simp only[h0,e0,Array.toList_map] at hg
   simp[Instr.buildSlice,run_underlying hu,run_sizeOf hTy,h0,e0,hg,newRow]
  ·simp only[Array.toList_map] at hg
   have hb':¬ (16777216<n*sz):=by omega
   simp[Instr.buildSlice,run_underlying hu,run_sizeOf hTy,h0,hr,newRow,hb',hg]
 ·have:=RV.slice (w:=w.alloc (.cells cs' E)) (N:=NB base (upd s.m id (some ⟨E,sz,.row m,false⟩)) loc' (w.alloc (.cells cs' E))) _ id 0 n n hl' rfl (Nat.le_refl _) hn2 (by simp[hcs])
  simpa using this
theorem intsOf_spec {N:Nat→Prop}:∀ {l:List D} {ks:List IntKind} {ns:List Int} {cs:Array Value} (o:Nat),intsOf l=some (ks,ns)→(∀ i d,l[i]? = some d→V w N (cs.getD (o+i) undef) d)→ks.length=l.length∧ns.length=l.length∧∀ i k n,ks[i]? = some k→ns[i]? = some n→cs.getD (o+i) undef = .int k n
 | [],ks,ns,cs,o,h,hv=>by
  simp only[intsOf,Option.some.injEq,Prod.mk.injEq] at h
  obtain⟨rfl,rfl⟩:=h
  exact⟨rfl,rfl,fun i k n h=>by simp at h⟩
 | d::l,ks,ns,cs,o,h,hv=>by
  cases d with
  | int k n =>
   simp only[intsOf,Option.map_eq_some_iff,Prod.mk.injEq] at h
   obtain⟨⟨ks',ns'⟩,h1,rfl,rfl⟩:=h
   obtain⟨g1,g2,g3⟩:=intsOf_spec (cs:=cs) (o+1) h1 (fun i d hi=>by have:=hv (i+1) d (by simpa using hi);rwa[show o+(i+1)=o+1+i by omega] at this)
   refine⟨by simp[g1],by simp[g2],fun i k' n' hk hn => ?_⟩
   match i,hk,hn with
   | 0,hk,hn =>
    simp at hk hn
    subst hk;subst hn
    have:=hv 0 (.int k n) rfl
    generalize cs.getD (o+0) undef=v at this ⊢
    cases this;rfl
   | i+1,hk,hn=>rw[show o+(i+1)=o+1+i by omega];exact g3 i k' n' (by simpa using hk) (by simpa using hn)
  | _=>simp[intsOf] at h
theorem run_eqInts (dd:Nat) (xs ys:Array Value):∀ (fs:List Field) (o:Nat) (ks:List IntKind) (l m:List Int),fs.length=ks.length→l.length=ks.length→m.length=ks.length →
  (∀ i f, fs[i]? = some f → f.offset = o + i ∧ f.name ≠ "_" ∧ (∃ k, P.underlying f.type = some (.int k))) → (∀ i k n, ks[i]? = some k → l[i]? = some n → xs[o + i]? = some (.int k n)) → (∀ i k n, ks[i]? = some k → m[i]? = some n → ys[o + i]? = some (.int k n)) →
  (Op.eqFields (dd+1) xs ys fs).run P w = .ok (decide (l=m)) w
 | [],o,[],[],[],_,_,_,_,_,_=>by simp[Op.eqFields]
 | f::fs,o,k::ks,x::l,y::m,h1,h2,h3,hf,hx,hy=>by
  obtain⟨f1,f2,k',f3⟩:=hf 0 f rfl
  have ih:=run_eqInts dd xs ys fs (o+1) ks l m (by simpa using h1) (by simpa using h2) (by simpa using h3)
   (fun i f hi=>by have:=hf (i+1) f (by simpa using hi);rwa[show o+(i+1)=o+1+i by omega] at this)
   (fun i k n hi hj=>by have:=hx (i+1) k n (by simpa using hi) (by simpa using hj);rwa[show o+(i+1)=o+1+i by omega] at this)
   (fun i k n hi hj=>by have:=hy (i+1) k n (by simpa using hi) (by simpa using hj);rwa[show o+(i+1)=o+1+i by omega] at this)
  have hag:(isAgg f.type).run P w = .ok false w:=by unfold isAgg;simp only[Sem.run_bind,run_underlying f3,Result.andThen];rfl
  have px:(part f.type xs f.offset).run P w = .ok (.int k x) w:=by
   have:=hx 0 k x rfl rfl
   rw[←f1] at this
   simp[part,hag,this]
  have py:(part f.type ys f.offset).run P w = .ok (.int k y) w:=by
   have:=hy 0 k y rfl rfl
   rw[←f1] at this
   simp[part,hag,this]
  have pe:=run_equalIn_int (P:=P) w dd f.type k k' x y f3
  simp only[Op.eqFields,f2,ne_eq,not_false_eq_true,if_true,Sem.run_bind,px,py,pe,Result.andThen_ok]
  by_cases hxy:x=y
  ·subst hxy
   simp[ih]
  ·simp[hxy]
 | [],_,_::_,_,_,h,_,_,_,_,_=>by simp at h
 | _::_,_,[],_,_,h,_,_,_,_,_=>by simp at h
 | _,_,[],_::_,_,_,h,_,_,_,_=>by simp at h
 | _,_,[],_,_::_,_,_,h,_,_,_=>by simp at h
 | _,_,_::_,[],_,_,h,_,_,_,_=>by simp at h
 | _,_,_::_,_,[],_,_,h,_,_,_=>by simp at h
theorem intStruct_spec {T : TypeId} (h : intStruct P T = true) : ∃ fs, P.underlying T = some (.struct fs) ∧ P.stoodInHeld T = false ∧ P.eqGuardType P.depth T = false ∧ ∀ i f, fs.toList[i]? = some f → f.offset = 0 + i ∧ f.name ≠ "_" ∧ ∃ k, P.underlying f.type = some (.int k) := by
 unfold intStruct at h
 split at h
 ·rename_i fs hu
  simp only[Bool.and_eq_true,Bool.not_eq_true',List.all_eq_true] at h
  refine⟨fs,hu,h.1.1,h.1.2,fun i f hi => ?_⟩
  have:=h.2 (f,i) (by rw[List.mem_zipIdx_iff_getElem?];exact hi)
  simp only[beq_iff_eq,bne_iff_ne,ne_eq] at this
  refine⟨by omega,this.1.2,?_⟩
  have h2:=this.2
  split at h2
  ·rename_i k hk;exact⟨k,hk⟩
  ·cases h2
 ·cases h
theorem sim_eqs {T Y:TypeId} {op:BinOp} {neg:Bool} {x y:Operand} {fs:Array Field} (h:Rel w0 base nt loc s a w) (ho:o.op = .binOp op T x y Y) (hop:op=if neg then .neq else .eql) (hT:intStruct P T=true) (hu:P.underlying T=some (.struct fs)) {U W:Option TypeId}
  (he:ev (.eqs fs.size neg (opd P U x) (opd P W y)) id s=some (true,d,t)):Good P w0 base nt o a w t d:=by
 have hx:=h.opd (P:=P) U x
 have hy:=h.opd (P:=P) W y
 simp only[ev] at he
 split at he
 case h_2=>cases he
 rename_i la lb hk hk'
 split at he
 case h_2=>cases he
 rename_i k l k' m h1 h2
 split at he
 case isFalse=>cases he
 rename_i hc
 obtain⟨rfl,hlen⟩:=hc
 simp only[Option.some.injEq,Prod.mk.injEq,true_and] at he
 obtain⟨rfl,rfl⟩:=he
 rw[hk] at hx
 rw[hk'] at hy
 have hx:=hx.inv
 have hy:=hy.inv
 generalize hxv:a.eval x=v at hx
 generalize hyv:a.eval y=u at hy
 cases hx with
 | agg xs _ x1 x2 x3 =>
 cases hy with
 | agg ys _ y1 y2 y3 =>
 obtain⟨fs',g1,g2,g3,g4⟩:=intStruct_spec hT
 rw[hu] at g1
 cases g1
 have hfo:P.fieldsOf T=fs:=by simp[Program.fieldsOf,hu]
 obtain⟨i1,i2,i3⟩:=intsOf_spec (w:=w) (N:=NB base s.m loc w) (cs:=xs) 0 h1 (fun i d hi=>by rw[Nat.zero_add];exact x3 i d hi)
 obtain⟨j1,j2,j3⟩:=intsOf_spec (w:=w) (N:=NB base s.m loc w) (cs:=ys) 0 h2 (fun i d hi=>by rw[Nat.zero_add];exact y3 i d hi)
 have hrun:=run_eqInts (P:=P) (w:=w) 9998 xs ys fs.toList 0 k l m (by simp;omega) (by omega) (by omega) g4
  (fun i k n hi hj=>by have:=i3 i k n hi hj;have hlt:=(List.getElem?_eq_some_iff.1 hi).1;have hs:i<xs.size:=(by omega);rw[←this];simp[hs])
  (fun i k n hi hj=>by have:=j3 i k n hi hj;have hlt:=(List.getElem?_eq_some_iff.1 hi).1;have hs:i<ys.size:=(by omega);rw[←this];simp[hs])
 have heq:=run_equalIn_struct (P:=P) w 9999 T xs ys (by rw[hfo];exact hu) g2
 rw[hfo,hrun] at heq
 have hg:=run_eqGuard_agg (P:=P) w op T x y xs ys g3
 refine good_same h (v:=.bool (if neg=true then !decide (l=m) else decide (l=m))) ?_ (.p _ _ (.bool _))
 simp only[execOp,ho,hxv,hyv]
 refine run_v ?_
 simp only[Sem.run_bind,hg,Result.andThen]
 subst hop
 cases neg with
 | true =>
  simp only[if_true]
  rw[run_neq_struct,show (10000:Nat)=9999+1 from rfl,heq]
  rfl
 | false =>
  simp only[Bool.false_eq_true,if_false]
  rw[run_eql_struct,show (10000:Nat)=9999+1 from rfl,heq]
  rfl
end
end Go.Proofs.Ytdjbfgfbpimakaa.M
end

section
namespace Go.Proofs.Ytdjbfgfbpimakaa.M
open Go.RowKit
section
variable {P:Program} {w0:World} {base:Nat→Prop} {nt:Nat} {loc:Locs} {s t:St} {a:Act} {w:World} {o:Oper} {id:Nat} {d:AV}
theorem ev_call {f:FuncId} {args:List Opd} {x:Option (Bool × AV × St)} (h:ev (.call f args) id s=x):x=none:=by
 subst h;rfl
theorem sim (h:Rel w0 base nt loc s a w) {ao:AOp} (hc:aop P o=some ao) (he:ev ao id s=some (true,d,t)):Good P w0 base nt o a w t d:=by
 cases hop:o.op<;>simp only[aop,hop] at hc
 case move x=>cases hc;exact sim_mov h (.inl hop) he
 case assign x=>cases hc;exact sim_mov h (.inr hop) he
 case nilCheck x=>cases hc;exact sim_nilCheck h hop he
 case pick c x y=>cases hc;exact sim_pick h hop he
 case alloc T =>
  split at hc
  ·rename_i l ag sz hz
   split at hc
   ·rename_i hok
    cases hc
    simp only[avOk,Bool.and_eq_true,beq_iff_eq,List.all_eq_true] at hok
    exact sim_alloc h hop (zeroOf_ok hz) he hok.1 hok.2
   ·cases hc
  ·cases hc
 case box T x =>
  split at hc
  ·cases hc;exact sim_box h hop he
  ·cases hc
 case build T parts =>
  split at hc
  case h_2=>cases hc
  rename_i l sz fs hz hu
  split at hc
  case h_2=>cases hc
  rename_i places hpl
  split at hc
  case h_2=>cases hc
  rename_i ps hps
  cases hc
  exact sim_build h hop (zeroOf_ok hz) hu hpl hps he
 case buildSlice T n parts =>
  split at hc
  case h_2=>cases hc
  rename_i e hu
  split at hc
  case h_2=>cases hc
  rename_i l ag sz hz
  split at hc
  case isFalse=>cases hc
  rename_i hn
  cases hc
  exact sim_buildSlice h hop hu (zeroOf_ok hz) hn.1 hn.2 he
 case load T x =>
  split at hc
  case h_2=>cases hc
  rename_i ag sz hT
  split at hc
  case isFalse=>cases hc
  rename_i hs
  cases hc
  exact sim_load h hop (tyOf_ok hT) (fun e=>by simpa[e] using hs) he
 case store T x v =>
  split at hc
  case h_2=>cases hc
  rename_i ag sz hT
  cases hc
  exact sim_store h hop (tyOf_ok hT) he
 case binOp op T x y Y =>
  split at hc
  ·cases hc;exact sim_bin h hop (by simp) he
  ·cases hc;exact sim_bin h hop (by simp) he
  ·rename_i hu;cases hc;exact sim_bin h hop (fun _=>hu) he
  ·rename_i fs hu
   split at hc
   case isFalse=>cases hc
   rename_i hi
   split at hc
   ·cases hc;exact sim_eqs h hop (by simp) hi hu he
   ·cases hc;exact sim_eqs h hop (by simp) hi hu he
   ·cases hc
  ·cases hc
 case unOp op T x=>cases hc;exact sim_un h hop he
 case convert S T x =>
  split at hc
  ·rename_i hS hT;cases hc;exact sim_conv h hop hS hT he
  ·cases hc
 case makeSlice T l c =>
  split at hc
  case h_2=>cases hc
  rename_i e hu
  split at hc
  case h_2=>cases hc
  rename_i z ag sz i hz hi
  cases hc
  exact sim_makeSlice h hop hu (zeroOf_ok hz) hi rfl he
 case slice T x lo hi mx =>
  split at hc
  ·rename_i hu
   split at hc
   ·cases hc
   ·rename_i hm
    cases hc
    have hm':mx=none:=by cases mx<;>simp at hm;rfl
    subst hm'
    exact sim_sliceS h hop hu he
  ·rename_i e hu
   split at hc
   case h_2=>cases hc
   rename_i ag sz hT
   split at hc
   ·cases hc
   ·rename_i hm
    cases hc
    exact sim_slice h hop hu (tyOf_ok hT) (fun hh=>by cases hi<;>simp_all) he
  ·cases hc
 case fieldAddr S x f =>
  split at hc
  case h_2=>cases hc
  rename_i fs hu
  split at hc
  case h_2=>cases hc
  rename_i g hf
  split at hc
  case h_2=>cases hc
  rename_i ag sz hT
  split at hc
  ·cases hc
  ·rename_i hz
   cases hc
   exact sim_fieldAddr h hop hu hf (tyOf_ok hT) (by simpa using hz) he
 case field S x f =>
  split at hc
  case h_2=>cases hc
  rename_i fs hu
  split at hc
  case h_2=>cases hc
  rename_i g hf
  split at hc
  case h_2=>cases hc
  rename_i ag sz hT
  cases hc
  exact sim_field h hop hu hf (tyOf_ok hT) he
 case indexAddr T x i =>
  split at hc
  case h_2=>cases hc
  rename_i e hu
  split at hc
  case h_2=>cases hc
  rename_i ag sz hT
  cases hc
  exact sim_indexAddr h hop hu (tyOf_ok hT) he
 case index T x i =>
  split at hc
  ·rename_i hu;cases hc;exact sim_index h hop hu he
  ·cases hc
 case extract x i=>cases hc;exact sim_extract h hop he
 case call c =>
  split at hc
  ·cases hc;cases ev_call he
  ·rename_i hcal
   split at hc
   ·rename_i x T hx hT
    split at hc
    ·rename_i hu;cases hc;exact sim_lenS h hop hcal hx hT hu he
    ·rename_i e hu;cases hc;exact sim_len h hop hcal hx hT hu he
    ·cases hc
   ·cases hc
  ·rename_i hcal
   split at hc
   ·rename_i x y hx;cases hc;exact sim_mm (mx:=true) h hop hcal hx he
   ·cases hc
  ·rename_i hcal
   split at hc
   ·rename_i x y hx;cases hc;exact sim_mm (mx:=false) h hop hcal hx he
   ·cases hc
  ·split at hc
   ·split at hc
    ·split at hc
     ·split at hc
      ·cases hc;cases he
      ·cases hc
     ·cases hc
    ·cases hc
   ·cases hc
  ·cases hc
 all_goals cases hc
end
end Go.Proofs.Ytdjbfgfbpimakaa.M
end
