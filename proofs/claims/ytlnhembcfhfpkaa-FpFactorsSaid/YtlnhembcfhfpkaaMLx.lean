/- The small machine: the model does what the small machine says: stores, structs and slices that are written out. -/
import Derived.Test.YtlnhembcfhfpkaaMKx
namespace Go.Proofs.Ytlnhembcfhfpkaa.M
open Go.RowKit
section
variable {P:Program} {w0:World} {base:Bs} {nt:Nat} {loc:Locs} {s t:St} {a:Act} {w:World} {o:Oper} {id:Nat} {d:AV}
theorem toD_pure (h:Rel w0 base nt loc s a w) {n:Nat} {x:AV} {v:Value} {d:D} (hd:x.toD false s.m n=some d) (hv:RV w (NB base s.m loc w) loc v x):V w (NB base s.m loc w) v d:=by
 refine toD_ok h (fun _ h=>h) (fun id o L ho hf hL hn => ?_) n x v d hd hv
 obtain⟨L',hL',hok⟩:=h.objs id o ho
 rw[hL] at hL'
 cases hL'
 obtain⟨c,fr,k1,k2,k3,k4,k5⟩:=hok.at_ hn
 exact k5 (by simpa using hf)
theorem cells_not_tup {d:D} (h:d.cells.all D.one=true):∀ l,d≠.tup l:=by
 rintro l rfl
 simp[D.cells,D.one] at h
theorem mk_cells {l:List AV} (h1:∀ e∈l,e.one=true):(AV.mk l).cells.length=l.length∧(∀ e∈(AV.mk l).cells,e.one=true) ∧
  ∀ (w:World) (N:Nat→Prop) (loc:Locs) (v:Value) (r:Nat) (z:AV),(AV.mk l).cells[r]? = some z→(∀ e,l[r]? = some e→RV w N loc v e)→RV w N loc v z:=by
 unfold AV.mk
 split
 ·rename_i ds hds
  obtain⟨g1,g2⟩:=pureL_spec hds
  refine⟨by simp[AV.cells,D.cells,g1],fun e he => ?_,fun w N loc v r z hz hr => ?_⟩
  ·simp only[AV.cells,D.cells,List.mem_map] at he
   obtain⟨q,hq,rfl⟩:=he
   obtain⟨i,hi⟩:=List.getElem?_of_mem hq
   obtain⟨x,hx,hp⟩:=g2 i q hi
   have:=h1 x (List.mem_of_getElem? hx)
   cases x<;>simp[AV.one] at this<;>simp[AV.pure] at hp
   ·subst hp;exact this
   ·subst hp;rfl
  ·simp only[AV.cells,D.cells,List.getElem?_map,Option.map_eq_some_iff] at hz
   obtain⟨q,hq,rfl⟩:=hz
   obtain⟨x,hx,hp⟩:=g2 r q hq
   exact .p _ _ ((hr x hx).pure hp)
 ·exact⟨rfl,h1,fun w N loc v r z hz hr=>hr z hz⟩
theorem sim_store {T:TypeId} {ag:Bool} {sz:Nat} {x v:Operand} (h:Rel w0 base nt loc s a w) (ho:o.op = .store T x v) (hT:TyOk P T ag sz) {U W:Option TypeId}
  (he:ev (.store sz (opd P U x) (opd P W v)) id s=some (true,d,t)):Good P w0 base nt o a w t d:=by
 have hx:=h.opd (P:=P) U x
 have hv:=h.opd (P:=P) W v
 simp only[ev] at he
 split at he
 case h_2=>cases he
 rename_i i j off hk
 rw[hk] at hx
 generalize hxv:a.eval x=xv at hx
 cases hx with
 | ptr L _ _ _ hL hn =>
 have goal:∀ (ob:AObj) (k:Cont),s.m i=some ob→ob.frz=false→(a.eval v).cells.size=sz→(∀ u∈(a.eval v).cells.toList,u.oneCell'=true) →
   (∀ c,c.size=L.n→ContOk w (NB base s.m loc w) loc c L.o ob.sz ob.cont→L.o+(j*L.sz+off)+sz≤c.size) →
   (∀ (w':World) (c:Array Value),w.heap.size≤w'.heap.size→(∀ b,NB base s.m loc w b→w'.heap[b]? = w.heap[b]?)→ContOk w' (NB base s.m loc w') loc c L.o ob.sz ob.cont→c.size=L.n→ContOk w' (NB base s.m loc w') loc (setC c (L.o+(j*L.sz+off)) (a.eval v).cells.toList) L.o ob.sz k) →
   Good P w0 base nt o a w ⟨s.r,upd s.m i (some ⟨ob.T,ob.sz,k,false⟩)⟩ .und:=by
  intro ob k hob hf hsz h1 hfit hk'
  have hrel:=h.write hob hf hL hn hk'
  refine⟨undef,_,loc,.inr ⟨?_,rfl⟩,hrel,.und _⟩
  obtain⟨L',hL',hok⟩:=h.objs i ob hob
  rw[hL] at hL'
  cases hL'
  obtain⟨c,fr,k1,k2,k3,k4,k5⟩:=hok.at_ hn
  have hr:=run_storeAt (P:=P) (v:=a.eval v) hT k1 (hfit c k2 k3) hsz (fun y hy=>(k4 hf).2 y (by omega)) h1
  simp[execOp,ho,hxv,hr]
 split at he
 ·rename_i T' osz l hm
  split at he
  case h_2=>cases he
  rename_i e hd
  split at he
  case isFalse=>cases he
  rename_i hc
  obtain⟨hc1,hc2⟩:=hc
  split at he
  case isFalse=>cases he
  rename_i hoff
  obtain⟨rfl,rfl⟩:=hoff
  simp only[Option.some.injEq,Prod.mk.injEq,decide_eq_true_eq] at he
  obtain⟨hj,rfl,rfl⟩:=he
  have hV:=toD_pure h hd hv
  obtain⟨g1,g2⟩:=hV.cells (cells_not_tup hc2)
  obtain⟨L',hL',hok⟩:=h.objs i _ hm
  rw[hL] at hL'
  cases hL'
  have hLs:L.sz=sz:=hok.sz
  have hmul:j*sz+sz≤l.length*sz:=by
   have:=Nat.mul_le_mul_right sz (show j+1≤l.length by omega)
   rw[Nat.add_mul] at this;omega
  have hvs:(a.eval v).cells.toList.length=sz:=by simp;omega
  refine goal _ (.row (l.set j e)) hm rfl (by omega) (fun u hu => ?_) (fun c hcs hcc => ?_) (fun w' c hws hw' hcc hcs => ?_)
  ·obtain⟨p,hp⟩:=List.getElem?_of_mem hu
   have hlt:=(List.getElem?_eq_some_iff.1 hp).1
   have hq:e.cells[p]? = some (e.cells[p]'(by simp at hlt;omega)):=by simp
   have:=g2 p _ hq
   have hu':(a.eval v).cells.getD p undef=u:=by simpa using congrArg (·.getD undef) hp
   rw[hu'] at this
   exact this.2.one this.1
  ·have:=hcc.1
   rw[hLs];simp only at this;omega
  ·obtain⟨m1,m2,m3⟩:=hcc
   simp only at m1 m2 m3
   refine⟨by simpa using m1,fun q hq => ?_,fun p q r z hp hr => ?_⟩
   ·rcases List.mem_or_eq_of_mem_set hq with hq | rfl
    ·exact m2 q hq
    ·exact hc1
   ·rw[hLs]
    by_cases hpj:p=j
    ·subst hpj
     have hqe:q=e:=by
      rw[List.getElem?_set_self (by omega)] at hp
      simpa using hp.symm
     subst hqe
     have hrl:r<sz:=by have:=(List.getElem?_eq_some_iff.1 hr).1;omega
     have hin:=setC_in (a.eval v).cells.toList (L.o+(p*sz+0)) c r (by rw[hvs];omega) (by rw[hvs];exact hrl)
     rw[show L.o+(p*sz+r)=L.o+(p*sz+0)+r by omega,hin]
     obtain⟨q1,q2⟩:=g2 r z hr
     have hz:(a.eval v).cells.toList.getD r undef=(a.eval v).cells.getD r undef:=by simp
     rw[hz]
     exact⟨q1,q2.mono hw' (fun b hb=>⟨Nat.lt_of_lt_of_le hb.1 hws,hb.2⟩)⟩
    ·have hp':l[p]? = some q:=by rwa[List.getElem?_set_ne (by omega)] at hp
     obtain⟨q1,q2⟩:=m3 p q r z hp' hr
     have hrl:r<sz:=by have:=(List.getElem?_eq_some_iff.1 hr).1;have:=m2 q (List.mem_of_getElem? hp');omega
     dsimp only
     rw[setC_out]
     ·exact⟨q1,q2⟩
     ·rw[hvs]
      rcases Nat.lt_or_gt_of_ne hpj with hlt | hgt
      ·left
       have:=Nat.mul_le_mul_right sz (show p+1≤j by omega)
       rw[Nat.add_mul] at this;omega
      ·right
       have:=Nat.mul_le_mul_right sz (show j+1≤p by omega)
       rw[Nat.add_mul] at this;omega
 ·rename_i T' osz u hm
  split at he
  case isFalse=>cases he
  rename_i hc
  obtain⟨hc1,hc2,rfl⟩:=hc
  rw[List.all_eq_true] at hc2
  obtain⟨g1,g2⟩:=hv.cells hc2
  obtain⟨L',hL',hok⟩:=h.objs i _ hm
  rw[hL] at hL'
  cases hL'
  have hLs:L.sz=osz:=hok.sz
  have hvs:(a.eval v).cells.toList.length=sz:=by simp;omega
  have hone:∀ q∈(a.eval v).cells.toList,q.oneCell'=true:=by
   intro q hq
   obtain⟨p,hp⟩:=List.getElem?_of_mem hq
   have hlt:=(List.getElem?_eq_some_iff.1 hp).1
   have hy:((opd P W v).ev s.r).cells[p]? = some (((opd P W v).ev s.r).cells[p]'(by simp at hlt;omega)):=by simp
   have:=g2 p _ hy
   have hu':(a.eval v).cells.getD p undef=q:=by simpa using congrArg (·.getD undef) hp
   rw[hu'] at this
   exact this.one (hc2 _ (List.mem_of_getElem? hy))
  have hin:∀ (w':World) (c:Array Value),w.heap.size≤w'.heap.size→(∀ b,NB base s.m loc w b→w'.heap[b]? = w.heap[b]?)→L.o+off+sz≤c.size→∀ r z,((opd P W v).ev s.r).cells[r]? = some z→RV w' (NB base s.m loc w') loc ((setC c (L.o+(0*L.sz+off)) (a.eval v).cells.toList).getD (L.o+(off+r)) undef) z:=by
   intro w' c hws hw' hfit r z hr
   have hrl:r<sz:=by have:=(List.getElem?_eq_some_iff.1 hr).1;omega
   have hin:=setC_in (a.eval v).cells.toList (L.o+(0*L.sz+off)) c r (by rw[hvs];omega) (by rw[hvs];exact hrl)
   rw[show L.o+(off+r)=L.o+(0*L.sz+off)+r by omega,hin]
   have hz:(a.eval v).cells.toList.getD r undef=(a.eval v).cells.getD r undef:=by simp
   rw[hz]
   exact (g2 r z hr).mono hw' (fun b hb=>⟨Nat.lt_of_lt_of_le hb.1 hws,hb.2⟩) (fun _ _ x=>x)
  split at he
  ·rename_i hoff
   obtain⟨rfl,rfl⟩:=hoff
   simp only[Option.some.injEq,Prod.mk.injEq,true_and] at he
   obtain⟨rfl,rfl⟩:=he
   refine goal _ (.box ((opd P W v).ev s.r)) hm rfl (by omega) hone (fun c hcs hcc => ?_) (fun w' c hws hw' hcc hcs => ?_)
   ·have:=hcc.1;simp only at this;omega
   ·obtain⟨m1,m2,m3,m4⟩:=hcc
    simp only at m1
    refine⟨by simpa using m1,hc1,hc2,fun r z hr => ?_⟩
    have:=hin w' c hws hw' (by omega) r z hr
    rwa[Nat.zero_add] at this
  ·split at he
   case isFalse=>cases he
   rename_i hle
   simp only[Option.some.injEq,Prod.mk.injEq,true_and] at he
   obtain⟨rfl,rfl⟩:=he
   refine goal _ (.box (AV.mk (u.cells.take off++((opd P W v).ev s.r).cells++u.cells.drop (off+sz)))) hm rfl (by omega) hone (fun c hcs hcc => ?_) (fun w' c hws hw' hcc hcs => ?_)
   ·have:=hcc.1;simp only at this;omega
   ·obtain⟨m1,m2,m3,m4⟩:=hcc
    simp only at m1 m2 m3 m4
    have hall:∀ e∈u.cells.take off++((opd P W v).ev s.r).cells++u.cells.drop (off+sz),e.one=true:=by
     intro e he
     rcases List.mem_append.1 he with he | he
     ·rcases List.mem_append.1 he with he | he
      ·exact m3 e (List.mem_of_mem_take he)
      ·exact hc2 e he
     ·exact m3 e (List.mem_of_mem_drop he)
    have hlen:(u.cells.take off++((opd P W v).ev s.r).cells++u.cells.drop (off+sz)).length=osz:=by simp;omega
    obtain⟨k1,k2,k3⟩:=mk_cells hall
    refine⟨by simpa using m1,by rw[k1];exact hlen,k2,fun r z hr => ?_⟩
    refine k3 w' _ loc _ r z hr fun e he => ?_
    by_cases h1:r<off
    ·rw[List.append_assoc,List.getElem?_append_left (by simp;omega),List.getElem?_take_of_lt h1] at he
     rw[setC_out _ _ _ _ (.inl (by omega))]
     exact m4 r e he
    ·by_cases h2:r<off+sz
     ·have:=hin w' c hws hw' (by omega) (r-off) e (by
       rw[List.append_assoc,List.getElem?_append_right (by simp;omega),List.getElem?_append_left (by simp;omega)] at he
       simpa[show min off u.cells.length=off by omega] using he)
      rwa[show L.o+(off+(r-off))=L.o+r by omega] at this
     ·rw[List.getElem?_append_right (by simp;omega)] at he
      simp only[List.length_append,List.length_take,List.getElem?_drop] at he
      rw[show off+sz+(r-(min off u.cells.length+((opd P W v).ev s.r).cells.length))=r by omega] at he
      rw[setC_out _ _ _ _ (.inr (by rw[hvs];omega))]
      exact m4 r e he
 ·rename_i T' osz hm
  split at he
  case isFalse=>cases he
  rename_i hc
  obtain⟨hc1,hc2,rfl⟩:=hc
  rw[List.all_eq_true] at hc2
  obtain⟨g1,g2⟩:=hv.cells hc2
  obtain⟨L',hL',hok⟩:=h.objs i _ hm
  rw[hL] at hL'
  cases hL'
  have hLs:L.sz=osz:=hok.sz
  have hvs:(a.eval v).cells.toList.length=sz:=by simp;omega
  have hone:∀ q∈(a.eval v).cells.toList,q.oneCell'=true:=by
   intro q hq
   obtain⟨p,hp⟩:=List.getElem?_of_mem hq
   have hlt:=(List.getElem?_eq_some_iff.1 hp).1
   have hy:((opd P W v).ev s.r).cells[p]? = some (((opd P W v).ev s.r).cells[p]'(by simp at hlt;omega)):=by simp
   have:=g2 p _ hy
   have hu':(a.eval v).cells.getD p undef=q:=by simpa using congrArg (·.getD undef) hp
   rw[hu'] at this
   exact this.one (hc2 _ (List.mem_of_getElem? hy))
  have hin:∀ (w':World) (c:Array Value),w.heap.size≤w'.heap.size→(∀ b,NB base s.m loc w b→w'.heap[b]? = w.heap[b]?)→L.o+off+sz≤c.size→∀ r z,((opd P W v).ev s.r).cells[r]? = some z→RV w' (NB base s.m loc w') loc ((setC c (L.o+(0*L.sz+off)) (a.eval v).cells.toList).getD (L.o+(off+r)) undef) z:=by
   intro w' c hws hw' hfit r z hr
   have hrl:r<sz:=by have:=(List.getElem?_eq_some_iff.1 hr).1;omega
   have hin:=setC_in (a.eval v).cells.toList (L.o+(0*L.sz+off)) c r (by rw[hvs];omega) (by rw[hvs];exact hrl)
   rw[show L.o+(off+r)=L.o+(0*L.sz+off)+r by omega,hin]
   have hz:(a.eval v).cells.toList.getD r undef=(a.eval v).cells.getD r undef:=by simp
   rw[hz]
   exact (g2 r z hr).mono hw' (fun b hb=>⟨Nat.lt_of_lt_of_le hb.1 hws,hb.2⟩) (fun _ _ x=>x)
  split at he
  ·rename_i hoff
   obtain⟨rfl,rfl⟩:=hoff
   simp only[Option.some.injEq,Prod.mk.injEq,true_and] at he
   obtain⟨rfl,rfl⟩:=he
   refine goal _ (.box ((opd P W v).ev s.r)) hm rfl (by omega) hone (fun c hcs hcc => ?_) (fun w' c hws hw' hcc hcs => ?_)
   ·have:=hcc;simp only[ContOk] at this;omega
   ·have m1:=hcc
    simp only[ContOk] at m1
    refine⟨by simpa using m1,hc1,hc2,fun r z hr => ?_⟩
    have:=hin w' c hws hw' (by omega) r z hr
    rwa[Nat.zero_add] at this
  ·cases he
 ·cases he
end
end Go.Proofs.Ytlnhembcfhfpkaa.M
