/- The small machine: what is handed on as plain data; stores; structs and slices that are written out. -/
import Derived.Test.YtlnhembcfhfpkaaMJx
namespace Go.Proofs.Ytlnhembcfhfpkaa.M
open Go.RowKit
section
variable {P:Program} {w0:World} {base:Bs} {nt:Nat} {loc:Locs} {s t:St} {a:Act} {w:World} {o:Oper} {id:Nat} {d:AV}
theorem toDL_spec {any:Bool} {M:Mem}:∀ {n:Nat} {l:List AV} {ds:List D},toDL any M n l=some ds→l.length=ds.length∧∀ (i:Nat) (e:D),ds[i]? = some e→∃ (x:AV) (m:Nat),m<n∧l[i]? = some x∧x.toD any M m=some e
 | 0,l,ds,h=>by simp[toDL] at h
 | n+1,[],ds,h=>by
  simp only[toDL,Option.some.injEq] at h
  subst h
  exact⟨rfl,fun i d h=>by simp at h⟩
 | n+1,v::l,ds,h=>by
  simp only[toDL] at h
  split at h
  ·rename_i d ds' h1 h2
   simp only[Option.some.injEq] at h
   subst h
   obtain⟨g1,g2⟩:=toDL_spec h2
   refine⟨by simp[g1],fun i d' hi => ?_⟩
   match i,hi with
   | 0,hi=>simp at hi;subst hi;exact⟨v,n,by omega,rfl,h1⟩
   | i+1,hi =>
    obtain⟨x,m,k1,k2,k3⟩:=g2 i d' (by simpa using hi)
    exact⟨x,m,by omega,by simpa using k2,k3⟩
  ·cases h
theorem toD_one {any:Bool} {M:Mem} {n:Nat} {x:AV} {d:D} (h:x.toD any M n=some d) (h1:x.one=true):d.one=true:=by
 cases n with
 | zero=>simp[AV.toD] at h
 | succ n =>
  cases x with
  | p e=>simp[AV.toD] at h;subst h;exact h1
  | nils T sz=>simp[AV.toD] at h;subst h;rfl
  | slice i off len =>
   simp only[AV.toD] at h
   split at h
   ·split at h
    ·split at h
     ·simp only[Option.some.injEq] at h;subst h;rfl
     ·cases h
    ·cases h
   ·cases h
  | ptr i j off =>
   simp only[AV.toD] at h
   split at h
   ·split at h
    ·split at h
     ·split at h
      ·simp only[Option.map_eq_some_iff] at h;obtain⟨e,-,rfl⟩:=h;rfl
      ·cases h
     ·cases h
    ·cases h
   ·cases h
  | arr i off len =>
   simp only[AV.toD] at h
   split at h
   ·split at h
    ·split at h
     ·simp only[Option.some.injEq] at h;subst h;rfl
     ·cases h
    ·cases h
   ·cases h
  | _=>simp[AV.one] at h1
theorem toD_cells {any:Bool} {M:Mem} {n:Nat} {x:AV} {d:D} (h:x.toD any M n=some d) (h1:∀ e∈x.cells,e.one=true) :
  d.cells.length=x.cells.length∧∀ (j:Nat) (e:D),d.cells[j]? = some e→e.one=true∧∃ (y:AV) (m:Nat),m≤n∧x.cells[j]? = some y∧y.toD any M m=some e:=by
 cases n with
 | zero=>simp[AV.toD] at h
 | succ n =>
  have single:x.one=true→x.cells=[x]→d.cells.length=x.cells.length∧∀ (j:Nat) (e:D),d.cells[j]? = some e→e.one=true∧∃ (y:AV) (m:Nat),m≤n+1∧x.cells[j]? = some y∧y.toD any M m=some e:=by
   intro ho hc
   have hd:=toD_one h ho
   have hdc:d.cells=[d]:=by cases d<;>first | rfl | simp[D.one] at hd
   rw[hc,hdc]
   refine⟨rfl,fun j e hj => ?_⟩
   match j,hj with
   | 0,hj=>simp at hj;subst hj;exact⟨hd,x,n+1,Nat.le_refl _,rfl,h⟩
   | j+1,hj=>simp at hj
  cases x with
  | p e =>
   simp[AV.toD] at h
   subst h
   refine⟨by simp[AV.cells],fun j q hq => ?_⟩
   have hm:(AV.p e).cells[j]? = some (.p q):=by simp[AV.cells,hq]
   exact⟨h1 (.p q) (List.mem_of_getElem? hm),.p q,n+1,Nat.le_refl _,hm,by simp[AV.toD]⟩
  | agg l =>
   simp only[AV.toD,Option.map_eq_some_iff] at h
   obtain⟨ds,hds,rfl⟩:=h
   obtain⟨g1,g2⟩:=toDL_spec hds
   refine⟨g1.symm,fun j e hj => ?_⟩
   obtain⟨y,m,k1,k2,k3⟩:=g2 j e hj
   exact⟨toD_one k3 (h1 y (List.mem_of_getElem? k2)),y,m,by omega,k2,k3⟩
  | nils T sz=>exact single rfl rfl
  | slice i off len=>exact single rfl rfl
  | ptr i j off=>exact single rfl rfl
  | arr i j off=>exact single rfl rfl
  | und=>simp[AV.cells,AV.one] at h1
  | tup l=>simp[AV.cells,AV.one] at h1
theorem toD_okM {any:Bool} {N':Nat→Prop} {M':Mem} (h:Rel w0 base nt loc s a w) (hM:∀ i o,M' i=some o→s.m i=some o) (hN:∀ b,NB base s.m loc w b→N' b)
  (hO:∀ id o L,M' id=some o→(o.frz||any)=true→loc id=some L→L.nil=false→N' L.b) :
  ∀ (n:Nat) (x:AV) (v:Value) (d:D),x.toD any M' n=some d→RV w (NB base s.m loc w) loc v x→V w N' v d:=by
 intro n
 induction n using Nat.strongRecOn with
 | _ n ih =>
 intro x v d hd hv
 cases n with
 | zero=>simp[AV.toD] at hd
 | succ n =>
 cases hv with
 | und=>simp[AV.toD] at hd
 | p _ e hV =>
  simp[AV.toD] at hd
  subst hd
  exact hV.mono (fun _ _=>rfl) hN
 | nils T sz =>
  simp[AV.toD] at hd
  subst hd
  exact .empty _ _ _ _ (by omega)
 | agg cs l h1 h2 h3 =>
  simp only[AV.toD,Option.map_eq_some_iff] at hd
  obtain⟨ds,hds,rfl⟩:=hd
  obtain⟨g1,g2⟩:=toDL_spec hds
  refine .agg _ _ (h1.trans g1) (fun e he => ?_) (fun i e hi => ?_)
  ·obtain⟨i,hi⟩:=List.getElem?_of_mem he
   obtain⟨y,m,k1,k2,k3⟩:=g2 i e hi
   exact toD_one k3 (h2 y (List.mem_of_getElem? k2))
  ·obtain⟨y,m,k1,k2,k3⟩:=g2 i e hi
   exact ih m (by omega) y _ e k3 (h3 i y k2)
 | tup cs l h1 h3 =>
  simp only[AV.toD,Option.map_eq_some_iff] at hd
  obtain⟨ds,hds,rfl⟩:=hd
  obtain⟨g1,g2⟩:=toDL_spec hds
  refine .tup _ _ (h1.trans g1) (fun i e hi => ?_)
  obtain⟨y,m,k1,k2,k3⟩:=g2 i e hi
  exact ih m (by omega) y _ e k3 (h3 i y k2)
 | slice L i off len cap hL hn h3 h4 h5 =>
  simp only[AV.toD] at hd
  split at hd
  case h_2=>cases hd
  rename_i ob hob
  split at hd
  case h_2=>cases hd
  rename_i l hcont
  split at hd
  case isFalse=>cases hd
  rename_i hc
  simp only[Bool.and_eq_true,decide_eq_true_eq] at hc
  simp only[Option.some.injEq] at hd
  subst hd
  obtain⟨L',hL',hok⟩:=h.objs i ob (hM _ _ hob)
  rw[hL] at hL'
  cases hL'
  obtain⟨c,fr,k1,k2,k3,k4,k5⟩:=hok.at_ hn
  rw[hcont] at k3
  obtain⟨m1,m2,m3⟩:=k3
  have hsz:=hok.sz
  have hlen:((l.drop off).take len).length=len:=by simp;omega
  have idx:∀ j e,((l.drop off).take len)[j]? = some e→l[off+j]? = some e:=by
   intro j e hj
   have hlt:j<len:=by have:=(List.getElem?_eq_some_iff.1 hj).1;omega
   rw[List.getElem?_take_of_lt hlt,List.getElem?_drop] at hj
   exact hj
  have:=V.list (w:=w) (N:=N') L.b (L.o+off*L.sz) cap ob.T ob.sz ((l.drop off).take len) c fr (.of k1) (hO i ob L hob hc.1 hL hn) (by omega) h4
   (fun e he=>by
    have hm:=List.mem_of_mem_drop (List.mem_of_mem_take he)
    refine⟨m2 e hm,fun q hq => ?_⟩
    obtain⟨p,hp⟩:=List.getElem?_of_mem hm
    obtain⟨r,hr⟩:=List.getElem?_of_mem hq
    exact (m3 p e r q hp hr).1)
   (fun p e r q hp hr=>by
    have hle:=idx p e hp
    have hlt:=(List.getElem?_eq_some_iff.1 hle).1
    have hrl:r<ob.sz:=by have:=(List.getElem?_eq_some_iff.1 hr).1;have:=m2 e (List.mem_of_getElem? hle);omega
    have hmul:=Nat.mul_le_mul_right ob.sz (show off+p+1≤l.length by omega)
    rw[Nat.add_mul,Nat.add_mul] at hmul
    rw[hsz];omega)
   (fun p e r q hp hr=>by
    have:=(m3 _ e r q (idx p e hp) hr).2
    rw[show L.o+((off+p)*ob.sz+r)=L.o+off*L.sz+(p*ob.sz+r) by rw[hsz,Nat.add_mul];omega] at this
    exact this.mono (fun _ _=>rfl) hN)
  rw[hlen] at this
  exact this
 | sliceEmp L i off p hL =>
  simp only[AV.toD] at hd
  split at hd
  case h_2=>cases hd
  rename_i ob hob
  split at hd
  case h_2=>cases hd
  rename_i l hcont
  split at hd
  case isFalse=>cases hd
  simp only[List.take_zero,Option.some.injEq] at hd
  subst hd
  exact .empty _ _ _ _ (by omega)
 | arr L i off len cap hL hn h3 h4 h5 =>
  simp only[AV.toD] at hd
  split at hd
  case h_2=>cases hd
  rename_i ob hob
  split at hd
  case h_2=>cases hd
  rename_i q hcont
  split at hd
  case isFalse=>cases hd
  rename_i hc
  simp only[Bool.and_eq_true,decide_eq_true_eq] at hc
  simp only[Option.some.injEq] at hd
  subst hd
  obtain⟨L',hL',hok⟩:=h.objs i ob (hM _ _ hob)
  rw[hL] at hL'
  cases hL'
  obtain⟨c,fr,k1,k2,k3,k4,k5⟩:=hok.at_ hn
  rw[hcont] at k3
  obtain⟨m1,m2,m3,m4⟩:=k3
  have hlen:((q.cells.drop off).take len).length=len:=by simp;omega
  have idx:∀ j e,((q.cells.drop off).take len)[j]? = some e→q.cells[off+j]? = some e:=by
   intro j e hj
   have hlt:j<len:=by have:=(List.getElem?_eq_some_iff.1 hj).1;omega
   rw[List.getElem?_take_of_lt hlt,List.getElem?_drop] at hj
   exact hj
  have hone:∀ e∈q.cells,e.one=true:=fun e he=>by
   have:=m3 (.p e) (by simp only[AV.cells,List.mem_map];exact⟨e,he,rfl⟩)
   exact this
  have hcell:∀ e∈q.cells,e.cells=[e]:=fun e he=>by
   have h1:=hone e he
   cases e<;>first | rfl | simp[D.one] at h1
  have this:=V.list (w:=w) (N:=N') L.b (L.o+off) cap 1000000 1 ((q.cells.drop off).take len) c fr ⟨_,k1,.inr (Nat.le_refl _)⟩ (hO i ob L hob hc.1.1 hL hn) (by omega) h4
   (fun e he=>by
    have hm:=List.mem_of_mem_drop (List.mem_of_mem_take he)
    rw[hcell e hm]
    exact⟨rfl,fun z hz=>by simp at hz;subst hz;exact hone _ hm⟩)
   (fun p e r z hp hr=>by
    have hle:=idx p e hp
    have hlt:=(List.getElem?_eq_some_iff.1 hp).1
    rw[hcell e (List.mem_of_getElem? hle)] at hr
    have hr0:=(List.getElem?_eq_some_iff.1 hr).1
    simp only[List.length_singleton] at hr0
    omega)
   (fun p e r z hp hr=>by
    have hle:=idx p e hp
    rw[hcell e (List.mem_of_getElem? hle)] at hr
    have hr0:=(List.getElem?_eq_some_iff.1 hr).1
    simp only[List.length_singleton] at hr0
    obtain rfl:r=0:=by omega
    simp only[List.getElem?_cons_zero,Option.some.injEq] at hr
    subst hr
    have:=m4 (off+p) (.p e) (by simp only[AV.cells,List.getElem?_map,hle,Option.map_some])
    rw[show L.o+(off+p)=L.o+off+(p*1+0) by omega] at this
    exact this.inv.mono (fun _ _=>rfl) hN)
  rw[hlen] at this
  exact this
 | arrEmp L i off p hL =>
  simp only[AV.toD] at hd
  split at hd
  case h_2=>cases hd
  split at hd
  case h_2=>cases hd
  split at hd
  case isFalse=>cases hd
  simp only[List.take_zero,Option.some.injEq] at hd
  subst hd
  exact .empty _ _ _ _ (by omega)
 | ptr L i j off hL hn =>
  simp only[AV.toD] at hd
  split at hd
  case isFalse=>cases hd
  rename_i hij
  obtain⟨rfl,rfl⟩:=hij
  split at hd
  case h_2=>cases hd
  rename_i ob hob
  split at hd
  case h_2=>cases hd
  rename_i u hcont
  split at hd
  case isFalse=>cases hd
  rename_i hc
  simp only[Option.map_eq_some_iff] at hd
  obtain⟨e,he,rfl⟩:=hd
  obtain⟨L',hL',hok⟩:=h.objs i ob (hM _ _ hob)
  rw[hL] at hL'
  cases hL'
  obtain⟨c,fr,k1,k2,k3,k4,k5⟩:=hok.at_ hn
  rw[hcont] at k3
  obtain⟨m1,m2,m3,m4⟩:=k3
  obtain⟨g1,g2⟩:=toD_cells he m3
  rw[show L.o+(0*L.sz+0)=L.o by omega]
  refine .ref L.b L.o ob.T e c fr k1 (hO i ob L hob hc hL hn) (fun q hq => ?_) (fun p q hp => ?_) (fun p q hp => ?_)
  ·obtain⟨p,hp⟩:=List.getElem?_of_mem hq
   exact (g2 p q hp).1
  ·have:=(List.getElem?_eq_some_iff.1 hp).1;omega
  ·obtain⟨_,y,m,r1,r2,r3⟩:=g2 p q hp
   exact ih m (by omega) y _ q r3 (m4 p y r2)
theorem toD_ok {any:Bool} {N':Nat→Prop} (h:Rel w0 base nt loc s a w) (hN:∀ b,NB base s.m loc w b→N' b)
  (hO:∀ id o L,s.m id=some o→(o.frz||any)=true→loc id=some L→L.nil=false→N' L.b) :
  ∀ (n:Nat) (x:AV) (v:Value) (d:D),x.toD any s.m n=some d→RV w (NB base s.m loc w) loc v x→V w N' v d:=toD_okM h (fun _ _ h=>h) hN hO
end
end Go.Proofs.Ytlnhembcfhfpkaa.M
