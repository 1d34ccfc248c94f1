/- Lemmas. -/
import Derived.Test.YtbnhgnhgbhjkcaaGreatL4
import Derived.Test.YtbnhgnhgbhjkcaaGreatL5
import Derived.Test.YtbnhgnhgbhjkcaaGreatL3
namespace Go.Proofs.YtbnhgnhgbhjkcaaGreat.M
open Go.RowKit
def rN:TypeDesc→Bool
 |.struct _=>true
 |.array _ _=>true
 |_=>false
def bW (P:Program) (T:TypeId) (ag:Bool) (sz:Nat):Prop:=∃d i,P.underlying T=some d∧rN d=ag∧P.info? T=some i∧i.size=sz
section
variable {P:Program}{w:World}
theorem kN {T:TypeId}{ag:Bool}{sz:Nat} (h:bW P T ag sz):(isAgg T).run P w = .ok ag w:=by
 obtain⟨d,i,h1,h2,h3,h4⟩:=h;subst h2;unfold isAgg;simp only[Sem.run_bind,run_underlying h1,Result.andThen];cases d<;>rfl
theorem c7 {T:TypeId}{ag:Bool}{sz:Nat} (h:bW P T ag sz):(sizeOf T).run P w = .ok sz w:=by
 obtain⟨d,i,h1,h2,h3,h4⟩:=h;simp[sizeOf,typeInfo,h3,h4]
def rd (c:Array Value) (o n:Nat):Array Value:=((List.range n).map fun j=>c.getD (o+j) undef).toArray
@[simp] theorem zgS (c:Array Value) (o n:Nat):(rd c o n).size=n:=by simp[rd]
theorem eC (c:Array Value) (o n i:Nat) (h:i<n):(rd c o n).getD i undef=c.getD (o+i) undef:=by
 simp[rd,Array.getD_eq_getD_getElem?,h]
theorem dC (b o j:Nat):(⟨b,o,none⟩:Addr).add j=⟨b,o+j,none⟩:=by
 unfold Addr.add;split<;>simp_all
theorem eD {b o:Nat}{c:Array Value}{T:TypeId}{fr:Nat×Nat} (hb:w.heap[b]? = some (.cells c T fr)) (ho:o<c.size):w.cell? ⟨b,o,none⟩=some (c.getD o undef):=by
 rw[cell_of_row w b o c T fr hb];simp[ho]
theorem SL {b o n:Nat}{c:Array Value}{T:TypeId}{fr:Nat×Nat} (hb:w.heap[b]? = some (.cells c T fr)) (hn:o+n≤c.size):(loadCells ⟨b,o,none⟩ n).run P w = .ok (rd c o n) w:=by
 rw[run_loadCells (P:=P) w ⟨b,o,none⟩ n (fun j=>c.getD (o+j) undef) (fun j hj=>by rw[dC];exact eD hb (by omega))];rfl
theorem kO {T:TypeId}{b o n:Nat}{c:Array Value}{T':TypeId}{fr:Nat×Nat} (hT:bW P T true n) (hb:w.heap[b]? = some (.cells c T' fr)) (hn:o+n≤c.size) :
  (loadVar T ⟨b,o,none⟩).run P w = .ok (.agg (rd c o n)) w:=by
 unfold loadVar;simp only[Sem.run_bind,kN hT,Result.andThen,if_true,c7 hT,SL hb hn];rfl
theorem kP {T:TypeId}{b o n:Nat}{c:Array Value}{T':TypeId}{fr:Nat×Nat} (hT:bW P T false n) (hb:w.heap[b]? = some (.cells c T' fr)) (hn:o<c.size) :
  (loadVar T ⟨b,o,none⟩).run P w = .ok (c.getD o undef) w:=by
 unfold loadVar;simp only[Sem.run_bind,kN hT,Result.andThen,Bool.false_eq_true,if_false];simp[eD hb hn]
theorem SM {T:TypeId}{ag:Bool}{b o n:Nat}{c:Array Value}{T':TypeId}{fr:Nat×Nat}{v:Value} (hT:bW P T ag n) (hb:w.heap[b]? = some (.cells c T' fr)) (hn:o+n≤c.size) (hv:v.cells.size=n)
  (hfr:∀x,x<c.size→(decide (fr.1≤x)&&decide (x<fr.2))=false) (h1:∀u∈v.cells.toList,u.oneCell'=true) :
  (Instr.storeAt T (.pointer (some ⟨b,o,none⟩)) v).run P w = .ok () (w.setCells b o v.cells.toList):=by
 have hl:v.cells.toList.length=n:=by simpa using hv
 have:=run_storeCells_cells (P:=P) b o v.cells.toList 0 w (fun j hj=>by rw[Nat.add_zero,eD hb (by omega)];rfl) (fun j hj=>by
  rw[Nat.add_zero];have:=hfr (o+j) (by omega);simp only[World.frozen?,hb];exact this) h1
 rw[Nat.add_zero] at this;unfold Instr.storeAt Instr.sureAddr storeVar;simp only[Sem.run_bind,Result.andThen,c7 hT,hv,ne_eq,not_true,if_false];simp[this]
def cm (c:Array Value):Nat→List Value→Array Value
 |_,[]=>c
 |o,v::r=>cm (c.setIfInBounds o v) (o+1) r
theorem jo {b:Nat}{T:TypeId}{fr:Nat×Nat}:∀(vs:List Value) (o:Nat) (w:World) (c:Array Value),w.heap[b]? = some (.cells c T fr)→(w.setCells b o vs).heap[b]? = some (.cells (cm c o vs) T fr)
 |[],_,_,_,h=>h
 |v::r,o,w,c,h=>by
  rw[World.setCells,cm];refine jo r (o+1) _ _ ?_;simp[World.setCell,Array.getElem?_modify,h]
theorem gK {b b':Nat} (hne:b'≠b):∀(vs:List Value) (o:Nat) (w:World),(w.setCells b o vs).heap[b']? = w.heap[b']?
 |[],_,_=>rfl
 |v::r,o,w=>by
  rw[World.setCells,gK hne r (o+1)];exact Below.heap_setCell _ _ _ _ hne
theorem rO {B b:Nat} (hb:B≤b):∀(vs:List Value) (o:Nat) (w:World),Below B w (w.setCells b o vs)
 |[],_,_=>Below.refl _ _
 |v::r,o,_=>((Below.refl _ _).setCell (p:=⟨b,o,none⟩) hb v).trans (rO hb r (o+1) _)
theorem kQ {b:Nat}:∀(vs:List Value) (o:Nat) (w:World),(w.setCells b o vs).heap.size=w.heap.size
 |[],_,_=>rfl
 |v::r,o,_=>by rw[World.setCells,kQ r (o+1)];simp[World.setCell]
@[simp] theorem fS:∀(vs:List Value) (o:Nat) (c:Array Value),(cm c o vs).size=c.size
 |[],_,_=>rfl
 |v::r,o,c=>by rw[cm,fS r (o+1)];simp
theorem c8:∀(vs:List Value) (o:Nat) (c:Array Value) (i:Nat),(i<o∨o+vs.length≤i)→(cm c o vs).getD i undef=c.getD i undef
 |[],_,_,_,_=>rfl
 |v::r,o,c,i,h=>by
  simp only[List.length_cons] at h;rw[cm,c8 r (o+1) _ i (by omega)];simp only[Array.getD_eq_getD_getElem?];rw[Array.getElem?_setIfInBounds_ne (by omega)]
theorem eE:∀(vs:List Value) (o:Nat) (c:Array Value) (i:Nat),o+vs.length≤c.size→i<vs.length→(cm c o vs).getD (o+i) undef=vs.getD i undef
 |v::r,o,c,0,hc,_=>by
  simp only[List.length_cons] at hc;rw[cm,c8 r (o+1) _ _ (by omega)];simp only[Array.getD_eq_getD_getElem?,Nat.add_zero,Array.getElem?_setIfInBounds_self,List.getD_cons_zero];rw[if_pos (by omega)];rfl
 |v::r,o,c,i+1,hc,hi=>by
  simp only[List.length_cons] at hc hi;have:=eE r (o+1) (c.setIfInBounds o v) i (by simp;omega) (by omega);rw[cm,show o+(i+1)=o+1+i by omega,this];simp
end
section
variable {w0:World}{base:Bs}{nt:Nat}{loc:a8}{s:St}{a:Act}{w:World}
theorem ExtL.set {B:Bs}{a u:World} (h:ExtL B a u){b p:Nat} (hb:a.heap.size≤b∨B.lent b){vs:List Value}{c0:Array Value}{T0:TypeId}{fr0:Nat×Nat} (hc0:u.heap[b]? = some (.cells c0 T0 fr0)):ExtL B a (u.setCells b p vs):=by
 have h0:=rO (B:=0) (Nat.zero_le b) vs p u;refine⟨h0.os.trans h.os,h0.tape.trans h.tape,h0.output.trans h.output,by rw[kQ];exact h.size,fun k hk hl => ?_,fun k c T fr hc => ?_,fun k c T fr hk hc => ?_⟩
 ·rw[gK (fun e=>by
                   rcases hb with hb | hb;· omega
                   ·exact hl (e ▸ hb))]
  exact h.block k hk hl
 ·obtain⟨c',h1,h2⟩:=h.lentB k c T fr hc;by_cases e:k=b
  ·subst e;exact⟨cm c' p vs,by rw[fS];exact h1,jo _ _ _ _ h2⟩
  ·exact⟨c',h1,by rw[gK e];exact h2⟩
 ·by_cases e:k=b
  ·subst e;rw[jo _ _ _ _ hc0] at hc;injection hc with hc
   injection hc with h1 h2 h3
   obtain⟨c',g1,g2⟩:=h.lentT k c0 T0 fr0 hk hc0;refine⟨c',?_,?_⟩
   ·rw[g1,←h1,fS]
   ·rw[g2,h2,h3]
  ·rw[gK e] at hc;exact h.lentT k c T fr hk hc
theorem Rel.write (h:Rel w0 base nt loc s a w){id:Nat}{o:AObj}{L:Loc} (ho:s.m id=some o) (hf:o.frz=false) (hL:loc id=some L) (hn:L.nil=false){k:Cont}{p:Nat}{vs:List Value}
  (hk:∀(w':World) (c:Array Value),w.heap.size≤w'.heap.size→(∀b,NB base s.m loc w b→w'.heap[b]? = w.heap[b]?)→bL w' (NB base s.m loc w') loc c L.o o.sz o.cont→c.size=L.n→bL w' (NB base s.m loc w') loc (cm c p vs) L.o o.sz k) :
  Rel w0 base nt loc ⟨s.r,upd s.m id (some ⟨o.T,o.sz,k,false⟩)⟩ a (w.setCells L.b p vs):=by
 obtain⟨L',hL',hok⟩:=h.objs id o ho;rw[hL] at hL';cases hL';obtain⟨c,fr,h1,h2,h3,h4,h5⟩:=hok.at_ hn;have h4:=h4 hf;have hlt:=h.obj_lt ho hL hn;have hown:∀b,cU (upd s.m id (some ⟨o.T,o.sz,k,false⟩)) loc b↔cU s.m loc b:=by
  intro b;constructor
  ·rintro⟨i,o',L',ho',hf',hL',hn',hb'⟩;by_cases e:i=id
   ·subst e;exact⟨i,o,L',ho,hf,hL',hn',hb'⟩
   ·rw[aC _ _ e] at ho';exact⟨i,o',L',ho',hf',hL',hn',hb'⟩
  ·rintro⟨i,o',L',ho',hf',hL',hn',hb'⟩;by_cases e:i=id
   ·subst e;exact⟨i,_,L',aE _ _ _,rfl,hL',hn',hb'⟩
   ·exact⟨i,o',L',by rw[aC _ _ e];exact ho',hf',hL',hn',hb'⟩
 have hself:cU s.m loc L.b:=⟨id,o,L,ho,hf,hL,hn,rfl⟩
 have hsz:(w.setCells L.b p vs).heap.size=w.heap.size:=kQ _ _ _;have hs:∀b,b≠L.b→(w.setCells L.b p vs).heap[b]? = w.heap[b]?:=fun b hb=>gK hb _ _ _
 have hNs:∀b,NB base s.m loc w b→(w.setCells L.b p vs).heap[b]? = w.heap[b]?:=fun b hb=>hs b (fun e=>hb.2.2 (e ▸ hself))
 have hN:∀b,NB base s.m loc w b→NB base (upd s.m id (some ⟨o.T,o.sz,k,false⟩)) loc (w.setCells L.b p vs) b:=fun b hb=>⟨by rw[hsz];exact hb.1,hb.2.1,fun e=>hb.2.2 ((hown b).1 e)⟩
 have hN':∀b,NB base s.m loc (w.setCells L.b p vs) b→NB base (upd s.m id (some ⟨o.T,o.sz,k,false⟩)) loc (w.setCells L.b p vs) b:=fun b hb=>⟨hb.1,hb.2.1,fun e=>hb.2.2 ((hown b).1 e)⟩
 refine⟨?_,h.defers,h.size,h.low,?_,fun t=>(h.tmps t).mono hNs hN (fun _ _ x=>x),?_,?_,h.keepL.put fun _=>⟨_,rfl,rfl⟩⟩
 ·exact h.ext.set h4.1 h1
 ·intro i hi;dsimp only at hi;by_cases e:i=id
  ·subst e;rw[aE] at hi;cases hi
  ·rw[aC _ _ e] at hi;exact h.dom i hi
 ·intro i o' ho';dsimp only at ho';by_cases e:i=id
  ·subst e;rw[aE] at ho';cases ho';refine⟨L,hL,hok.sz,fun e=>(by rw[hn] at e;cases e),fun _=>⟨cm c p vs,fr,jo _ _ _ _ h1,by simpa using h2,?_,fun _=>h4,by simp⟩⟩;have:=hk (w.setCells L.b p vs) c (by rw[hsz];exact Nat.le_refl _) hNs (h3.mono hNs (fun b hb=>⟨by rw[hsz];exact hb.1,hb.2⟩) (fun _ _ x=>x)) h2;exact this.mono (fun _ _=>rfl) hN' (fun _ _ x=>x)
  ·rw[aC _ _ e] at ho';obtain⟨L',hL',hok'⟩:=h.objs i o' ho';refine⟨L',hL',hok'.sz,hok'.nil,fun hnil => ?_⟩;obtain⟨c',fr',g1,g2,g3,g4,g5⟩:=hok'.at_ hnil;have hne:L'.b≠L.b:=fun hb=>by
    have:=h.inj id i o o' L L' ho ho' hf hL hL' hn hnil hb.symm;exact e this.symm
   exact⟨c',fr',(hs _ hne).trans g1,g2,g3.mono hNs hN (fun _ _ x=>x),g4,fun hf'=>hN _ (g5 hf')⟩
 ·intro i i' o1 o2 L1 L2 ho1 ho2 hf1 hL1 hL2 hn1 hn2 hb;dsimp only at ho1 ho2;have old:∀j oj,upd s.m id (some ⟨o.T,o.sz,k,false⟩) j=some oj→∃oj',s.m j=some oj'∧oj'.frz=oj.frz:=by
   intro j oj hj;by_cases e:j=id
   ·subst e;rw[aE] at hj;cases hj;exact⟨o,ho,hf⟩
   ·rw[aC _ _ e] at hj;exact⟨oj,hj,rfl⟩
  obtain⟨o1',g1,g1'⟩:=old i o1 ho1;obtain⟨o2',g2,_⟩:=old i' o2 ho2;exact h.inj i i' o1' o2' L1 L2 g1 g2 (g1'.trans hf1) hL1 hL2 hn1 hn2 hb
theorem Rel.adopt (h:Rel w0 base nt loc s a w){w':World} (hext:Ext w w'){id:Nat} (hid:s.m id=none){T:TypeId}{sz:Nat}{l:List D} (L:Loc) (hsz:L.sz=sz) (hnl:L.nil=true→l=[])
  (hobj:L.nil=false→w.heap.size≤L.b∧∃c fr,w'.heap[L.b]? = some (.cells c T fr)∧c.size=L.n∧bL w' (fun x=>(x<w'.heap.size∧¬ (base.own x∨cU s.m loc x))∧x≠L.b) (fun _=>none) c L.o sz (.row l)∧∀x,x<L.n→(decide (fr.1≤x)&&decide (x<fr.2))=false) :
  Rel w0 base nt (upd loc id (some L)) ⟨s.r,upd s.m id (some ⟨T,sz,.row l,false⟩)⟩ a w':=by
 have hloc:=h.dom id hid;have hl:∀i K,loc i=some K→upd loc id (some L) i=some K:=fun i K hi=>by
  rw[aC];exact hi;rintro rfl;rw[hloc] at hi;cases hi
 have hs:∀b,NB base s.m loc w b→w'.heap[b]? = w.heap[b]?:=fun b hb=>hext.block b hb.1
 have hn:∀b,NB base s.m loc w b→NB base (upd s.m id (some ⟨T,sz,.row l,false⟩)) (upd loc id (some L)) w' b:=by
  rintro b ⟨h1,h2,h3⟩;refine⟨Nat.lt_of_lt_of_le h1 hext.size,h2,?_⟩;rintro⟨i,o,K,ho,hf,hK,hnil,hb⟩;by_cases hi:i=id
  ·subst hi;rw[aE] at hK;cases hK;have:=(hobj hnil).1;omega
  ·rw[aC _ _ hi] at ho hK;exact h3 ⟨i,o,K,ho,hf,hK,hnil,hb⟩
 refine⟨h.ext.tr hext,h.defers,h.size,h.low,?_,fun t=>(h.tmps t).mono hs hn hl,?_,?_,h.keepL.new hid _ _⟩
 ·intro i hi;dsimp only at hi;by_cases e:i=id
  ·subst e;rw[aE] at hi;cases hi
  ·rw[aC _ _ e] at hi ⊢;exact h.dom i hi
 ·intro i o ho;dsimp only at ho;by_cases e:i=id
  ·subst e;rw[aE] at ho;cases ho;refine⟨L,aE _ _ _,hsz,fun hnil=>by rw[hnl hnil],fun hnil => ?_⟩;obtain⟨g1,c,fr,g2,g3,g4,g5⟩:=hobj hnil;refine⟨c,fr,g2,g3,⟨g4.1,g4.2.1,fun p0 e0 j0 d0 q1 q2=>⟨(g4.2.2 p0 e0 j0 d0 q1 q2).1,(g4.2.2 p0 e0 j0 d0 q1 q2).2.mono (fun _ _=>rfl) fun b hb=>⟨hb.1.1,fun g=>hb.1.2 (.inl g),?_⟩⟩⟩,fun _=>⟨.inl (Nat.le_trans h.ext.size g1),g5⟩,by simp⟩;rintro⟨i',o',K,k1,k2,k3,k4,k5⟩;by_cases e':i'=i
   ·subst e';dsimp only at k1 k3;rw[aE] at k3;cases k3;exact hb.2 k5.symm
   ·dsimp only at k1 k3;rw[aC _ _ e'] at k1 k3;exact hb.1.2 (.inr ⟨i',o',K,k1,k2,k3,k4,k5⟩)
  ·rw[aC _ _ e] at ho;obtain⟨K,hK,hok⟩:=h.objs i o ho;refine⟨K,hl i K hK,hok.sz,hok.nil,fun hnil => ?_⟩;obtain⟨c',fr,h1,h2,h3,h4,h5⟩:=hok.at_ hnil;have hlt:=h.obj_lt ho hK hnil;exact⟨c',fr,(hext.block _ hlt).trans h1,h2,h3.mono hs hn hl,h4,fun hf=>hn _ (h5 hf)⟩
 ·intro i i' o o' K K' ho ho' hf hK hK' hnil hnil' hb;dsimp only at ho ho';by_cases e:i=id
  ·subst e;rw[aE] at hK;cases hK;by_cases e':i'=i
   ·exact e'.symm
   ·rw[aC _ _ e'] at ho' hK';have:=h.obj_lt ho' hK' hnil';have:=(hobj hnil).1;omega
  ·rw[aC _ _ e] at ho hK;by_cases e':i'=id
   ·subst e';rw[aE] at hK';cases hK';have:=h.obj_lt ho hK hnil;have:=(hobj hnil').1;omega
   ·rw[aC _ _ e'] at ho' hK';exact h.inj i i' o o' K K' ho ho' hf hK hK' hnil hnil' hb
theorem Rel.turn (h:Rel w0 base nt loc s a w){id:Nat}{o:AObj}{L:Loc} (ho:s.m id=some o) (hf:o.frz=false) (hL:loc id=some L) (hn:L.nil=false){w':World}{c c':Array Value}{fr:Nat×Nat}{l':List D}{B:Bs} (hw:ExtL B w w')
  (hB:∀b,B.lent b→b=L.b) (hc:w.heap[L.b]? = some (.cells c o.T fr)) (hc':w'.heap[L.b]? = some (.cells c' o.T fr)) (hcs:c'.size=c.size)
  (hk:bL w' (fun b=>b<w'.heap.size∧¬ (base.own b∨cU s.m loc b)) (fun _=>none) c' L.o o.sz (.row l')) :
  Rel w0 base nt loc ⟨s.r,upd s.m id (some ⟨o.T,o.sz,.row l',false⟩)⟩ a w':=by
 obtain⟨L',hL',hok⟩:=h.objs id o ho;rw[hL] at hL';cases hL';obtain⟨c0,fr0,h1,h2,h3,h4,h5⟩:=hok.at_ hn;rw[hc] at h1;injection h1 with h1
 injection h1 with e1 e2 e3
 subst e1 e3;have h4:=h4 hf;have hown:∀b,cU (upd s.m id (some ⟨o.T,o.sz,.row l',false⟩)) loc b↔cU s.m loc b:=by
  intro b;constructor
  ·rintro⟨i,o',L',ho',hf',hL',hn',hb'⟩;by_cases e:i=id
   ·subst e;exact⟨i,o,L',ho,hf,hL',hn',hb'⟩
   ·rw[aC _ _ e] at ho';exact⟨i,o',L',ho',hf',hL',hn',hb'⟩
  ·rintro⟨i,o',L',ho',hf',hL',hn',hb'⟩;by_cases e:i=id
   ·subst e;exact⟨i,_,L',aE _ _ _,rfl,hL',hn',hb'⟩
   ·exact⟨i,o',L',by rw[aC _ _ e];exact ho',hf',hL',hn',hb'⟩
 have hself:cU s.m loc L.b:=⟨id,o,L,ho,hf,hL,hn,rfl⟩
 have hs:∀b,b<w.heap.size→b≠L.b→w'.heap[b]? = w.heap[b]?:=fun b hb hne=>hw.block b hb fun e=>hne (hB b e)
 have hNs:∀b,NB base s.m loc w b→w'.heap[b]? = w.heap[b]?:=fun b hb=>hs b hb.1 (fun e=>hb.2.2 (e ▸ hself))
 have hN:∀b,NB base s.m loc w b→NB base (upd s.m id (some ⟨o.T,o.sz,.row l',false⟩)) loc w' b:=fun b hb=>⟨Nat.lt_of_lt_of_le hb.1 hw.size,hb.2.1,fun e=>hb.2.2 ((hown b).1 e)⟩
 refine⟨⟨hw.os.trans h.ext.os,hw.tape.trans h.ext.tape,hw.output.trans h.ext.output,Nat.le_trans h.ext.size hw.size,fun k hk' hl => ?_,fun k c1 T fr1 hc1 => ?_,fun k c1 T fr1 hk' hc1 => ?_⟩,h.defers,h.size,h.low,?_,fun t=>(h.tmps t).mono hNs hN (fun _ _ x=>x),?_,?_,h.keepL.put fun _=>⟨_,rfl,rfl⟩⟩
 ·rw[hs k (Nat.lt_of_lt_of_le hk' h.ext.size) (fun e=>by
   subst e;rcases h4.1 with g | g
   ·omega
   ·exact hl g)]
  exact h.ext.block k hk' hl
 ·obtain⟨c2,g1,g2⟩:=h.ext.lentB k c1 T fr1 hc1;obtain⟨c3,g3,g4⟩:=hw.lentB k c2 T fr1 g2;exact⟨c3,g3.trans g1,g4⟩
 ·obtain⟨c2,g1,g2⟩:=hw.lentT k c1 T fr1 (Nat.lt_of_lt_of_le hk' h.ext.size) hc1;obtain⟨c3,g3,g4⟩:=h.ext.lentT k c2 T fr1 hk' g2;exact⟨c3,g3.trans g1,g4⟩
 ·intro i hi;dsimp only at hi;by_cases e:i=id
  ·subst e;rw[aE] at hi;cases hi
  ·rw[aC _ _ e] at hi;exact h.dom i hi
 ·intro i o' ho';dsimp only at ho';by_cases e:i=id
  ·subst e;rw[aE] at ho';cases ho';refine⟨L,hL,hok.sz,fun e=>(by rw[hn] at e;cases e),fun _=>⟨c',fr,hc',hcs.trans h2,?_,fun _=>h4,by simp⟩⟩;exact⟨hk.1,hk.2.1,fun i e j d g1 g2=>⟨(hk.2.2 i e j d g1 g2).1,(hk.2.2 i e j d g1 g2).2.mono (fun _ _=>rfl) fun b hb=>⟨hb.1,fun g=>hb.2 (.inl g),fun g=>hb.2 (.inr ((hown b).1 g))⟩⟩⟩
  ·rw[aC _ _ e] at ho';obtain⟨L',hL',hok'⟩:=h.objs i o' ho';refine⟨L',hL',hok'.sz,hok'.nil,fun hnil => ?_⟩;obtain⟨c',fr',g1,g2,g3,g4,g5⟩:=hok'.at_ hnil;have hne:L'.b≠L.b:=fun hb=>by
    have:=h.inj id i o o' L L' ho ho' hf hL hL' hn hnil hb.symm;exact e this.symm
   exact⟨c',fr',(hs _ (nP g1) hne).trans g1,g2,g3.mono hNs hN (fun _ _ x=>x),g4,fun hf'=>hN _ (g5 hf')⟩
 ·intro i i' o1 o2 L1 L2 ho1 ho2 hf1 hL1 hL2 hn1 hn2 hb;dsimp only at ho1 ho2;have old:∀j oj,upd s.m id (some ⟨o.T,o.sz,.row l',false⟩) j=some oj→∃oj',s.m j=some oj'∧oj'.frz=oj.frz:=by
   intro j oj hj;by_cases e:j=id
   ·subst e;rw[aE] at hj;cases hj;exact⟨o,ho,hf⟩
   ·rw[aC _ _ e] at hj;exact⟨oj,hj,rfl⟩
  obtain⟨o1',g1,g1'⟩:=old i o1 ho1;obtain⟨o2',g2,_⟩:=old i' o2 ho2;exact h.inj i i' o1' o2' L1 L2 g1 g2 (g1'.trans hf1) hL1 hL2 hn1 hn2 hb
end
end Go.Proofs.YtbnhgnhgbhjkcaaGreat.M
namespace Go.Proofs.YtbnhgnhgbhjkcaaGreat.Mp
def pad (k:Nat) (e:Mo):Mo:=e++List.replicate k 0
def padT (k:Nat) (x:Rat×Mo):Rat×Mo:=(x.1,pad k x.2)
theorem pu (z:List Int):∀{l m:List Int},l.length=m.length→gtL (l++z) (m++z)=gtL l m
 |[],[],_=>by rw[List.nil_append,oq];rfl
 |a::l,b::m,h=>by
  rw[List.cons_append,List.cons_append,gtL,gtL];split
  ·exact pu z (by simpa using h)
  ·rfl
theorem vl:∀(z l m:List Int),gtL (z++l) (z++m)=gtL l m
 |[],_,_=>rfl
 |a::z,l,m=>by rw[List.cons_append,List.cons_append,gtL,if_pos rfl];exact vl z l m
theorem lT (k:Nat) (e:Mo):(pad k e).sum=e.sum:=by
 unfold pad;rw[List.sum_append];have:∀k:Nat,(List.replicate k (0:Int)).sum=0:=fun k=>by
  induction k with
  |zero=>rfl
  |succ k ih=>rw[List.replicate_succ,List.sum_cons,ih];rfl
 rw[this,Int.add_zero]
theorem za3 (ord:Int) (k:Nat){a b:Mo} (h:a.length=b.length):ahead ord (pad k a) (pad k b)=ahead ord a b:=by
 unfold ahead key;split
 ·exact pu _ h
 ·split
  ·rw[lT,lT];unfold pad;rw[List.reverse_append,List.reverse_append,List.map_append,List.map_append,gtL,gtL];split
   ·exact vl _ _ _
   ·rfl
  ·rw[lT,lT];exact pu (List.replicate k 0) (l:=a.sum::a) (m:=b.sum::b) (by simp[h])
theorem za4 {k:Nat}{a b:Mo} (h:pad k a=pad k b):a=b:=List.append_cancel_right h
theorem vm (ord:Int) (k:Nat){n:Nat}{t:Rat×Mo} (ht:t.2.length=n):∀{l:TL},Wd n l→ins ord (padT k t) (l.map (padT k))=(ins ord t l).map (padT k)
 |[],_=>by
  rw[List.map_nil,ins,ins];have e:(padT k t).1=t.1:=rfl;rw[e];split<;>rfl
 |x::l,h=>by
  have e1:(padT k t).1=t.1:=rfl;have e2:(padT k x).1=x.1:=rfl;have hx:=h x List.mem_cons_self;have e3:((padT k t).2=(padT k x).2)=(t.2=x.2):=propext ⟨fun h=>za4 h,fun h=>by unfold padT;rw[h]⟩;have e4:ahead ord (padT k t).2 (padT k x).2=ahead ord t.2 x.2:=za3 ord k (by rw[ht,hx]);rw[List.map_cons,ins,ins,e1,e2,e4];simp only[e3];split
  ·split<;>rfl
  ·split
   ·split<;>rfl
   ·rw[vm ord k ht h.tail];rfl
theorem canon_pad (ord:Int) (k:Nat){n:Nat}:∀{l:TL},Wd n l→canon ord (l.map (padT k))=(canon ord l).map (padT k)
 |[],_=>rfl
 |t::l,h=>by
  rw[List.map_cons,canon,canon,canon_pad ord k h.tail,vm ord k (h t List.mem_cons_self) (canon_wd h.tail)]
theorem pad_len {k n:Nat}{l:TL} (h:Wd n l):Wd (n+k) (l.map (padT k)):=fun x hx=>by
 obtain⟨y,hy,rfl⟩:=List.mem_map.1 hx;show (pad k y.2).length=_
 unfold pad;rw[List.length_append,List.length_replicate,h y hy]
end Go.Proofs.YtbnhgnhgbhjkcaaGreat.Mp
namespace Go.Proofs.YtbnhgnhgbhjkcaaGreat
open Go.RowKit
set_option maxHeartbeats 400000
theorem ej:(Tryz.prog.info? 173).map (fun i=>(i.zero,i.size,i.bytes))=some (some (.int .u32 0),1,4):=by kernel_rfl
theorem jn (x y c:Int) (w:World) (hx:0≤x∧x≤4294967295) (hy:0≤y∧y≤4294967295) (hc:0≤c∧c≤1) :
  Calls Tryz.prog 150 #[.int .u32 x,.int .u32 y,.int .u32 c] w (fun e w'=>e = .returned (.tuple #[.int .u32 ((x+y+c) % 4294967296),.int .u32 ((x+y+c) / 4294967296)])∧w=w'):=by
 go_enter Tryz.func150,Tryz.ntmps150;go_wp2;go_ret2;exact⟨rfl,rfl⟩
def bor (x y c:Int):Int:=if x-y-c<0 then 1 else 0
theorem rx (a b:Nat) (ha:a<4294967296) (hb:b<4294967296):(a &&& b) / 2147483648=(a / 2147483648)*(b / 2147483648):=by
 have h:(a &&& b) / 2^31=(a / 2^31) &&& (b / 2^31):=Nat.and_div_two_pow;simp only[Nat.reducePow] at h;rw[h];have h1:a / 2147483648<2:=by omega
 have h2:b / 2147483648<2:=by omega
 generalize a / 2147483648=p at *;generalize b / 2147483648=q at *
 match p,h1,q,h2 with
 |0,_,0,_=>rfl
 |0,_,1,_=>rfl
 |1,_,0,_=>rfl
 |1,_,1,_=>rfl
theorem Rt (a b:Nat) (ha:a<4294967296) (hb:b<4294967296):(a ||| b) / 2147483648=max (a / 2147483648) (b / 2147483648):=by
 have h:(a ||| b) / 2^31=(a / 2^31) ||| (b / 2^31):=Nat.or_div_two_pow
 simp only[Nat.reducePow] at h;rw[h];have h1:a / 2147483648<2:=by omega
 have h2:b / 2147483648<2:=by omega
 generalize a / 2147483648=p at *;generalize b / 2147483648=q at *
 match p,h1,q,h2 with
 |0,_,0,_=>rfl
 |0,_,1,_=>rfl
 |1,_,0,_=>rfl
 |1,_,1,_=>rfl
theorem np (a b:Nat) (ha:a<4294967296) (hb:b<4294967296):(a ^^^ b) / 2147483648=(a / 2147483648+b / 2147483648) % 2:=by
 have h:(a ^^^ b) / 2^31=(a / 2^31) ^^^ (b / 2^31):=Nat.xor_div_two_pow;simp only[Nat.reducePow] at h;rw[h];have h1:a / 2147483648<2:=by omega
 have h2:b / 2147483648<2:=by omega
 generalize a / 2147483648=p at *;generalize b / 2147483648=q at *
 match p,h1,q,h2 with
 |0,_,0,_=>rfl
 |0,_,1,_=>rfl
 |1,_,0,_=>rfl
 |1,_,1,_=>rfl
theorem kK (a:Nat) (ha:a<4294967296):4294967295 ^^^ a<4294967296:=Nat.xor_lt_two_pow (n:=32) (by omega) ha
theorem Ru (x y d:Nat) (hx:x<4294967296) (hy:y<4294967296) (hd:d<4294967296) :
  (((4294967295 ^^^ x) &&& y) ||| ((4294967295 ^^^ (x ^^^ y)) &&& d)) / 2147483648=max ((1-x / 2147483648)*(y / 2147483648)) ((1-(x / 2147483648+y / 2147483648) % 2)*(d / 2147483648)):=by
 have hxy:x ^^^ y<4294967296:=Nat.xor_lt_two_pow (n:=32) hx hy;have h1:=kK x hx;have h2:=kK _ hxy;have h3:(4294967295 ^^^ x) &&& y<4294967296:=Nat.and_lt_two_pow (n:=32) _ hy;have h4:(4294967295 ^^^ (x ^^^ y)) &&& d<4294967296:=Nat.and_lt_two_pow (n:=32) _ hd;rw[Rt _ _ h3 h4,rx _ _ h1 hy,rx _ _ h2 hd,np _ _ (by omega) hx,np _ _ (by omega) hxy,np _ _ hx hy];congr 1
 ·congr 1;omega
 ·congr 1;omega
theorem Rv (x y c:Int) (hx:0≤x∧x≤4294967295) (hy:0≤y∧y≤4294967295) (hc:0≤c∧c≤1) :
  bits BinOp.or IntKind.u32 (bits BinOp.and IntKind.u32 (bits BinOp.xor IntKind.u32 IntKind.u32.max x) y)
   (bits BinOp.and IntKind.u32 (bits BinOp.xor IntKind.u32 IntKind.u32.max (bits BinOp.xor IntKind.u32 x y)) ((x-y-c) % 4294967296)) / 2147483648=bor x y c:=by
 obtain⟨a,rfl⟩:=Int.eq_ofNat_of_zero_le hx.1;obtain⟨b,rfl⟩:=Int.eq_ofNat_of_zero_le hy.1;obtain⟨d,hd⟩:=Int.eq_ofNat_of_zero_le (a:=((a:Int)-b-c) % 4294967296) (by omega);have hd':d<4294967296:=by omega
 have ha:a<4294967296:=by omega
 have hb:b<4294967296:=by omega
 have hm:IntKind.u32.max=((4294967295:Nat):Int):=by decide
 have hxy:a ^^^ b<4294967296:=Nat.xor_lt_two_pow (n:=32) ha hb;have h1:=kK a ha;have h2:=kK _ hxy;have h3:(4294967295 ^^^ a) &&& b<4294967296:=Nat.and_lt_two_pow (n:=32) _ hb;have h4:(4294967295 ^^^ (a ^^^ b)) &&& d<4294967296:=Nat.and_lt_two_pow (n:=32) _ hd';rw[hd,hm,u32_xor_nat _ _ (by omega) ha,u32_xor_nat _ _ ha hb,u32_xor_nat _ _ (by omega) hxy,u32_and_nat _ _ h1 hb,u32_and_nat _ _ h2 hd',u32_or_nat _ _ h3 h4];have:=Ru a b d ha hb hd';have e:(((((4294967295 ^^^ a) &&& b) ||| ((4294967295 ^^^ (a ^^^ b)) &&& d):Nat):Int)) / 2147483648=((((((4294967295 ^^^ a) &&& b) ||| ((4294967295 ^^^ (a ^^^ b)) &&& d)) / 2147483648:Nat)):Int):=by omega
 rw[e,this];unfold bor;have ha2:a / 2147483648<2:=by omega
 have hb2:b / 2147483648<2:=by omega
 have hd2:d / 2147483648<2:=by omega
 split
 ·generalize hp:a / 2147483648=p at *;generalize hq:b / 2147483648=q at *;generalize hr:d / 2147483648=r at *
  match p,ha2,q,hb2,r,hd2 with
  |0,_,0,_,0,_=>omega
  |0,_,0,_,1,_=>rfl
  |0,_,1,_,0,_=>rfl
  |0,_,1,_,1,_=>rfl
  |1,_,0,_,0,_=>omega
  |1,_,0,_,1,_=>omega
  |1,_,1,_,0,_=>omega
  |1,_,1,_,1,_=>rfl
 ·generalize hp:a / 2147483648=p at *;generalize hq:b / 2147483648=q at *;generalize hr:d / 2147483648=r at *
  match p,ha2,q,hb2,r,hd2 with
  |0,_,0,_,0,_=>rfl
  |0,_,0,_,1,_=>omega
  |0,_,1,_,0,_=>omega
  |0,_,1,_,1,_=>omega
  |1,_,0,_,0,_=>rfl
  |1,_,0,_,1,_=>rfl
  |1,_,1,_,0,_=>rfl
  |1,_,1,_,1,_=>omega
theorem ry (x y c:Int) (w:World) (hx:0≤x∧x≤4294967295) (hy:0≤y∧y≤4294967295) (hc:0≤c∧c≤1) :
  Calls Tryz.prog 146 #[.int .u32 x,.int .u32 y,.int .u32 c] w (fun e w'=>e = .returned (.tuple #[.int .u32 ((x-y-c) % 4294967296),.int .u32 (bor x y c)])∧w=w'):=by
 have H:=Rv x y c hx hy hc;go_enter Tryz.func146,Tryz.ntmps146;go_wp2;go_ret2;exact⟨rfl,rfl⟩
theorem cmpI (x y:Int) (w:World) :
  Calls Tryz.prog 132 #[.int .i64 x,.int .i64 y] w (fun e w'=>e = .returned (.int .i64 (cmpZ x y))∧w=w'):=by
 rcases Int.lt_trichotomy x y with h | h | h
 ·have H:=hd_ (eQ h);go_enter Tryz.func132,Tryz.ntmps132;go_wp2;go_ret;exact⟨by rw[H.out];rfl,rfl⟩
 ·subst h;have H:=hd_ (iW (x:=x) rfl);go_enter Tryz.func132,Tryz.ntmps132;go_wp2;go_ret;exact⟨by rw[H.out];rfl,rfl⟩
 ·have H:=hd_ (gu h);go_enter Tryz.func132,Tryz.ntmps132;go_wp2;go_ret;exact⟨by rw[H.out];rfl,rfl⟩
theorem nu (x y:Int) (w:World) :
  Calls Tryz.prog 139 #[.int .u32 x,.int .u32 y] w (fun e w'=>e = .returned (.int .i64 (cmpZ x y))∧w=w'):=by
 rcases Int.lt_trichotomy x y with h | h | h
 ·have H:=hd_ (eQ h);go_enter Tryz.func139,Tryz.ntmps139;go_wp2;go_ret;exact⟨by rw[H.out];rfl,rfl⟩
 ·subst h;have H:=hd_ (iW (x:=x) rfl);go_enter Tryz.func139,Tryz.ntmps139;go_wp2;go_ret;exact⟨by rw[H.out];rfl,rfl⟩
 ·have H:=hd_ (gu h);go_enter Tryz.func139,Tryz.ntmps139;go_wp2;go_ret;exact⟨by rw[H.out];rfl,rfl⟩
end Go.Proofs.YtbnhgnhgbhjkcaaGreat
