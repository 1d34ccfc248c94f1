/- Lemmas. -/
import Derived.Test.YtdchbabgopglcaaC9
import Derived.Deep.AppendSrc
import Derived.Deep.Upon
namespace Go.Proofs.Ytdchbabgopglcaa.M
open Go.RowKit
section
variable {P:Program}{w0:World}{base:Bs}{nt:Nat}{loc loc':aU}{s t:St}{a:Act}{w w':World}{o:Oper}{id:Nat}{d:AV}{N N':Nat→Prop}
theorem ph {i:Nat}:∀{l l':List AV},iw i l=some l'→l.length=l'.length∧∀(k:Nat) (e:AV),l'[k]? = some e→∃x,l[k]? = some x∧x.forget i=e∧e≠.und
 |[],l',h=>by simp only[iw,Option.some.injEq] at h;subst h;exact⟨rfl,fun k e h=>by simp at h⟩
 |v::l,l',h=>by
  simp only[iw] at h;split at h
  ·cases h
  ·rename_i m h2 hne;simp only[Option.some.injEq] at h;subst h;obtain⟨g1,g2⟩:=ph h2;refine⟨by simp[g1],fun k e hk => ?_⟩
   match k,hk with
   |0,hk=>simp at hk;subst hk;exact⟨v,rfl,rfl,fun e=>hne e⟩
   |k+1,hk=>simpa using g2 k e (by simpa using hk)
  ·cases h
theorem pi {i:Nat}{x:AV} (h:x.one=true):(forget1 i x).one=true:=by
 cases x with
 |slice j off len=>simp only[forget1];split<;>rfl
 |ptr j k off=>simp only[forget1];split<;>rfl
 |arr j k off=>simp only[forget1];split<;>rfl
 |p d=>exact h
 |nils T sz=>rfl
 |cell=>rfl
 |_=>simp[AV.one] at h
theorem RV.forget1 {i:Nat}{v:Value}{x:AV} (h:RV w N loc v x) (ho:x.one=true) (hs:∀b,N b→w'.heap[b]? = w.heap[b]?) (hn:∀b,N b→N' b) (hl:∀j L,j≠i→loc j=some L→loc' j=some L):RV w' N' loc' v (M.forget1 i x):=by
 have h0:=h.one ho;cases h with
 |und v=>simp[AV.one] at ho
 |p v d h=>exact .p v d (h.mono hs hn)
 |agg cs l h1 h2 _=>simp[AV.one] at ho
 |tup cs l h1 _=>simp[AV.one] at ho
 |nils T sz=>exact .nils T sz
 |slice L id off len cap h1 h2 h3 h4 h5 =>
  simp only[M.forget1];split
  ·exact .cell _ h0
  ·rename_i hne;exact .slice L id off len cap (hl _ _ hne h1) h2 h3 h4 h5
 |sliceEmp L id off p h1 =>
  simp only[M.forget1];split
  ·exact .cell _ h0
  ·rename_i hne;exact .sliceEmp L id off p (hl _ _ hne h1)
 |arr L id off len cap h1 h2 h3 h4 h5 =>
  simp only[M.forget1];split
  ·exact .cell _ h0
  ·rename_i hne;exact .arr L id off len cap (hl _ _ hne h1) h2 h3 h4 h5
 |arrEmp L id off p h1 =>
  simp only[M.forget1];split
  ·exact .cell _ h0
  ·rename_i hne;exact .arrEmp L id off p (hl _ _ hne h1)
 |ptr L id j off h1 h2 =>
  simp only[M.forget1];split
  ·exact .cell _ h0
  ·rename_i hne;exact .ptr L id j off (hl _ _ hne h1) h2
 |cell v h=>exact .cell v h
theorem RV.forget {i:Nat}{v:Value}{x:AV} (h:RV w N loc v x) (hs:∀b,N b→w'.heap[b]? = w.heap[b]?) (hn:∀b,N b→N' b) (hl:∀j L,j≠i→loc j=some L→loc' j=some L):RV w' N' loc' v (x.forget i):=by
 induction h with
 |und v=>exact .und v
 |p v d h=>exact .p v d (h.mono hs hn)
 |agg cs l h1 h2 h3 ih =>
  simp only[AV.forget];refine .agg cs _ (h1.trans (List.length_map _).symm) (fun e he => ?_) (fun k e hk => ?_)
  ·obtain⟨y,hy,rfl⟩:=List.mem_map.1 he;exact pi (h2 y hy)
  ·simp only[List.getElem?_map,Option.map_eq_some_iff] at hk;obtain⟨y,hy,rfl⟩:=hk;exact (h3 k y hy).forget1 (h2 y (List.mem_of_getElem? hy)) hs hn hl
 |tup cs l h1 _ ih =>
  simp only[AV.forget];split
  ·rename_i l' hl';obtain⟨g1,g2⟩:=ph hl';refine .tup cs l' (h1.trans g1) (fun k e hk => ?_);obtain⟨y,hy,rfl,hne⟩:=g2 k e hk;exact ih k y hy
  ·exact .und _
 |nils T sz=>exact .nils T sz
 |slice L id off len cap h1 h2 h3 h4 h5 =>
  simp only[AV.forget];split
  ·exact .und _
  ·rename_i hne;exact .slice L id off len cap (hl _ _ hne h1) h2 h3 h4 h5
 |sliceEmp L id off p h1 =>
  simp only[AV.forget];split
  ·exact .und _
  ·rename_i hne;exact .sliceEmp L id off p (hl _ _ hne h1)
 |arr L id off len cap h1 h2 h3 h4 h5 =>
  simp only[AV.forget];split
  ·exact .und _
  ·rename_i hne;exact .arr L id off len cap (hl _ _ hne h1) h2 h3 h4 h5
 |arrEmp L id off p h1 =>
  simp only[AV.forget];split
  ·exact .und _
  ·rename_i hne;exact .arrEmp L id off p (hl _ _ hne h1)
 |ptr L id j off h1 h2 =>
  simp only[AV.forget];split
  ·exact .und _
  ·rename_i hne;exact .ptr L id j off (hl _ _ hne h1) h2
 |cell v h=>exact .cell v h
theorem FW {i:Nat}{x:AV} (h1:∀e∈x.cells,e.one=true) (hu:x.forget i≠.und):(x.forget i).cells.length=x.cells.length∧(∀e∈(x.forget i).cells,e.one=true)∧∀(k:Nat) (e:AV),(x.forget i).cells[k]? = some e→∃y,x.cells[k]? = some y∧forget1 i y=e:=by
 cases x with
 |agg l =>
  simp only[AV.forget];refine⟨List.length_map _,fun e he => ?_,fun k e hk => ?_⟩
  ·obtain⟨y,hy,rfl⟩:=List.mem_map.1 he;exact pi (h1 y hy)
  ·change (l.map (forget1 i))[k]? = some e at hk
   simp only[List.getElem?_map,Option.map_eq_some_iff] at hk;exact hk
 |p d =>
  refine⟨rfl,h1,fun k e hk=>⟨e,hk,?_⟩⟩;simp only[AV.forget,AV.cells,List.getElem?_map,Option.map_eq_some_iff] at hk;obtain⟨q,_,rfl⟩:=hk;rfl
 |und=>simp[AV.cells,AV.one] at h1
 |tup l=>simp[AV.cells,AV.one] at h1
 |nils T sz=>exact⟨rfl,h1,fun k e hk=>⟨e,hk,by match k,hk with | 0,hk=>(simp[AV.forget,AV.cells] at hk;subst hk;rfl) | k+1,hk=>simp[AV.forget,AV.cells] at hk⟩⟩
 |cell=>exact⟨rfl,h1,fun k e hk=>⟨e,hk,by match k,hk with | 0,hk=>(simp[AV.forget,AV.cells] at hk;subst hk;rfl) | k+1,hk=>simp[AV.forget,AV.cells] at hk⟩⟩
 |slice j off len =>
  simp only[AV.forget] at hu ⊢;split
  ·rename_i e;rw[if_pos e] at hu;exact absurd rfl hu
  ·rename_i hne;exact⟨rfl,h1,fun k e hk=>⟨e,hk,by match k,hk with | 0,hk=>(simp[AV.cells] at hk;subst hk;simp[forget1,hne]) | k+1,hk=>simp[AV.cells] at hk⟩⟩
 |arr j q off =>
  simp only[AV.forget] at hu ⊢;split
  ·rename_i e;rw[if_pos e] at hu;exact absurd rfl hu
  ·rename_i hne;exact⟨rfl,h1,fun k e hk=>⟨e,hk,by match k,hk with | 0,hk=>(simp[AV.cells] at hk;subst hk;simp[forget1,hne]) | k+1,hk=>simp[AV.cells] at hk⟩⟩
 |ptr j q off =>
  simp only[AV.forget] at hu ⊢;split
  ·rename_i e;rw[if_pos e] at hu;exact absurd rfl hu
  ·rename_i hne;exact⟨rfl,h1,fun k e hk=>⟨e,hk,by match k,hk with | 0,hk=>(simp[AV.cells] at hk;subst hk;simp[forget1,hne]) | k+1,hk=>simp[AV.cells] at hk⟩⟩
theorem bf.forget {i:Nat}{c:Array Value}{ob:AObj}{o sz:Nat} (h:bf w N loc c o sz ob.cont) (hs:∀b,N b→w'.heap[b]? = w.heap[b]?) (hn:∀b,N b→N' b) (hl:∀j L,j≠i→loc j=some L→loc' j=some L) :
  bf w' N' loc' c o sz (ob.forget i).cont:=by
 unfold AObj.forget;split
 ·rename_i v hv;rw[hv] at h;obtain⟨m1,m2,m3,m4⟩:=h;split
  ·exact m1
  ·rename_i hne;obtain⟨g1,g2,g3⟩:=FW m3 (i:=i) (fun e=>hne e);refine⟨m1,g1.trans m2,g2,fun k e hk => ?_⟩;obtain⟨y,hy,rfl⟩:=g3 k e hk;exact (m4 k y hy).forget1 (m3 y (List.mem_of_getElem? hy)) hs hn hl
 ·rename_i hne;cases hc:ob.cont with
  |box v=>exact absurd hc (hne v)
  |row l=>rw[hc] at h;exact⟨h.1,h.2.1,fun i e j d h1 h2=>⟨(h.2.2 i e j d h1 h2).1,(h.2.2 i e j d h1 h2).2.mono hs hn⟩⟩
  |junk=>rw[hc] at h;exact h
theorem ix (i:Nat) (ob:AObj):(ob.forget i).T=ob.T∧(ob.forget i).sz=ob.sz∧(ob.forget i).frz=ob.frz∧(ob.cont = .row []→(ob.forget i).cont = .row []):=by
 unfold AObj.forget;split
 ·rename_i v hv;split<;>exact⟨rfl,rfl,rfl,fun h=>by rw[hv] at h;cases h⟩
 ·exact⟨rfl,rfl,rfl,fun h=>h⟩
theorem pj {sz:Nat}{T E:TypeId}{y:Operand}{ys:List D}{U:Option TypeId} (h:Rel w0 base nt loc s a w) (hu:P.underlying T=some (.slice E)) (he:bx sz s.m ((opd P U y).ev s.r)=some ys) :
  ∃news,Src P sz T (a.eval y) ys.length news w∧(∀e∈ys,e.cells.length=sz)∧∀(p:Nat) (e:D) (j:Nat) (q:D),ys[p]? = some e→e.cells[j]? = some q→q.one=true∧V w (NB base s.m loc w) (news.getD (p*sz+j) undef) q:=by
 have hy:=h.opd (P:=P) U y;generalize (opd P U y).ev s.r=Y at hy he;generalize hyv:a.eval y=v at hy;have none_:∀p cap,Src P sz T (.slice p 0 cap) 0 [] w:=by
  intro p cap;cases p with
  |none=>exact Src.ofNil w hu cap
  |some ad=>exact Src.ofSlice w hu ad 0 cap [] (by simp) (fun j u hj=>by simp at hj) (fun u hu=>by simp at hu)
 have block:∀(b o0 n cap:Nat) (c:Array Value) (T':TypeId) (fr:Nat×Nat),w.heap[b]? = some (.cells c T' fr)→ys.length=n→o0+n*sz≤c.size→(∀e∈ys,e.cells.length=sz) →
   (∀p e j q,ys[p]? = some e→e.cells[j]? = some q→q.one=true∧V w (NB base s.m loc w) (c.getD (o0+(p*sz+j)) undef) q)→∃news,Src P sz T (.slice (some ⟨b,o0,none⟩) n cap) ys.length news w∧(∀e∈ys,e.cells.length=sz)∧∀(p:Nat) (e:D) (j:Nat) (q:D),ys[p]? = some e→e.cells[j]? = some q→q.one=true∧V w (NB base s.m loc w) (news.getD (p*sz+j) undef) q:=by
  intro b o0 n cap c T' fr hb hn hfit hsz hV;have hlt:∀p e j q,ys[p]? = some e→e.cells[j]? = some q→p*sz+j<n*sz:=by
   intro p e j q hp hj;have h1:=(List.getElem?_eq_some_iff.1 hp).1;have h2:=(List.getElem?_eq_some_iff.1 hj).1;have h3:=hsz e (List.mem_of_getElem? hp);have:=Nat.mul_le_mul_right sz (show p+1≤n by omega);rw[Nat.add_mul] at this;omega
  refine⟨(rd c o0 (n*sz)).toList,?_,hsz,fun p e j q hp hj=>⟨(hV p e j q hp hj).1,?_⟩⟩
  ·rw[hn];refine Src.ofSlice w hu _ n cap _ (by simp) (fun k u hk => ?_) (fun u hm => ?_)
   ·have hk':k<n*sz:=by have:=(List.getElem?_eq_some_iff.1 hk).1;simpa using this
    rw[de,dn hb (by omega)];have:=d7 c o0 (n*sz) k hk';rw[←this];simpa using congrArg (·.getD undef) hk
   ·obtain⟨k,hk⟩:=List.getElem?_of_mem hm;have hk':k<n*sz:=by have:=(List.getElem?_eq_some_iff.1 hk).1;simpa using this
    have hszp:0<sz:=by rcases Nat.eq_zero_or_pos sz with h0 | h0;(subst h0;simp at hk');exact h0
    have hdiv:=Nat.div_add_mod k sz;have hp:k / sz<n:=Nat.div_lt_of_lt_mul (by rw[Nat.mul_comm];exact hk');have hj:k % sz<sz:=Nat.mod_lt _ hszp;have hpy:ys[k / sz]? = some (ys[k / sz]'(by omega)):=by simp
    have hlen:=hsz _ (List.mem_of_getElem? hpy);have hqy:(ys[k / sz]'(by omega)).cells[k % sz]? = some ((ys[k / sz]'(by omega)).cells[k % sz]'(by omega)):=by simp
    obtain⟨g1,g2⟩:=hV _ _ _ _ hpy hqy;have hu':c.getD (o0+(k / sz*sz+k % sz)) undef=u:=by
     rw[show k / sz*sz+k % sz=k by rw[Nat.mul_comm];exact hdiv,←d7 c o0 (n*sz) k hk'];simpa using congrArg (·.getD undef) hk
    rw[hu'] at g2;exact g2.one g1
  ·have:=d7 c o0 (n*sz) (p*sz+j) (hlt p e j q hp hj);have h2:(rd c o0 (n*sz)).toList.getD (p*sz+j) undef=(rd c o0 (n*sz)).getD (p*sz+j) undef:=by simp
   rw[h2,this];exact (hV p e j q hp hj).2
 cases hy with
 |p _ e hV =>
  cases e<;>simp only[bx] at he<;>try cases he
  rename_i T' sz' l;split at he
  case isFalse=>cases he
  rename_i hs;subst hs;simp only[Option.some.injEq] at he;subst he;cases hV with
  |empty p cap=>exact⟨[],none_ p cap,by simp,fun p e j q hp=>by simp at hp⟩
  |list b o0 cap _ _ _ c fr g1 g2 g3 g4 g5 g6 g7 =>
   obtain⟨T',g1,-⟩:=g1;rcases Nat.eq_zero_or_pos (l.length*sz') with h0 | h0
   ·refine⟨[],Src.ofSlice w hu _ l.length cap [] (by simp[h0]) (fun j u hj=>by simp at hj) (fun u hu=>by simp at hu),fun e he=>(g5 e he).1,fun p e j q hp hj => ?_⟩;have h1:=(List.getElem?_eq_some_iff.1 hp).1;have h2:=(List.getElem?_eq_some_iff.1 hj).1;have h3:=(g5 e (List.mem_of_getElem? hp)).1;have:=Nat.mul_pos (show 0<l.length by omega) (show 0<sz' by omega);omega
   ·have hl0:0<l.length:=by rcases Nat.eq_zero_or_pos l.length with h | h;(rw[h] at h0;simp at h0);exact h
    have hs0:0<sz':=by rcases Nat.eq_zero_or_pos sz' with h | h;(rw[h] at h0;simp at h0);exact h
    have hp:l[l.length-1]? = some (l[l.length-1]'(by omega)):=by simp
    have hlen:=(g5 _ (List.mem_of_getElem? hp)).1;have hj:(l[l.length-1]'(by omega)).cells[sz'-1]? = some ((l[l.length-1]'(by omega)).cells[sz'-1]'(by omega)):=by simp
    have hfit:=g6 _ _ _ _ hp hj;have hmul:(l.length-1)*sz'+sz'=l.length*sz':=by rw[←Nat.succ_mul];congr 1;omega
    exact block b o0 l.length cap c T' fr g1 rfl (by omega) (fun e he=>(g5 e he).1) (fun p e j q hp hj=>⟨(g5 e (List.mem_of_getElem? hp)).2 q (List.mem_of_getElem? hj),g7 p e j q hp hj⟩)
 |nils T' sz' =>
  simp only[bx] at he;split at he
  case isFalse=>cases he
  simp only[Option.some.injEq] at he;subst he;exact⟨[],none_ none 0,by simp,fun p e j q hp=>by simp at hp⟩
 |slice L i off len cap hL hn h3 h4 h5 =>
  simp only[bx] at he;split at he
  case h_2=>cases he
  rename_i T' sz' l frz hm;split at he
  case isFalse=>cases he
  rename_i hc;obtain⟨rfl,hle⟩:=hc;simp only[Option.some.injEq] at he;subst he;obtain⟨L',hL',hok⟩:=h.objs i _ hm;rw[hL] at hL';cases hL';obtain⟨c,fr,k1,k2,k3,-⟩:=hok.at_ hn;obtain⟨m1,m2,m3⟩:=k3;have hsz:=hok.sz;simp only at hsz m1 m2 m3;have hlen:((l.drop off).take len).length=len:=by simp;omega
  have idx:∀j e,((l.drop off).take len)[j]? = some e→l[off+j]? = some e:=by
   intro j e hj;have hlt:j<len:=by have:=(List.getElem?_eq_some_iff.1 hj).1;omega
   rw[List.getElem?_take_of_lt hlt,List.getElem?_drop] at hj;exact hj
  have hmul:=Nat.mul_le_mul_right sz' hle;rw[Nat.add_mul] at hmul;exact block L.b (L.o+off*L.sz) len cap c _ fr k1 hlen (by rw[hsz];omega) (fun e he=>m2 e (List.mem_of_mem_drop (List.mem_of_mem_take he))) (fun p e j q hp hj=>by
   have:=m3 _ e j q (idx p e hp) hj;rw[show L.o+((off+p)*sz'+j)=L.o+off*L.sz+(p*sz'+j) by rw[hsz,Nat.add_mul];omega] at this;exact this)
 |sliceEmp L i off p hL =>
  simp only[bx] at he;split at he
  case h_2=>cases he
  rename_i T' sz' l frz hm;split at he
  case isFalse=>cases he
  simp only[List.take_zero,Option.some.injEq] at he;subst he;exact⟨[],none_ p 0,by simp,fun p e j q hp=>by simp at hp⟩
 |_=>simp[bx] at he
theorem Rel.relocate {i:Nat}{T sz:Nat}{l m:List D}{L':Loc} (h:Rel w0 base nt loc s a w) (hm:s.m i=some ⟨T,sz,.row l,false⟩) (hid:i≠aQ) (hsz:w.heap.size≤w'.heap.size) (hw:ExtL base w0 w')
  (hb:∀b,b<w.heap.size→(∀Lo,loc i=some Lo→Lo.nil=false→b≠Lo.b)→w'.heap[b]? = w.heap[b]?)
  (hL':L'.sz=sz) (hnil:L'.nil=true→m=[]) (hplace:L'.nil=false→w.heap.size≤L'.b∨∃Lo,loc i=some Lo∧Lo.nil=false∧L'.b=Lo.b) (hlow:L'.nil=false→(w0.heap.size≤L'.b∨base.lent L'.b))
  (hk:L'.nil=false→∃c fr,w'.heap[L'.b]? = some (.cells c T fr)∧c.size=L'.n∧(∀x,x<L'.n→(decide (fr.1≤x)&&decide (x<fr.2))=false)∧bf w' (fun b=>NB base s.m loc w b) loc c L'.o sz (.row m)) :
  Rel w0 base nt (upd loc i (some L')) ⟨eX i s.r,upd (cF i s.m) i (some ⟨T,sz,.row m,false⟩)⟩ a w':=by
 obtain⟨Lo,hLo,hoko⟩:=h.objs i _ hm;have hl:∀j L,j≠i→loc j=some L→upd loc i (some L') j=some L:=fun j L hj hL=>by rw[aA _ _ hj];exact hL
 have hother:∀j ob,j≠i→upd (cF i s.m) i (some ⟨T,sz,.row m,false⟩) j=some ob→∃ob0,s.m j=some ob0∧ob=ob0.forget i:=by
  intro j ob hj hob;rw[aA _ _ hj] at hob;unfold cF at hob;simp only[Option.map_eq_some_iff] at hob;obtain⟨ob0,h1,h2⟩:=hob;exact⟨ob0,h1,h2.symm⟩
 have hNs:∀b,NB base s.m loc w b→w'.heap[b]? = w.heap[b]?:=fun b hbN=>hb b hbN.1 (fun Lo' h1 h2 e=>hbN.2.2 ⟨i,_,Lo',hm,rfl,h1,h2,e.symm⟩)
 have hN:∀b,NB base s.m loc w b→NB base (upd (cF i s.m) i (some ⟨T,sz,.row m,false⟩)) (upd loc i (some L')) w' b:=by
  rintro b hbN;refine⟨Nat.lt_of_lt_of_le hbN.1 hsz,hbN.2.1,?_⟩;rintro⟨j,ob,Lj,h1,h2,h3,h4,h5⟩;by_cases hj:j=i
  ·subst hj;rw[aD] at h3;cases h3;rcases hplace h4 with hp | ⟨Lo',hp1,hp2,hp3⟩
   ·have:=hbN.1;omega
   ·exact hbN.2.2 ⟨j,_,Lo',hm,rfl,hp1,hp2,by omega⟩
  ·obtain⟨ob0,g1,rfl⟩:=hother j ob hj h1;rw[aA _ _ hj] at h3;exact hbN.2.2 ⟨j,ob0,Lj,g1,by rw[←(ix i ob0).2.2.1];exact h2,h3,h4,h5⟩
 refine⟨hw,h.defers,h.size,h.low,?_,fun t=>(h.tmps t).forget hNs hN hl,?_,?_,h.keepL.turn (fun o0 g1 g2=>⟨o0.forget i,by dsimp only;rw[aA _ _ (Ne.symm hid)];unfold cF;rw[g1];rfl,by rw[(ix i o0).2.2.1];exact g2⟩) (fun _=>aA _ _ (Ne.symm hid))⟩
 ·intro j hj;dsimp only at hj;by_cases e:j=i
  ·subst e;rw[aD] at hj;cases hj
  ·rw[aA _ _ e] at hj ⊢;unfold cF at hj;simp only[Option.map_eq_none_iff] at hj;exact h.dom j hj
 ·intro j ob hob;dsimp only at hob;by_cases e:j=i
  ·subst e;rw[aD] at hob;cases hob;refine⟨L',aD _ _ _,hL',fun hn=>by rw[hnil hn],fun hn => ?_⟩;obtain⟨c,fr,k1,k2,k3,k4⟩:=hk hn;refine⟨c,fr,k1,k2,?_,fun _=>⟨hlow hn,k3⟩,fun hf=>by cases hf⟩;exact⟨k4.1,k4.2.1,fun i e j d h1 h2=>⟨(k4.2.2 i e j d h1 h2).1,(k4.2.2 i e j d h1 h2).2.mono (fun _ _=>rfl) hN⟩⟩
  ·obtain⟨ob0,g1,rfl⟩:=hother j ob e hob;obtain⟨Lj,hLj,hokj⟩:=h.objs j ob0 g1;obtain⟨f1,f2,f3,f4⟩:=ix i ob0;refine⟨Lj,hl j Lj e hLj,hokj.sz.trans f2.symm,fun hn=>f4 (hokj.nil hn),fun hn => ?_⟩;obtain⟨c,fr,k1,k2,k3,k4,k5⟩:=hokj.at_ hn;have hlt:=h.obj_lt g1 hLj hn;have hne:∀Lo',loc i=some Lo'→Lo'.nil=false→Lj.b≠Lo'.b:=by
    intro Lo' q1 q2 q3;exact e (h.inj i j _ ob0 Lo' Lj hm g1 rfl q1 hLj q2 hn q3.symm).symm
   refine⟨c,fr,by rw[f1];exact (hb _ hlt hne).trans k1,k2,by rw[f2];exact k3.forget hNs hN hl,fun hf=>k4 (f3 ▸ hf),fun hf=>hN _ (k5 (f3 ▸ hf))⟩
 ·intro j j' ob ob' Lj Lj' hob hob' hf hLj hLj' hn hn' hbb;dsimp only at hob hob';have fresh:∀q obq Lq,q≠i→s.m q=some obq→loc q=some Lq→Lq.nil=false→L'.nil=false→L'.b≠Lq.b:=by
   intro q obq Lq hq h1 h2 h3 h4 h5;rcases hplace h4 with hp | ⟨Lo',hp1,hp2,hp3⟩
   ·have:=h.obj_lt h1 h2 h3;omega
   ·exact hq (h.inj i q _ obq Lo' Lq hm h1 rfl hp1 h2 hp2 h3 (by omega)).symm
  by_cases e:j=i
  ·subst e;rw[aD] at hLj;cases hLj;by_cases e':j'=j
   ·exact e'.symm
   ·obtain⟨ob0,g1,rfl⟩:=hother j' ob' e' hob';rw[aA _ _ e'] at hLj';exact absurd hbb (fresh j' ob0 Lj' e' g1 hLj' hn' hn)
  ·obtain⟨ob0,g1,rfl⟩:=hother j ob e hob;rw[aA _ _ e] at hLj;by_cases e':j'=i
   ·subst e';rw[aD] at hLj';cases hLj';exact absurd hbb.symm (fresh j ob0 Lj e g1 hLj hn hn')
   ·obtain⟨ob0',g1',rfl⟩:=hother j' ob' e' hob';rw[aA _ _ e'] at hLj';exact h.inj j j' ob0 ob0' Lj Lj' g1 g1' (by rw[←(ix i ob0).2.2.1];exact hf) hLj hLj' hn hn' hbb
theorem pk {c:Array Value}{o0 sz:Nat}{l ys:List D} (h1:o0+(l.length+ys.length)*sz≤c.size) (h2:∀e∈l,e.cells.length=sz) (h3:∀e∈ys,e.cells.length=sz)
  (h4:∀i e j d,l[i]? = some e→e.cells[j]? = some d→d.one=true∧V w N (c.getD (o0+(i*sz+j)) undef) d)
  (h5:∀i e j d,ys[i]? = some e→e.cells[j]? = some d→d.one=true∧V w N (c.getD (o0+((l.length+i)*sz+j)) undef) d):bf w N loc c o0 sz (.row (l++ys)):=by
 refine⟨by simpa using h1,fun e he => ?_,fun i e j d hi hj => ?_⟩
 ·rcases List.mem_append.1 he with he | he
  ·exact h2 e he
  ·exact h3 e he
 ·by_cases hlt:i<l.length
  ·rw[List.getElem?_append_left hlt] at hi;exact h4 i e j d hi hj
  ·rw[List.getElem?_append_right (by omega)] at hi;have:=h5 _ e j d hi hj
   rwa[show l.length+(i-l.length)=i by omega] at this
theorem Rel.allocNil (h:Rel w0 base nt loc s a w){id:Nat} (hid:s.m id=none) (T sz:Nat):Rel w0 base nt (upd loc id (some ⟨0,0,0,sz,true⟩)) ⟨s.r,upd s.m id (some ⟨T,sz,.row [],false⟩)⟩ a w:=by
 have hloc:=h.dom id hid;have hl:∀i L,loc i=some L→upd loc id (some ⟨0,0,0,sz,true⟩) i=some L:=fun i L hi=>by
  rw[aA];exact hi;rintro rfl;rw[hloc] at hi;cases hi
 have hn:∀b,NB base s.m loc w b→NB base (upd s.m id (some ⟨T,sz,.row [],false⟩)) (upd loc id (some ⟨0,0,0,sz,true⟩)) w b:=by
  rintro b ⟨h1,h2,h3⟩;refine⟨h1,h2,?_⟩;rintro⟨i,o,L,ho,hf,hL,hnil,hb⟩;by_cases hi:i=id
  ·subst hi;rw[aD] at hL;cases hL;cases hnil
  ·rw[aA _ _ hi] at ho hL;exact h3 ⟨i,o,L,ho,hf,hL,hnil,hb⟩
 refine⟨h.ext,h.defers,h.size,h.low,?_,fun t=>(h.tmps t).mono (fun _ _=>rfl) hn hl,?_,?_,h.keepL.new hid _ _⟩
 ·intro i hi;dsimp only at hi;by_cases e:i=id
  ·subst e;rw[aD] at hi;cases hi
  ·rw[aA _ _ e] at hi ⊢;exact h.dom i hi
 ·intro i o ho;dsimp only at ho;by_cases e:i=id
  ·subst e;rw[aD] at ho;cases ho;exact⟨_,aD _ _ _,rfl,fun _=>rfl,fun hh=>by cases hh⟩
  ·rw[aA _ _ e] at ho;obtain⟨L,hL,hok⟩:=h.objs i o ho;refine⟨L,hl i L hL,hok.sz,hok.nil,fun hnil => ?_⟩;obtain⟨c',fr,h1,h2,h3,h4,h5⟩:=hok.at_ hnil;exact⟨c',fr,h1,h2,h3.mono (fun _ _=>rfl) hn hl,h4,fun hf=>hn _ (h5 hf)⟩
 ·intro i i' o o' L L' ho ho' hf hL hL' hnil hnil' hb;dsimp only at ho ho';by_cases e:i=id
  ·subst e;rw[aD] at hL;cases hL;cases hnil
  ·by_cases e':i'=id
   ·subst e';rw[aD] at hL';cases hL';cases hnil'
   ·rw[aA _ _ e] at ho hL;rw[aA _ _ e'] at ho' hL';exact h.inj i i' o o' L L' ho ho' hf hL hL' hnil hnil' hb
theorem pm {T E ty:TypeId}{ti:TypeInfo}{z:Value}{sz bytes n cap m:Nat}{pb:Option Addr}{x:Value}{olds news:List Value} (hu:P.underlying T=some (.slice E)) (hi:P.info? E=some ti) (hz:ti.zero=some z) (hsize:ti.size=sz) (hzs:z.cells.size=sz) (hb:ti.bytes=bytes)
  (hold:(Builtin.firstCells sz n (.slice pb n cap)).run P w.drew = .ok olds.toArray w.drew) (hol:olds.length=n*sz) (hs:Src P sz T x m news w) (hg:cap<n+m) (hby:(n+m)*bytes≤140737488355328) (h63:n+m≤9223372036854775807) :
  ∃(cap':Nat) (c':Array Value),(Builtin.append_ #[T,T] ty #[.slice pb n cap,x]).run P w = .ok (.slice (some ⟨w.heap.size,0,none⟩) (n+m) cap') (w.drew.alloc (.cells c' E))∧c'.size=cap'*sz∧n+m≤cap'∧cap'≤9223372036854775807 ∧
   ∀k,k<(n+m)*sz→c'.getD k undef=(olds++news).getD k undef:=by
 subst hsize;have hr:=run_append_grow_src (P:=P) w T T ty E ti z hu hi hz pb n cap olds hold x m news hs hg (by omega) (by rw[hb];exact growslice_fits hg hby);have hge:=grownCap_ge w (n+m) cap E;have hle:grownCap w (n+m) cap E≤maxLen:=grownCap_le_maxLen w (n+m) cap E (by unfold maxLen;omega);unfold maxLen at hle;have hlen:(olds++news).length=(n+m)*ti.size:=by rw[List.length_append,hol,hs.newsLen,Nat.add_mul]
 refine⟨_,_,hr,?_,hge,by omega,fun k hk => ?_⟩
 ·rw[Array.size_append,size_zeroCells,hzs,List.size_toArray,hlen,←Nat.add_mul];congr 1;omega
 ·simp only[Array.getD_eq_getD_getElem?];rw[Array.getElem?_append_left (by rw[List.size_toArray,hlen];exact hk)];simp
theorem FX {T E:TypeId}{c:Call}{x y:Operand}{lz:List D}{ag:Bool}{sz bytes:Nat}{ti:TypeInfo}{U W:Option TypeId} (h:Rel w0 base nt loc s a w) (ho:o.op = .call c) (hc:c.callee = .builtin .append) (ha:c.args.toList=[x,y]) (hT:c.argTypes.toList=[T,T])
  (hu:P.underlying T=some (.slice E)) (hz:ZOk P E lz ag sz) (hi:P.info? E=some ti) (hb:ti.bytes=bytes) (he:dk E sz bytes (opd P U x) (opd P W y) id s=some (true,d,t)):aK P w0 base nt o a w t d:=by
 have ha':c.args = #[x,y]:=by rw[←Array.toList_inj];exact ha
 have hT':c.argTypes = #[T,T]:=by rw[←Array.toList_inj];exact hT
 have hx:=h.opd (P:=P) U x;unfold dk at he;split at he
 case h_1=>cases he
 rename_i ys hys;obtain⟨news,hsrc,hes,hev⟩:=pj h hu hys;obtain⟨ti',z,hi',hzz,hTy,hchk,hlz,hone⟩:=hz;rw[hi] at hi';cases hi';have hsize:ti.size=sz:=by obtain⟨_,i2,_,_,h3,h4⟩:=hTy;rw[hi] at h3;cases h3;exact h4
 have hzs:z.cells.size=sz:=by obtain⟨k1,_⟩:=gX hchk;simp at k1;omega
 have run:∀v w',(Builtin.append_ #[T,T] o.type #[a.eval x,a.eval y]).run P w = .ok v w'→(execOp a.eval o).run P w = .ok (.value v) w':=by
  intro v w' hr;simp[execOp,ho,resolve,hc,ha',hT',invoke,builtin,hr]
 have hdrew:Ext w w.drew:=Below.drew (Below.refl _ _);have hnl:=hsrc.newsLen;have hlt:∀(l:List D),(∀e∈l,e.cells.length=sz)→∀p (e:D) (j:Nat) (q:D),l[p]? = some e→e.cells[j]? = some q→p*sz+j<l.length*sz:=by
  intro l hl p e j q hp hj;have h1:=(List.getElem?_eq_some_iff.1 hp).1;have h2:=(List.getElem?_eq_some_iff.1 hj).1;have h3:=hl e (List.mem_of_getElem? hp);have:=Nat.mul_le_mul_right sz (show p+1≤l.length by omega);rw[Nat.add_mul] at this;omega
 split at he
 ·-- onto nil
  rename_i T' sz' hk;split at he
  case h_2=>cases he
  rename_i hid;split at he
  case isFalse=>cases he
  rename_i hss;subst hss;simp only[Option.some.injEq,Prod.mk.injEq,decide_eq_true_eq] at he;obtain⟨⟨hby,h63⟩,rfl,rfl⟩:=he;rw[hk] at hx;generalize hxv:a.eval x=v at hx;cases hx;rcases Nat.eq_zero_or_pos ys.length with h0 | h0
  ·have hys0:ys=[]:=List.eq_nil_of_length_eq_zero h0;subst hys0;have hn0:news=[]:=List.eq_nil_of_length_eq_zero (by simpa using hnl);subst hn0;have hr:=run_append_nothing (P:=P) w T T o.type E ti hu hi none 0 0 (Nat.le_refl 0) (a.eval y) (by rw[hsize];exact hsrc);exact⟨_,w,_,.inl (run _ _ (by rw[hxv];exact hr)),h.allocNil hid E sz',.sliceEmp _ id 0 none (aD _ _ _)⟩
  ·obtain⟨cap',c',hr,hcs,hcap,h63',hget⟩:=pm (P:=P) (ty:=o.type) (olds:=[]) hu hi hzz hsize hzs hb (run_firstCells_none w.drew sz' 0 0 0) (by simp) hsrc (show 0<0+ys.length by omega) (by simpa using hby) (by simpa using h63);simp only[Nat.zero_add,List.nil_append] at hr hcap hget;have hmul:=Nat.mul_le_mul_right sz' hcap;obtain⟨loc',hl',hrel⟩:=(h.later hdrew).alloc (T:=E) (c:=c') (k:=.row ys) (sz:=sz') hid (by
    refine⟨by omega,hes,fun p e j q hp hj=>⟨(hev p e j q hp hj).1,?_⟩⟩;rw[Nat.zero_add,hget _ (hlt ys hes p e j q hp hj)];exact (hev p e j q hp hj).2.mono (fun _ _=>rfl) (fun b hb=>⟨hb.1,hb.2⟩))
   refine⟨_,_,loc',.inl (run _ _ (by rw[hxv];exact hr)),hrel,?_⟩;have:=RV.slice (w:=w.drew.alloc (.cells c' E)) (N:=NB base (upd s.m id (some ⟨E,sz',.row ys,false⟩)) loc' (w.drew.alloc (.cells c' E))) _ id 0 ys.length cap' hl' rfl hcap h63' (by simp[hcs]);simpa using this
 ·-- onto an object of the call's own
  rename_i i n hk;split at he
  case h_2=>cases he
  rename_i T' sz' l hm;split at he
  case isFalse=>cases he
  rename_i hcc;obtain⟨rfl,rfl,rfl,hnl0⟩:=hcc;simp only[Option.some.injEq,Prod.mk.injEq,decide_eq_true_eq] at he;obtain⟨⟨hby,h63⟩,rfl,rfl⟩:=he;rw[hk] at hx;generalize hxv:a.eval x=v at hx;obtain⟨n,hn⟩:∃n,n=l.length:=⟨_,rfl⟩
  rw[←hn] at hx;have fresh:∀(pb:Option Addr) (cap:Nat) (olds:List Value),v = .slice pb n cap→cap<n+ys.length→(Builtin.firstCells sz' n (.slice pb n cap)).run P w.drew = .ok olds.toArray w.drew→olds.length=n*sz'→(∀e∈l,e.cells.length=sz') →
    (∀i e j d,l[i]? = some e→e.cells[j]? = some d→d.one=true∧V w (NB base s.m loc w) (olds.getD (i*sz'+j) undef) d) →
    aK P w0 base nt o a w ⟨eX i s.r,upd (cF i s.m) i (some ⟨T',sz',.row (l++ys),false⟩)⟩ (.slice i 0 (l.length+ys.length)):=by
   rintro pb cap olds rfl hg hold hol hel hVl;obtain⟨cap',c',hr,hcs,hcap,h63',hget⟩:=pm (P:=P) (ty:=o.type) (olds:=olds) hu hi hzz hsize hzs hb hold hol hsrc hg (by rw[hn];exact hby) (by rw[hn];exact h63);have hmul:=Nat.mul_le_mul_right sz' hcap;have hrel:=h.relocate (w':=w.drew.alloc (.cells c' T')) (m:=l++ys) (L':=⟨w.heap.size,0,c'.size,sz',false⟩) hm hnl0 (by show w.heap.size≤(w.heap.push _).size;simp)
    (h.ext.tr (hdrew.alloc (Nat.le_refl _) _)) (fun b hb _=>Below.heap_alloc w.drew _ b hb) rfl (fun hh=>by cases hh) (fun _ => .inl (Nat.le_refl _)) (fun _ => .inl h.ext.size) (fun _=>⟨c',(0,0),heap_alloc_new w.drew _,rfl,by simp,?_⟩)
   ·refine⟨_,_,_,.inl (run _ _ (by rw[hxv];exact hr)),hrel,?_⟩;have:=RV.slice (w:=w.drew.alloc (.cells c' T')) (N:=NB base (upd (cF i s.m) i (some ⟨T',sz',.row (l++ys),false⟩)) (upd loc i (some ⟨w.heap.size,0,c'.size,sz',false⟩)) (w.drew.alloc (.cells c' T'))) ⟨w.heap.size,0,c'.size,sz',false⟩ i 0 (n+ys.length) cap' (aD loc i _) rfl hcap h63' (by simp[hcs]);rw[←hn];simpa using this
   ·rw[hn] at hmul;refine pk (by rw[Nat.zero_add,hcs];exact hmul) hel hes (fun p e j q hp hj=>⟨(hVl p e j q hp hj).1,?_⟩) (fun p e j q hp hj=>⟨(hev p e j q hp hj).1,?_⟩)
    ·have hk1:=hlt l hel p e j q hp hj;rw[Nat.zero_add,hget _ (by rw[hn,Nat.add_mul];omega)];have:(olds++news).getD (p*sz'+j) undef=olds.getD (p*sz'+j) undef:=by
      simp only[List.getD_eq_getElem?_getD];rw[List.getElem?_append_left (by rw[hol,hn];exact hk1)]
     rw[this];exact (hVl p e j q hp hj).2.mono (fun b hb=>(hdrew.alloc (Nat.le_refl _) _).block b hb.1) (fun b hb=>hb)
    ·have hk1:=hlt ys hes p e j q hp hj;rw[Nat.zero_add,hget _ (by rw[hn,Nat.add_mul,Nat.add_mul];omega)];have:(olds++news).getD ((l.length+p)*sz'+j) undef=news.getD (p*sz'+j) undef:=by
      simp only[List.getD_eq_getElem?_getD];rw[List.getElem?_append_right (by rw[hol,hn,Nat.add_mul];omega)];congr 2
      rw[hol,hn,Nat.add_mul];omega
     rw[this];exact (hev p e j q hp hj).2.mono (fun b hb=>(hdrew.alloc (Nat.le_refl _) _).block b hb.1) (fun b hb=>hb)
  obtain⟨Lo,hLo,hok⟩:=h.objs i _ hm;cases hx with
  |sliceEmp L _ _ p hL =>
   have hLe:L=Lo:=by rw[hL] at hLo;injection hLo
   subst hLe;have hl0:l=[]:=List.eq_nil_of_length_eq_zero hn.symm;subst hl0;rcases Nat.eq_zero_or_pos ys.length with h0 | h0
   ·have hys0:ys=[]:=List.eq_nil_of_length_eq_zero h0;subst hys0;have hn0:news=[]:=List.eq_nil_of_length_eq_zero (by simpa using hnl);subst hn0;have hr:=run_append_nothing (P:=P) w T T o.type T' ti hu hi p 0 0 (Nat.le_refl 0) (a.eval y) (by rw[hsize];exact hsrc);have hrel:=h.relocate (w':=w) (m:=[]++[]) (L':=L) hm hnl0 (Nat.le_refl _) h.ext (fun _ _ _=>rfl) hok.sz (fun _=>rfl) (fun hh => .inr ⟨L,hL,hh,rfl⟩)
     (fun hh=>by obtain⟨c0,fr,k1,k2,k3,k4,-⟩:=hok.at_ hh;exact (k4 rfl).1)
     (fun hh=>by obtain⟨c0,fr,k1,k2,k3,k4,-⟩:=hok.at_ hh;exact⟨c0,fr,k1,k2,(k4 rfl).2,k3⟩)
    exact⟨_,w,_,.inl (run _ _ (by rw[hxv];exact hr)),hrel,.sliceEmp L i 0 p (aD _ _ _)⟩
   ·refine fresh p 0 [] rfl (by omega) ?_ (by simp) (by simp) (fun i e j d hh=>by simp at hh);cases p with
    |none=>exact run_firstCells_none w.drew sz' 0 0 0
    |some ad=>exact run_firstCells_some w.drew sz' 0 ad 0 0 [] (by simp) (fun j u hj=>by simp at hj)
  |slice L _ _ _ cap hL hnil h3 h4 h5 =>
   have hLe:L=Lo:=by rw[hL] at hLo;injection hLo
   subst hLe;obtain⟨c0,fr,k1,k2,k3,k4,-⟩:=hok.at_ hnil;obtain⟨m1,m2,m3⟩:=k3;obtain⟨k4a,k4b⟩:=k4 rfl;have hLs:L.sz=sz':=hok.sz;simp only at m1 m2 m3 k1;have hmulc:=Nat.mul_le_mul_right sz' h3;rw[hLs] at h5;rcases Nat.lt_or_ge cap (n+ys.length) with hgr | hroom
   ·refine fresh _ cap (rd c0 (L.o+0*L.sz) (n*sz')).toList rfl hgr ?_ (by simp) m2 (fun p e j q hp hj=>⟨(m3 p e j q hp hj).1,?_⟩)
    ·refine run_firstCells_some w.drew sz' n _ n cap _ (by simp) (fun k u hk => ?_);have hk':k<n*sz':=by have:=(List.getElem?_eq_some_iff.1 hk).1;simpa using this
     rw[de,dn (w:=w.drew) k1 (by omega),←d7 c0 (L.o+0*L.sz) (n*sz') k hk'];simpa using congrArg (·.getD undef) hk
    ·have hk1:=hlt l m2 p e j q hp hj;have h2:(rd c0 (L.o+0*L.sz) (n*sz')).toList.getD (p*sz'+j) undef=(rd c0 (L.o+0*L.sz) (n*sz')).getD (p*sz'+j) undef:=by simp
     rw[h2,d7 _ _ _ _ (by rw[hn];exact hk1)];have:=(m3 p e j q hp hj).2
     rwa[show L.o+0*L.sz+(p*sz'+j)=L.o+(p*sz'+j) by omega]
   ·have hmulr:=Nat.mul_le_mul_right sz' hroom;rw[Nat.add_mul] at hmulr;have hfit:L.o+n*sz'+news.length≤c0.size:=by rw[hnl];omega
    have hr:=run_append_room_src (P:=P) w T T o.type T' ti hu hi L.b (L.o+0*L.sz) n cap (a.eval y) ys.length news (by rw[hsize];exact hsrc) hroom
     (fun j hj=>by rw[hsize,dn k1 (by omega)];rfl)
     (fun j hj=>by
      have:=k4b (L.o+0*L.sz+n*ti.size+j) (by rw[hsize];omega);simp only[World.frozen?,k1];exact this)
    rw[hsize,show L.o+0*L.sz+n*sz'=L.o+n*sz' by omega] at hr;have hself:∀b,NB base s.m loc w b→b≠L.b:=fun b hbN e=>hbN.2.2 ⟨i,_,L,hm,rfl,hL,hnil,e.symm⟩
    have hrel:=h.relocate (w':=w.setCells L.b (L.o+n*sz') news) (m:=l++ys) (L':=L) hm hnl0 (by rw[jY];exact Nat.le_refl _) (h.ext.set k4a k1)
     (fun b hb hne=>f7 (hne L hL hnil) _ _ _) hLs (fun hh=>by rw[hnil] at hh;cases hh) (fun hh => .inr ⟨L,hL,hnil,rfl⟩) (fun _=>k4a)
     (fun _=>⟨bQ c0 (L.o+n*sz') news,fr,iG _ _ _ _ k1,by simpa using k2,k4b,?_⟩)
    ·refine⟨_,_,_,.inl (run _ _ (by rw[hxv];exact hr)),hrel,?_⟩;have:=RV.slice (w:=w.setCells L.b (L.o+n*sz') news) (N:=NB base (upd (cF i s.m) i (some ⟨T',sz',.row (l++ys),false⟩)) (upd loc i (some L)) (w.setCells L.b (L.o+n*sz') news)) L i 0 (n+ys.length) cap (aD loc i _) hnil hroom h4 (by rw[hLs];exact h5);rw[←hn];exact this
    ·have hsame:∀b,NB base s.m loc w b→(w.setCells L.b (L.o+n*sz') news).heap[b]? = w.heap[b]?:=fun b hbN=>f7 (hself b hbN) _ _ _
     refine pk (by rw[eZ,←hn,Nat.add_mul];omega) m2 hes (fun p e j q hp hj=>⟨(m3 p e j q hp hj).1,?_⟩) (fun p e j q hp hj=>⟨(hev p e j q hp hj).1,?_⟩)
     ·have hk1:=hlt l m2 p e j q hp hj;rw[cM _ _ _ _ (.inl (by rw[←hn] at hk1;omega))];exact (m3 p e j q hp hj).2.mono hsame (fun b hb=>hb)
     ·have hk1:=hlt ys hes p e j q hp hj;have hin:=ed news (L.o+n*sz') c0 (p*sz'+j) (by omega) (by omega);rw[show L.o+((l.length+p)*sz'+j)=L.o+n*sz'+(p*sz'+j) by rw[←hn,Nat.add_mul];omega,hin];exact (hev p e j q hp hj).2.mono hsame (fun b hb=>hb)
 ·cases he
end
end Go.Proofs.Ytdchbabgopglcaa.M
