/- Lemmas. -/
import Derived.Test.YtdchbabgopglcaaC7
import Derived.Laws.Tables
import Derived.Laws.StructEq
namespace Go.Proofs.Ytdchbabgopglcaa.M
open Go.RowKit
section
variable {P:Program}{w0:World}{base:Bs}{nt:Nat}{loc:aU}{s t:St}{a:Act}{w:World}{o:Oper}{id:Nat}{d:AV}
theorem fE (h:Rel w0 base nt loc s a w){n:Nat}{x:AV}{v:Value}{d:D} (hd:x.toD false s.m n=some d) (hv:RV w (NB base s.m loc w) loc v x):V w (NB base s.m loc w) v d:=by
 refine Fb h (fun _ h=>h) (fun id o L ho hf hL hn => ?_) n x v d hd hv;obtain⟨L',hL',hok⟩:=h.objs id o ho;rw[hL] at hL';cases hL';obtain⟨c,fr,k1,k2,k3,k4,k5⟩:=hok.at_ hn;exact k5 (by simpa using hf)
theorem ry {d:D} (h:d.cells.all D.one=true):∀l,d≠.tup l:=by
 rintro l rfl;simp[D.cells,D.one] at h
theorem mK {l:List AV} (h1:∀e∈l,e.one=true):(AV.mk l).cells.length=l.length∧(∀e∈(AV.mk l).cells,e.one=true) ∧
  ∀(w:World) (N:Nat→Prop) (loc:aU) (v:Value) (r:Nat) (z:AV),(AV.mk l).cells[r]? = some z→(∀e,l[r]? = some e→RV w N loc v e)→RV w N loc v z:=by
 unfold AV.mk;split
 ·rename_i ds hds;obtain⟨g1,g2⟩:=lM hds;refine⟨by simp[AV.cells,D.cells,g1],fun e he => ?_,fun w N loc v r z hz hr => ?_⟩
  ·simp only[AV.cells,D.cells,List.mem_map] at he;obtain⟨q,hq,rfl⟩:=he;obtain⟨i,hi⟩:=List.getElem?_of_mem hq;obtain⟨x,hx,hp⟩:=g2 i q hi;have:=h1 x (List.mem_of_getElem? hx);cases x<;>simp[AV.one] at this<;>simp[AV.pure] at hp
   ·subst hp;exact this
   ·subst hp;rfl
  ·simp only[AV.cells,D.cells,List.getElem?_map,Option.map_eq_some_iff] at hz;obtain⟨q,hq,rfl⟩:=hz;obtain⟨x,hx,hp⟩:=g2 r q hq;exact .p _ _ ((hr x hx).pure hp)
 ·exact⟨rfl,h1,fun w N loc v r z hz hr=>hr z hz⟩
theorem Tb (x:AV){l:List AV} (h1:∀e∈l,e.one=true):(AV.mkS x l).cells.length=l.length∧(∀e∈(AV.mkS x l).cells,e.one=true) ∧
  ∀(w:World) (N:Nat→Prop) (loc:aU) (v:Value) (r:Nat) (z:AV),(AV.mkS x l).cells[r]? = some z→(∀e,l[r]? = some e→RV w N loc v e)→RV w N loc v z:=by
 cases x with
 |nils=>exact⟨rfl,h1,fun w N loc v r z hz hr=>hr z hz⟩
 |_=>exact mK h1
theorem rz (l:List D):(D.agg l).cells=l:=rfl
theorem Tc {T:TypeId}{ag:Bool}{sz:Nat}{x v:Operand} (h:Rel w0 base nt loc s a w) (ho:o.op = .store T x v) (hT:bM P T ag sz){U W:Option TypeId}
  (he:ev (.store sz (opd P U x) (opd P W v)) id s=some (true,d,t)):aK P w0 base nt o a w t d:=by
 have hx:=h.opd (P:=P) U x;have hv:=h.opd (P:=P) W v;simp only[ev] at he;split at he
 case h_2=>cases he
 rename_i i j off hk;rw[hk] at hx;generalize hxv:a.eval x=xv at hx;cases hx with
 |ptr L _ _ _ hL hn =>
 have goal:∀(ob:AObj) (k:Cont),s.m i=some ob→ob.frz=false→(a.eval v).cells.size=sz→(∀u∈(a.eval v).cells.toList,u.oneCell'=true) →
   (∀c,c.size=L.n→bf w (NB base s.m loc w) loc c L.o ob.sz ob.cont→L.o+(j*L.sz+off)+sz≤c.size) →
   (∀(w':World) (c:Array Value),w.heap.size≤w'.heap.size→(∀b,NB base s.m loc w b→w'.heap[b]? = w.heap[b]?)→bf w' (NB base s.m loc w') loc c L.o ob.sz ob.cont→c.size=L.n→bf w' (NB base s.m loc w') loc (bQ c (L.o+(j*L.sz+off)) (a.eval v).cells.toList) L.o ob.sz k) →
   aK P w0 base nt o a w ⟨s.r,upd s.m i (some ⟨ob.T,ob.sz,k,false⟩)⟩ .und:=by
  intro ob k hob hf hsz h1 hfit hk';have hrel:=h.write hob hf hL hn hk';refine⟨undef,_,loc,.inr ⟨?_,rfl⟩,hrel,.und _⟩;obtain⟨L',hL',hok⟩:=h.objs i ob hob;rw[hL] at hL';cases hL';obtain⟨c,fr,k1,k2,k3,k4,k5⟩:=hok.at_ hn;have hr:=OR (P:=P) (v:=a.eval v) hT k1 (hfit c k2 k3) hsz (fun y hy=>(k4 hf).2 y (by omega)) h1;simp[execOp,ho,hxv,hr]
 split at he
 ·rename_i T' osz l hm;split at he
  case h_2=>cases he
  rename_i e hd;split at he
  case isFalse=>cases he
  rename_i hc;obtain⟨hc1,hc2⟩:=hc;have hV:=fE h hd hv;obtain⟨g1,g2⟩:=hV.cells (ry hc2);split at he
  case isFalse =>
   split at he
   case isFalse=>cases he
   rename_i hoff;simp only[Option.some.injEq,Prod.mk.injEq,decide_eq_true_eq] at he;obtain⟨hj,rfl,rfl⟩:=he;obtain⟨L',hL',hok⟩:=h.objs i _ hm;rw[hL] at hL';cases hL';have hLs:L.sz=osz:=hok.sz;have hmul:j*osz+osz≤l.length*osz:=by
    have:=Nat.mul_le_mul_right osz (show j+1≤l.length by omega);rw[Nat.add_mul] at this;omega
   have hvs:(a.eval v).cells.toList.length=sz:=by simp;omega
   obtain⟨e0,he0⟩:∃e0,l.getD j default=e0:=⟨_,rfl⟩
   rw[he0];have he0m:l[j]? = some e0:=by
    rw[←he0,List.getElem?_eq_getElem hj];simp[hj]
   refine goal _ (.row (l.set j (.agg (e0.cells.take off++e.cells++e0.cells.drop (off+sz))))) hm rfl (by omega) (fun u hu => ?_) (fun c hcs hcc => ?_) (fun w' c hws hw' hcc hcs => ?_)
   ·obtain⟨p,hp⟩:=List.getElem?_of_mem hu;have hlt:=(List.getElem?_eq_some_iff.1 hp).1;have hq:e.cells[p]? = some (e.cells[p]'(by simp at hlt;omega)):=by simp
    have:=g2 p _ hq;have hu':(a.eval v).cells.getD p undef=u:=by simpa using congrArg (·.getD undef) hp
    rw[hu'] at this;exact this.2.one this.1
   ·have:=hcc.1;rw[hLs];simp only at this;omega
   ·obtain⟨m1,m2,m3⟩:=hcc;simp only at m1 m2 m3;have hel:=m2 e0 (List.mem_of_getElem? he0m);have hcl:(D.agg (e0.cells.take off++e.cells++e0.cells.drop (off+sz))).cells.length=osz:=by
     rw[rz];simp only[List.length_append,List.length_take,List.length_drop];omega
    refine⟨by simpa using m1,fun q hq => ?_,fun p q r z hp hr => ?_⟩
    ·rcases List.mem_or_eq_of_mem_set hq with hq | rfl
     ·exact m2 q hq
     ·exact hcl
    ·rw[hLs];by_cases hpj:p=j
     ·subst hpj;have hqe:q = .agg (e0.cells.take off++e.cells++e0.cells.drop (off+sz)):=by
       rw[List.getElem?_set_self hj] at hp;simpa using hp.symm
      subst hqe;have hrl:r<osz:=by have:=(List.getElem?_eq_some_iff.1 hr).1;omega
      rw[rz] at hr;have hout:r<off∨off+sz≤r→e0.cells[r]? = some z:=fun hx=>by
       rcases hx with hx | hx
       ·rw[List.append_assoc,List.getElem?_append_left (by simp;omega),List.getElem?_take_of_lt hx] at hr;exact hr
       ·rw[List.getElem?_append_right (by simp;omega)] at hr;rw[List.getElem?_drop] at hr;rw[←hr];congr 1
        simp;omega
      by_cases hx:r<off∨off+sz≤r
      ·obtain⟨q1,q2⟩:=m3 p e0 r z he0m (hout hx);dsimp only;rw[cM]
       ·exact⟨q1,q2⟩
       ·rw[hvs];rcases hx with hx | hx
        ·left;omega
        ·right;omega
      ·have hz:e.cells[r-off]? = some z:=by
        rw[List.append_assoc,List.getElem?_append_right (by simp;omega),List.getElem?_append_left (by simp;omega)] at hr;rw[←hr];congr 1;simp;omega
       obtain⟨q1,q2⟩:=g2 (r-off) z hz;have hin:=ed (a.eval v).cells.toList (L.o+(p*osz+off)) c (r-off) (by rw[hvs];omega) (by rw[hvs];omega);rw[show L.o+(p*osz+r)=L.o+(p*osz+off)+(r-off) by omega,hin];have hz':(a.eval v).cells.toList.getD (r-off) undef=(a.eval v).cells.getD (r-off) undef:=by simp
       rw[hz'];exact⟨q1,q2.mono hw' (fun b hb=>⟨Nat.lt_of_lt_of_le hb.1 hws,hb.2⟩)⟩
     ·have hp':l[p]? = some q:=by rwa[List.getElem?_set_ne (by omega)] at hp
      obtain⟨q1,q2⟩:=m3 p q r z hp' hr;have hrl:r<osz:=by have:=(List.getElem?_eq_some_iff.1 hr).1;have:=m2 q (List.mem_of_getElem? hp');omega
      dsimp only;rw[cM]
      ·exact⟨q1,q2⟩
      ·rw[hvs];rcases Nat.lt_or_gt_of_ne hpj with hlt | hgt
       ·left
        have:=Nat.mul_le_mul_right osz (show p+1≤j by omega);rw[Nat.add_mul] at this;omega
       ·right
        have:=Nat.mul_le_mul_right osz (show j+1≤p by omega);rw[Nat.add_mul] at this;omega
  rename_i hoff;obtain⟨rfl,rfl⟩:=hoff;simp only[Option.some.injEq,Prod.mk.injEq,decide_eq_true_eq] at he;obtain⟨hj,rfl,rfl⟩:=he;obtain⟨L',hL',hok⟩:=h.objs i _ hm;rw[hL] at hL';cases hL';have hLs:L.sz=sz:=hok.sz;have hmul:j*sz+sz≤l.length*sz:=by
   have:=Nat.mul_le_mul_right sz (show j+1≤l.length by omega);rw[Nat.add_mul] at this;omega
  have hvs:(a.eval v).cells.toList.length=sz:=by simp;omega
  refine goal _ (.row (l.set j e)) hm rfl (by omega) (fun u hu => ?_) (fun c hcs hcc => ?_) (fun w' c hws hw' hcc hcs => ?_)
  ·obtain⟨p,hp⟩:=List.getElem?_of_mem hu;have hlt:=(List.getElem?_eq_some_iff.1 hp).1;have hq:e.cells[p]? = some (e.cells[p]'(by simp at hlt;omega)):=by simp
   have:=g2 p _ hq;have hu':(a.eval v).cells.getD p undef=u:=by simpa using congrArg (·.getD undef) hp
   rw[hu'] at this;exact this.2.one this.1
  ·have:=hcc.1;rw[hLs];simp only at this;omega
  ·obtain⟨m1,m2,m3⟩:=hcc;simp only at m1 m2 m3;refine⟨by simpa using m1,fun q hq => ?_,fun p q r z hp hr => ?_⟩
   ·rcases List.mem_or_eq_of_mem_set hq with hq | rfl
    ·exact m2 q hq
    ·exact hc1
   ·rw[hLs];by_cases hpj:p=j
    ·subst hpj;have hqe:q=e:=by
      rw[List.getElem?_set_self (by omega)] at hp;simpa using hp.symm
     subst hqe;have hrl:r<sz:=by have:=(List.getElem?_eq_some_iff.1 hr).1;omega
     have hin:=ed (a.eval v).cells.toList (L.o+(p*sz+0)) c r (by rw[hvs];omega) (by rw[hvs];exact hrl);rw[show L.o+(p*sz+r)=L.o+(p*sz+0)+r by omega,hin];obtain⟨q1,q2⟩:=g2 r z hr;have hz:(a.eval v).cells.toList.getD r undef=(a.eval v).cells.getD r undef:=by simp
     rw[hz];exact⟨q1,q2.mono hw' (fun b hb=>⟨Nat.lt_of_lt_of_le hb.1 hws,hb.2⟩)⟩
    ·have hp':l[p]? = some q:=by rwa[List.getElem?_set_ne (by omega)] at hp
     obtain⟨q1,q2⟩:=m3 p q r z hp' hr;have hrl:r<sz:=by have:=(List.getElem?_eq_some_iff.1 hr).1;have:=m2 q (List.mem_of_getElem? hp');omega
     dsimp only;rw[cM]
     ·exact⟨q1,q2⟩
     ·rw[hvs];rcases Nat.lt_or_gt_of_ne hpj with hlt | hgt
      ·left
       have:=Nat.mul_le_mul_right sz (show p+1≤j by omega);rw[Nat.add_mul] at this;omega
      ·right
       have:=Nat.mul_le_mul_right sz (show j+1≤p by omega);rw[Nat.add_mul] at this;omega
 ·rename_i T' osz u hm;split at he
  case isFalse=>cases he
  rename_i hc;obtain⟨hc1,hc2,rfl⟩:=hc;rw[List.all_eq_true] at hc2;obtain⟨g1,g2⟩:=hv.cells hc2;obtain⟨L',hL',hok⟩:=h.objs i _ hm;rw[hL] at hL';cases hL';have hLs:L.sz=osz:=hok.sz;have hvs:(a.eval v).cells.toList.length=sz:=by simp;omega
  have hone:∀q∈(a.eval v).cells.toList,q.oneCell'=true:=by
   intro q hq;obtain⟨p,hp⟩:=List.getElem?_of_mem hq;have hlt:=(List.getElem?_eq_some_iff.1 hp).1;have hy:((opd P W v).ev s.r).cells[p]? = some (((opd P W v).ev s.r).cells[p]'(by simp at hlt;omega)):=by simp
   have:=g2 p _ hy;have hu':(a.eval v).cells.getD p undef=q:=by simpa using congrArg (·.getD undef) hp
   rw[hu'] at this;exact this.one (hc2 _ (List.mem_of_getElem? hy))
  have hin:∀(w':World) (c:Array Value),w.heap.size≤w'.heap.size→(∀b,NB base s.m loc w b→w'.heap[b]? = w.heap[b]?)→L.o+off+sz≤c.size→∀r z,((opd P W v).ev s.r).cells[r]? = some z→RV w' (NB base s.m loc w') loc ((bQ c (L.o+(0*L.sz+off)) (a.eval v).cells.toList).getD (L.o+(off+r)) undef) z:=by
   intro w' c hws hw' hfit r z hr;have hrl:r<sz:=by have:=(List.getElem?_eq_some_iff.1 hr).1;omega
   have hin:=ed (a.eval v).cells.toList (L.o+(0*L.sz+off)) c r (by rw[hvs];omega) (by rw[hvs];exact hrl);rw[show L.o+(off+r)=L.o+(0*L.sz+off)+r by omega,hin];have hz:(a.eval v).cells.toList.getD r undef=(a.eval v).cells.getD r undef:=by simp
   rw[hz];exact (g2 r z hr).mono hw' (fun b hb=>⟨Nat.lt_of_lt_of_le hb.1 hws,hb.2⟩) (fun _ _ x=>x)
  split at he
  ·rename_i hoff;obtain⟨rfl,rfl⟩:=hoff;simp only[Option.some.injEq,Prod.mk.injEq,true_and] at he;obtain⟨rfl,rfl⟩:=he;refine goal _ (.box ((opd P W v).ev s.r)) hm rfl (by omega) hone (fun c hcs hcc => ?_) (fun w' c hws hw' hcc hcs => ?_)
   ·have:=hcc.1;simp only at this;omega
   ·obtain⟨m1,m2,m3,m4⟩:=hcc;simp only at m1;refine⟨by simpa using m1,hc1,hc2,fun r z hr => ?_⟩;have:=hin w' c hws hw' (by omega) r z hr
    rwa[Nat.zero_add] at this
  ·split at he
   case isFalse=>cases he
   rename_i hle;simp only[Option.some.injEq,Prod.mk.injEq,true_and] at he;obtain⟨rfl,rfl⟩:=he;refine goal _ (.box (AV.mkS ((opd P W v).ev s.r) (u.cells.take off++((opd P W v).ev s.r).cells++u.cells.drop (off+sz)))) hm rfl (by omega) hone (fun c hcs hcc => ?_) (fun w' c hws hw' hcc hcs => ?_)
   ·have:=hcc.1;simp only at this;omega
   ·obtain⟨m1,m2,m3,m4⟩:=hcc;simp only at m1 m2 m3 m4;have hall:∀e∈u.cells.take off++((opd P W v).ev s.r).cells++u.cells.drop (off+sz),e.one=true:=by
     intro e he;rcases List.mem_append.1 he with he | he
     ·rcases List.mem_append.1 he with he | he
      ·exact m3 e (List.mem_of_mem_take he)
      ·exact hc2 e he
     ·exact m3 e (List.mem_of_mem_drop he)
    have hlen:(u.cells.take off++((opd P W v).ev s.r).cells++u.cells.drop (off+sz)).length=osz:=by simp;omega
    obtain⟨k1,k2,k3⟩:=Tb ((opd P W v).ev s.r) hall;refine⟨by simpa using m1,by rw[k1];exact hlen,k2,fun r z hr => ?_⟩;refine k3 w' _ loc _ r z hr fun e he => ?_
    by_cases h1:r<off
    ·rw[List.append_assoc,List.getElem?_append_left (by simp;omega),List.getElem?_take_of_lt h1] at he;rw[cM _ _ _ _ (.inl (by omega))];exact m4 r e he
    ·by_cases h2:r<off+sz
     ·have:=hin w' c hws hw' (by omega) (r-off) e (by
       rw[List.append_assoc,List.getElem?_append_right (by simp;omega),List.getElem?_append_left (by simp;omega)] at he;simpa[show min off u.cells.length=off by omega] using he)
      rwa[show L.o+(off+(r-off))=L.o+r by omega] at this
     ·rw[List.getElem?_append_right (by simp;omega)] at he;simp only[List.length_append,List.length_take,List.getElem?_drop] at he;rw[show off+sz+(r-(min off u.cells.length+((opd P W v).ev s.r).cells.length))=r by omega] at he;rw[cM _ _ _ _ (.inr (by rw[hvs];omega))];exact m4 r e he
 ·rename_i T' osz hm;split at he
  case isFalse=>cases he
  rename_i hc;obtain⟨hc1,hc2,rfl⟩:=hc;rw[List.all_eq_true] at hc2;obtain⟨g1,g2⟩:=hv.cells hc2;obtain⟨L',hL',hok⟩:=h.objs i _ hm;rw[hL] at hL';cases hL';have hLs:L.sz=osz:=hok.sz;have hvs:(a.eval v).cells.toList.length=sz:=by simp;omega
  have hone:∀q∈(a.eval v).cells.toList,q.oneCell'=true:=by
   intro q hq;obtain⟨p,hp⟩:=List.getElem?_of_mem hq;have hlt:=(List.getElem?_eq_some_iff.1 hp).1;have hy:((opd P W v).ev s.r).cells[p]? = some (((opd P W v).ev s.r).cells[p]'(by simp at hlt;omega)):=by simp
   have:=g2 p _ hy;have hu':(a.eval v).cells.getD p undef=q:=by simpa using congrArg (·.getD undef) hp
   rw[hu'] at this;exact this.one (hc2 _ (List.mem_of_getElem? hy))
  have hin:∀(w':World) (c:Array Value),w.heap.size≤w'.heap.size→(∀b,NB base s.m loc w b→w'.heap[b]? = w.heap[b]?)→L.o+off+sz≤c.size→∀r z,((opd P W v).ev s.r).cells[r]? = some z→RV w' (NB base s.m loc w') loc ((bQ c (L.o+(0*L.sz+off)) (a.eval v).cells.toList).getD (L.o+(off+r)) undef) z:=by
   intro w' c hws hw' hfit r z hr;have hrl:r<sz:=by have:=(List.getElem?_eq_some_iff.1 hr).1;omega
   have hin:=ed (a.eval v).cells.toList (L.o+(0*L.sz+off)) c r (by rw[hvs];omega) (by rw[hvs];exact hrl);rw[show L.o+(off+r)=L.o+(0*L.sz+off)+r by omega,hin];have hz:(a.eval v).cells.toList.getD r undef=(a.eval v).cells.getD r undef:=by simp
   rw[hz];exact (g2 r z hr).mono hw' (fun b hb=>⟨Nat.lt_of_lt_of_le hb.1 hws,hb.2⟩) (fun _ _ x=>x)
  split at he
  ·rename_i hoff;obtain⟨rfl,rfl⟩:=hoff;simp only[Option.some.injEq,Prod.mk.injEq,true_and] at he;obtain⟨rfl,rfl⟩:=he;refine goal _ (.box ((opd P W v).ev s.r)) hm rfl (by omega) hone (fun c hcs hcc => ?_) (fun w' c hws hw' hcc hcs => ?_)
   ·have:=hcc;simp only[bf] at this;omega
   ·have m1:=hcc;simp only[bf] at m1;refine⟨by simpa using m1,hc1,hc2,fun r z hr => ?_⟩;have:=hin w' c hws hw' (by omega) r z hr
    rwa[Nat.zero_add] at this
  ·cases he
 ·cases he
end
section
variable {P:Program}{w0:World}{base:Bs}{nt:Nat}{loc:aU}{s t:St}{a:Act}{w:World}{o:Oper}{id:Nat}{d:AV}
def js (cs:Array Value) (off:Nat) (v:Array Value):Array Value:=v.zipIdx.foldl (fun cs (c,j)=>cs.setIfInBounds (off+j) c) cs
theorem n5:∀(v:List Value) (k off:Nat) (cs:Array Value),(v.zipIdx k).foldl (fun cs (p:Value×Nat)=>cs.setIfInBounds (off+p.2) p.1) cs=bQ cs (off+k) v
 |[],_,_,_=>rfl
 |x::v,k,off,cs=>by
  rw[List.zipIdx_cons,List.foldl_cons,n5 v (k+1) off,bQ];rfl
theorem gy (cs:Array Value) (off:Nat) (v:Array Value):js cs off v=bQ cs off v.toList:=by
 unfold js;rw[←Array.foldl_toList,Array.toList_zipIdx];exact n5 v.toList 0 off cs
def RVs (w:World) (N:Nat→Prop) (loc:aU) (cs:Array Value) (l:List AV):Prop:=cs.size=l.length∧(∀e∈l,e.one=true)∧∀i e,l[i]? = some e→RV w N loc (cs.getD i undef) e
theorem RVs.put {N:Nat→Prop}{cs:Array Value}{l:List AV}{v:Value}{x:AV}{off:Nat} (h:RVs w N loc cs l) (hv:RV w N loc v x) (h1:∀e∈x.cells,e.one=true) (hle:off+x.cells.length≤l.length) :
  RVs w N loc (js cs off v.cells) (l.take off++x.cells++l.drop (off+x.cells.length))∧v.cells.size=x.cells.length:=by
 obtain⟨g1,g2⟩:=hv.cells h1;obtain⟨k1,k2,k3⟩:=h;have hvs:v.cells.toList.length=x.cells.length:=by simp;omega
 refine⟨⟨?_,?_,?_⟩,g1⟩
 ·rw[gy,eZ];simp;omega
 ·intro e he;rcases List.mem_append.1 he with he | he
  ·rcases List.mem_append.1 he with he | he
   ·exact k2 e (List.mem_of_mem_take he)
   ·exact h1 e he
  ·exact k2 e (List.mem_of_mem_drop he)
 ·intro r e he;rw[gy];by_cases q1:r<off
  ·rw[List.append_assoc,List.getElem?_append_left (by simp;omega),List.getElem?_take_of_lt q1] at he;rw[cM _ _ _ _ (.inl q1)];exact k3 r e he
  ·by_cases q2:r<off+x.cells.length
   ·rw[List.append_assoc,List.getElem?_append_right (by simp;omega),List.getElem?_append_left (by simp;omega)] at he;have hin:=ed v.cells.toList off cs (r-off) (by omega) (by omega);rw[show off+(r-off)=r by omega] at hin;rw[hin];have hz:v.cells.toList.getD (r-off) undef=v.cells.getD (r-off) undef:=by simp
    rw[hz];exact g2 (r-off) e (by simpa[show min off l.length=off by omega] using he)
   ·rw[List.getElem?_append_right (by simp;omega)] at he;simp only[List.length_append,List.length_take,List.getElem?_drop] at he;rw[show off+x.cells.length+(r-(min off l.length+x.cells.length))=r by omega] at he;rw[cM _ _ _ _ (.inr (by omega))];exact k3 r e he
theorem kQ (h:Rel w0 base nt loc s a w) (place:Nat→Option (Nat×Nat)):∀(parts:List (Nat×Operand)) (ps:List (Nat×Nat×Opd)) (cs:Array Value) (l m:List AV),
  parts.length=ps.length→(∀(k i:Nat) (x:Operand) (off sz:Nat) (X:Opd),parts[k]? = some (i,x)→ps[k]? = some (off,sz,X)→place i=some (off,sz)∧RV w (NB base s.m loc w) loc (a.eval x) (X.ev s.r)) →
  RVs w (NB base s.m loc w) loc cs l→cZ l s.r ps=some m→∃cs',Instr.fill place cs (parts.map fun p=>(p.1,a.eval p.2))=some cs'∧RVs w (NB base s.m loc w) loc cs' m
 |[],[],cs,l,m,_,_,hr,hf=>by
  simp only[cZ,Option.some.injEq] at hf;subst hf;exact⟨cs,rfl,hr⟩
 |(i,x)::parts,(off,sz,X)::ps,cs,l,m,hl,hp,hr,hf=>by
  simp only[cZ] at hf;split at hf
  case isFalse=>cases hf
  rename_i hc;obtain⟨c1,c2,c3⟩:=hc;rw[List.all_eq_true] at c3;obtain⟨p1,p2⟩:=hp 0 i x off sz X rfl rfl;subst c1;obtain⟨q1,q2⟩:=hr.put p2 c3 c2;obtain⟨cs',g1,g2⟩:=kQ h place parts ps _ _ m (by simpa using hl) (fun k i x off sz X h1 h2=>hp (k+1) i x off sz X (by simpa using h1) (by simpa using h2)) q1 hf;refine⟨cs',?_,g2⟩;have hcs:=hr.1;simp only[List.map_cons,Instr.fill,p1];rw[if_neg (by simp only[Bool.or_eq_true,decide_eq_true_eq,not_or,ne_eq,Decidable.not_not,Nat.not_lt,gt_iff_lt];omega)];exact g1
 |[],_::_,_,_,_,hl,_,_,_=>by simp at hl
 |_::_,[],_,_,_,hl,_,_,_=>by simp at hl
theorem BO {T:TypeId}{parts:Array (Nat×Operand)}{l:List D}{sz:Nat}{fs:Array Field}{places:List (Nat×Nat)}{ps:List (Nat×Nat×Opd)} (h:Rel w0 base nt loc s a w) (ho:o.op = .build T parts) (hz:ZOk P T l true sz) (hu:P.underlying T=some (.struct fs))
  (hpl:fs.toList.mapM (fun f=>(P.info? f.type).map fun i=>(f.offset,i.size))=some places)
  (hps:parts.toList.mapM (fun p:Nat×Operand=>match places[p.1]?,fs[p.1]? with
     |some (off,sz),some f=>some (off,sz,opd P (some f.type) p.2)
     |_,_=>none)=some ps)
  (he:ev (.build (l.map .p) ps) id s=some (true,d,t)):aK P w0 base nt o a w t d:=by
 simp only[ev] at he;split at he
 case h_2=>cases he
 rename_i m hm;simp only[Option.some.injEq,Prod.mk.injEq,true_and] at he;obtain⟨rfl,rfl⟩:=he;obtain⟨i,z,g1,g2,g3,g4,g5,g6⟩:=hz;obtain⟨k1,k2⟩:=gX g4;have hzc:RVs w (NB base s.m loc w) loc z.cells (l.map .p):=by
  refine⟨by simpa using k1,fun e he => ?_,fun j e hj => ?_⟩
  ·simp only[List.mem_map] at he;obtain⟨q,hq,rfl⟩:=he;obtain⟨j,hj⟩:=List.getElem?_of_mem hq;exact (k2 j q hj).1
  ·simp only[List.getElem?_map,Option.map_eq_some_iff] at hj;obtain⟨q,hq,rfl⟩:=hj;have:=(k2 j q hq).2 w (NB base s.m loc w);exact .p _ _ (by simpa using this)
 have hpar:∀(l1:List (Nat×Operand)) (l2:List (Nat×Nat×Opd)),l1.mapM (fun p:Nat×Operand=>match places[p.1]?,fs[p.1]? with
     |some (off,sz),some f=>some (off,sz,opd P (some f.type) p.2)
     |_,_=>none)=some l2→l1.length=l2.length∧∀(k i:Nat) (x:Operand) (off sz:Nat) (X:Opd),l1[k]? = some (i,x)→l2[k]? = some (off,sz,X)→places[i]? = some (off,sz)∧∃T,X=opd P T x:=by
  intro l1;induction l1 with
  |nil=>intro l2 hh;simp at hh;subst hh;exact⟨rfl,fun k i x off sz X h1=>by simp at h1⟩
  |cons p l1 ih =>
   intro l2 hh;simp only[List.mapM_cons,Option.bind_eq_bind,Option.bind_eq_some_iff,Option.pure_def,Option.some.injEq] at hh;obtain⟨y,hy,l2',hl2,rfl⟩:=hh;obtain⟨r1,r2⟩:=ih l2' hl2;refine⟨by simp[r1],fun k i x off sz X h1 h2 => ?_⟩
   match k,h1,h2 with
   |0,h1,h2 =>
    simp only[List.getElem?_cons_zero,Option.some.injEq] at h1 h2;subst h1;subst h2;split at hy
    ·rename_i off' sz' f e1 e2;simp only[Option.some.injEq,Prod.mk.injEq] at hy;obtain⟨rfl,rfl,rfl⟩:=hy;exact⟨e1,_,rfl⟩
    ·cases hy
   |k+1,h1,h2=>exact r2 k i x off sz X (by simpa using h1) (by simpa using h2)
 obtain⟨r1,r2⟩:=hpar _ _ hps;obtain⟨cs',q1,q2⟩:=kQ h (places.toArray[·]?) parts.toList ps z.cells _ m r1 (fun k i x off sz X h1 h2=>by
  obtain⟨u1,T',rfl⟩:=r2 k i x off sz X h1 h2;exact⟨by simpa using u1,h.opd T' x⟩) hzc hm
 have hb:P.built T (parts.map fun (i,x)=>(i,a.eval x)).toList=some cs':=by
  unfold Program.built;simp only[g1,hu,g2,hpl];rw[Array.toList_map];exact q1
 refine aP h (v:=.agg cs') ?_ (pO q2.1 q2.2.1 q2.2.2);simp only[execOp,ho];exact eo (run_build w T _ cs' hb)
theorem BP {N:Nat→Prop}{c:Array Value}{sz:Nat}{l:List D}{i:Nat}{v:Value}{e:D} (h:bf w N loc c 0 sz (.row l)) (hi:i<l.length) (hv:V w N v e) (h1:e.cells.length=sz) (h2:e.cells.all D.one=true) :
  bf w N loc (js c (i*sz) v.cells) 0 sz (.row (l.set i e))∧v.cells.size=sz:=by
 obtain⟨g1,g2⟩:=hv.cells (ry h2);obtain⟨m1,m2,m3⟩:=h;have hvs:v.cells.toList.length=sz:=by simp;omega
 have hmul:i*sz+sz≤l.length*sz:=by
  have:=Nat.mul_le_mul_right sz (show i+1≤l.length by omega);rw[Nat.add_mul] at this;omega
 refine⟨⟨by rw[gy,eZ];simpa using m1,fun q hq => ?_,fun p q r z hp hr => ?_⟩,by omega⟩
 ·rcases List.mem_or_eq_of_mem_set hq with hq | rfl
  ·exact m2 q hq
  ·exact h1
 ·rw[gy];by_cases hpj:p=i
  ·subst hpj;have hqe:q=e:=by
    rw[List.getElem?_set_self (by omega)] at hp;simpa using hp.symm
   subst hqe;have hrl:r<sz:=by have:=(List.getElem?_eq_some_iff.1 hr).1;omega
   have hin:=ed v.cells.toList (p*sz) c r (by rw[hvs];omega) (by rw[hvs];exact hrl);rw[Nat.zero_add,hin];obtain⟨q1,q2⟩:=g2 r z hr;have hz:v.cells.toList.getD r undef=v.cells.getD r undef:=by simp
   rw[hz];exact⟨q1,q2⟩
  ·have hp':l[p]? = some q:=by rwa[List.getElem?_set_ne (by omega)] at hp
   obtain⟨q1,q2⟩:=m3 p q r z hp' hr;have hrl:r<sz:=by have:=(List.getElem?_eq_some_iff.1 hr).1;have:=m2 q (List.mem_of_getElem? hp');omega
   rw[cM]
   ·exact⟨q1,q2⟩
   ·rw[hvs];rcases Nat.lt_or_gt_of_ne hpj with hlt | hgt
    ·left
     have:=Nat.mul_le_mul_right sz (show p+1≤i by omega);rw[Nat.add_mul] at this;omega
    ·right
     have:=Nat.mul_le_mul_right sz (show i+1≤p by omega);rw[Nat.add_mul] at this;omega
theorem BQ {place:Nat→Option (Nat×Nat)}:∀(parts:List (Nat×Value)) (cs cs':Array Value),Instr.fill place cs parts=some cs'→cs'.size=cs.size:=by
 intro parts;induction parts with
 |nil=>intro cs cs' h;simp[Instr.fill] at h;rw[h]
 |cons p parts ih =>
  intro cs cs' h;obtain⟨i,v⟩:=p;simp only[Instr.fill] at h;split at h
  ·cases h
  ·split at h
   ·cases h
   ·have:=ih _ _ h;rw[this];exact (congrArg Array.size (gy cs _ v.cells)).trans (eZ _ _ _)
theorem n6 (h:Rel w0 base nt loc s a w) (sz:Nat):∀(parts:List (Nat×Operand)) (T:Option TypeId) (c:Array Value) (l m:List D),bf w (NB base s.m loc w) loc c 0 sz (.row l)→c.size=l.length*sz →
  cD sz l s.r s.m (parts.map fun p=>(p.1,opd P T p.2))=some m→∃cs',Instr.fill (fun i=>some (i*sz,sz)) c (parts.map fun p=>(p.1,a.eval p.2))=some cs'∧bf w (NB base s.m loc w) loc cs' 0 sz (.row m)∧m.length=l.length
 |[],T,c,l,m,hr,_,hf=>by
  simp only[List.map_nil,cD,Option.some.injEq] at hf;subst hf;exact⟨c,rfl,hr,rfl⟩
 |(i,x)::parts,T,c,l,m,hr,hs,hf=>by
  simp only[List.map_cons,cD] at hf;split at hf
  case h_2=>cases hf
  rename_i e hd;split at hf
  case isFalse=>cases hf
  rename_i hc;obtain⟨c1,c2,c3⟩:=hc;have hV:=fE h hd (h.opd (P:=P) T x);obtain⟨q1,q2⟩:=BP hr c3 hV c1 c2;obtain⟨cs',g1,g2,g3⟩:=n6 h sz parts T _ _ m q1 (by rw[gy,eZ];simpa using hs) hf;refine⟨cs',?_,g2,by simpa using g3⟩;have hmul:i*sz+sz≤l.length*sz:=by
   have:=Nat.mul_le_mul_right sz (show i+1≤l.length by omega);rw[Nat.add_mul] at this;omega
  simp only[List.map_cons,Instr.fill];rw[if_neg (by simp only[Bool.or_eq_true,decide_eq_true_eq,not_or,ne_eq,Decidable.not_not,Nat.not_lt,gt_iff_lt];omega)];exact g1
theorem BR {E:TypeId}{l:List D}{ag:Bool}{sz:Nat} (hz:ZOk P E l ag sz){z:Value} (hr:(zeroValue E).run P w = .ok z w) (N:Nat→Prop) (q:Nat) :
  bf w N loc (madeCells z.cells (q*sz)) 0 sz (.row (List.replicate q (if ag then D.agg l else l.headD default))):=by
 obtain⟨z',hr',hsz,hl,hcell,-⟩:=gQ (w:=w) hz;rw[hr] at hr';have hzz:z=z':=by injection hr'
 subst hzz;have hcl:(if ag then D.agg l else l.headD default).cells=l:=by
  cases ag with
  |true=>rfl
  |false =>
   have:sz=1:=by obtain⟨_,_,_,_,_,_,_,h6⟩:=hz;exact h6 rfl
   match l,hl with
   |[e],_ =>
    have:=(hcell 0 e rfl).1;cases e<;>first | rfl | simp[D.one] at this
   |[],hl=>simp at hl;omega
   |_::_::_,hl=>simp at hl;omega
 refine⟨by simp[madeCells],fun e he => ?_,fun i e j d hi hj => ?_⟩
 ·rw[List.eq_of_mem_replicate he,hcl,hl]
 ·have hiq:i<q:=by have:=(List.getElem?_eq_some_iff.1 hi).1;simpa using this
  have he:=List.eq_of_mem_replicate (List.mem_of_getElem? hi);rw[he,hcl] at hj;have hjl:j<sz:=by have:=(List.getElem?_eq_some_iff.1 hj).1;omega
  obtain⟨g1,g2⟩:=hcell j d hj;refine⟨g1,?_⟩;have hlt:i*sz+j<q*sz:=by
   have:=Nat.mul_le_mul_right sz (show i+1≤q by omega);rw[Nat.add_mul] at this;omega
  have hmod:(i*sz+j) % sz=j:=by rw[Nat.add_comm,Nat.add_mul_mod_self_right];exact Nat.mod_eq_of_lt hjl
  have:=g2 w N;simp only[Nat.zero_add,Array.getD_eq_getD_getElem?] at this ⊢;simp[madeCells,hlt,hsz,hmod];simpa[hsz,hjl] using this
theorem BS {T E:TypeId}{n:Nat}{parts:Array (Nat×Operand)}{l:List D}{ag:Bool}{sz:Nat} (h:Rel w0 base nt loc s a w) (ho:o.op = .buildSlice T n parts) (hu:P.underlying T=some (.slice E)) (hz:ZOk P E l ag sz) (hn:n*sz≤16777216) (hn2:n≤9223372036854775807){U:Option TypeId}
  (he:ev (.buildSlice E sz (if ag then .agg l else l.headD default) n (parts.toList.map fun (i,x)=>(i,opd P U x))) id s=some (true,d,t)):aK P w0 base nt o a w t d:=by
 simp only[ev] at he;split at he
 case h_2=>cases he
 rename_i hid;split at he
 case h_2=>cases he
 rename_i m hm;simp only[Option.some.injEq,Prod.mk.injEq,true_and] at he;obtain⟨rfl,rfl⟩:=he;obtain⟨z,hr,hsz,hl,hcell,-⟩:=gQ (w:=w) hz;have hTy:bM P E ag sz:=by obtain⟨_,_,_,_,h3,_⟩:=hz;exact h3
 have hrow:=BR (loc:=loc) hz hr (NB base s.m loc w) n;obtain⟨cs',g1,g2,g3⟩:=n6 h sz parts.toList U _ _ m hrow (by simp[madeCells]) hm;simp only[List.length_replicate] at g3;have hcs:cs'.size=n*sz:=by rw[BQ _ _ _ g1];simp[madeCells]
 obtain⟨loc',hl',hrel⟩:=h.alloc (T:=E) (c:=cs') (k:=.row m) (sz:=sz) hid g2;refine⟨.slice (some ⟨w.heap.size,0,none⟩) n n,w.alloc (.cells cs' E),loc',.inl ?_,hrel,?_⟩
 ·have hg:Instr.fill (fun i=>some (i*sz,sz)) (madeCells z.cells (n*sz)) (parts.map fun x=>(x.1,a.eval x.2)).toList=some cs':=by
   rw[Array.toList_map,←g1]
  unfold madeCells at hg;simp only[execOp,ho];refine eo ?_;by_cases h0:n*sz=0
  ·have e0:∀f:Nat→Value,Array.map f (Array.range 0) = #[]:=fun f=>by simp
   simp only[h0,e0,Array.toList_map] at hg;simp[Instr.buildSlice,run_underlying hu,cL hTy,h0,e0,hg,newRow]
  ·simp only[Array.toList_map] at hg;have hb':¬ (16777216<n*sz):=by omega
   simp[Instr.buildSlice,run_underlying hu,cL hTy,h0,hr,newRow,hb',hg]
 ·have:=RV.slice (w:=w.alloc (.cells cs' E)) (N:=NB base (upd s.m id (some ⟨E,sz,.row m,false⟩)) loc' (w.alloc (.cells cs' E))) _ id 0 n n hl' rfl (Nat.le_refl _) hn2 (by simp[hcs]);simpa using this
theorem ic {N:Nat→Prop}:∀{l:List D}{ks:List IntKind}{ns:List Int}{cs:Array Value} (o:Nat),dW l=some (ks,ns)→(∀i d,l[i]? = some d→V w N (cs.getD (o+i) undef) d)→ks.length=l.length∧ns.length=l.length∧∀i k n,ks[i]? = some k→ns[i]? = some n→cs.getD (o+i) undef = .int k n
 |[],ks,ns,cs,o,h,hv=>by
  simp only[dW,Option.some.injEq,Prod.mk.injEq] at h;obtain⟨rfl,rfl⟩:=h;exact⟨rfl,rfl,fun i k n h=>by simp at h⟩
 |d::l,ks,ns,cs,o,h,hv=>by
  cases d with
  |int k n =>
   simp only[dW,Option.map_eq_some_iff,Prod.mk.injEq] at h;obtain⟨⟨ks',ns'⟩,h1,rfl,rfl⟩:=h;obtain⟨g1,g2,g3⟩:=ic (cs:=cs) (o+1) h1 (fun i d hi=>by have:=hv (i+1) d (by simpa using hi);rwa[show o+(i+1)=o+1+i by omega] at this);refine⟨by simp[g1],by simp[g2],fun i k' n' hk hn => ?_⟩
   match i,hk,hn with
   |0,hk,hn =>
    simp at hk hn;subst hk;subst hn;have:=hv 0 (.int k n) rfl;generalize cs.getD (o+0) undef=v at this ⊢;cases this;rfl
   |i+1,hk,hn=>rw[show o+(i+1)=o+1+i by omega];exact g3 i k' n' (by simpa using hk) (by simpa using hn)
  |_=>simp[dW] at h
theorem n7 (dd:Nat) (xs ys:Array Value):∀(fs:List Field) (o:Nat) (ks:List IntKind) (l m:List Int),fs.length=ks.length→l.length=ks.length→m.length=ks.length →
  (∀i f, fs[i]? = some f → f.offset = o + i ∧ f.name ≠ "_" ∧ (∃k, P.underlying f.type = some (.int k))) → (∀i k n, ks[i]? = some k → l[i]? = some n → xs[o + i]? = some (.int k n)) → (∀i k n, ks[i]? = some k → m[i]? = some n → ys[o + i]? = some (.int k n)) →
  (Op.eqFields (dd+1) xs ys fs).run P w = .ok (decide (l=m)) w
 |[],o,[],[],[],_,_,_,_,_,_=>by simp[Op.eqFields]
 |f::fs,o,k::ks,x::l,y::m,h1,h2,h3,hf,hx,hy=>by
  obtain⟨f1,f2,k',f3⟩:=hf 0 f rfl;have ih:=n7 dd xs ys fs (o+1) ks l m (by simpa using h1) (by simpa using h2) (by simpa using h3)
   (fun i f hi=>by have:=hf (i+1) f (by simpa using hi);rwa[show o+(i+1)=o+1+i by omega] at this)
   (fun i k n hi hj=>by have:=hx (i+1) k n (by simpa using hi) (by simpa using hj);rwa[show o+(i+1)=o+1+i by omega] at this)
   (fun i k n hi hj=>by have:=hy (i+1) k n (by simpa using hi) (by simpa using hj);rwa[show o+(i+1)=o+1+i by omega] at this)
  have hag:(isAgg f.type).run P w = .ok false w:=by unfold isAgg;simp only[Sem.run_bind,run_underlying f3,Result.andThen];rfl
  have px:(part f.type xs f.offset).run P w = .ok (.int k x) w:=by
   have:=hx 0 k x rfl rfl;rw[←f1] at this;simp[part,hag,this]
  have py:(part f.type ys f.offset).run P w = .ok (.int k y) w:=by
   have:=hy 0 k y rfl rfl;rw[←f1] at this;simp[part,hag,this]
  have pe:=run_equalIn_int (P:=P) w dd f.type k k' x y f3;simp only[Op.eqFields,f2,ne_eq,not_false_eq_true,if_true,Sem.run_bind,px,py,pe,Result.andThen_ok];by_cases hxy:x=y
  ·subst hxy;simp[ih]
  ·simp[hxy]
 |[],_,_::_,_,_,h,_,_,_,_,_=>by simp at h
 |_::_,_,[],_,_,h,_,_,_,_,_=>by simp at h
 |_,_,[],_::_,_,_,h,_,_,_,_=>by simp at h
 |_,_,[],_,_::_,_,_,h,_,_,_=>by simp at h
 |_,_,_::_,[],_,_,h,_,_,_,_=>by simp at h
 |_,_,_::_,_,[],_,_,h,_,_,_=>by simp at h
theorem BT {T : TypeId} (h : kq P T = true) : ∃fs, P.underlying T = some (.struct fs) ∧ P.stoodInHeld T = false ∧ P.eqGuardType P.depth T = false ∧ ∀i f, fs.toList[i]? = some f → f.offset = 0 + i ∧ f.name ≠ "_" ∧ ∃k, P.underlying f.type = some (.int k) := by
 unfold kq at h;split at h
 ·rename_i fs hu;simp only[Bool.and_eq_true,Bool.not_eq_true',List.all_eq_true] at h;refine⟨fs,hu,h.1.1,h.1.2,fun i f hi => ?_⟩;have:=h.2 (f,i) (by rw[List.mem_zipIdx_iff_getElem?];exact hi);simp only[beq_iff_eq,bne_iff_ne,ne_eq] at this;refine⟨by omega,this.1.2,?_⟩;have h2:=this.2;split at h2
  ·rename_i k hk;exact⟨k,hk⟩
  ·cases h2
 ·cases h
theorem n8 {T Y:TypeId}{op:BinOp}{neg:Bool}{x y:Operand}{fs:Array Field} (h:Rel w0 base nt loc s a w) (ho:o.op = .binOp op T x y Y) (hop:op=if neg then .neq else .eql) (hT:kq P T=true) (hu:P.underlying T=some (.struct fs)){U W:Option TypeId}
  (he:ev (.eqs fs.size neg (opd P U x) (opd P W y)) id s=some (true,d,t)):aK P w0 base nt o a w t d:=by
 have hx:=h.opd (P:=P) U x;have hy:=h.opd (P:=P) W y;simp only[ev] at he;split at he
 case h_2=>cases he
 rename_i la lb hk hk';split at he
 case h_2=>cases he
 rename_i k l k' m h1 h2;split at he
 case isFalse=>cases he
 rename_i hc;obtain⟨rfl,hlen⟩:=hc;simp only[Option.some.injEq,Prod.mk.injEq,true_and] at he;obtain⟨rfl,rfl⟩:=he;rw[hk] at hx;rw[hk'] at hy;have hx:=hx.inv;have hy:=hy.inv;generalize hxv:a.eval x=v at hx;generalize hyv:a.eval y=u at hy;cases hx with
 |agg xs _ x1 x2 x3 =>
 cases hy with
 |agg ys _ y1 y2 y3 =>
 obtain⟨fs',g1,g2,g3,g4⟩:=BT hT;rw[hu] at g1;cases g1;have hfo:P.fieldsOf T=fs:=by simp[Program.fieldsOf,hu]
 obtain⟨i1,i2,i3⟩:=ic (w:=w) (N:=NB base s.m loc w) (cs:=xs) 0 h1 (fun i d hi=>by rw[Nat.zero_add];exact x3 i d hi);obtain⟨j1,j2,j3⟩:=ic (w:=w) (N:=NB base s.m loc w) (cs:=ys) 0 h2 (fun i d hi=>by rw[Nat.zero_add];exact y3 i d hi);have hrun:=n7 (P:=P) (w:=w) 9998 xs ys fs.toList 0 k l m (by simp;omega) (by omega) (by omega) g4
  (fun i k n hi hj=>by have:=i3 i k n hi hj;have hlt:=(List.getElem?_eq_some_iff.1 hi).1;have hs:i<xs.size:=(by omega);rw[←this];simp[hs])
  (fun i k n hi hj=>by have:=j3 i k n hi hj;have hlt:=(List.getElem?_eq_some_iff.1 hi).1;have hs:i<ys.size:=(by omega);rw[←this];simp[hs])
 have heq:=run_equalIn_struct (P:=P) w 9999 T xs ys (by rw[hfo];exact hu) g2;rw[hfo,hrun] at heq;have hg:=run_eqGuard_agg (P:=P) w op T x y xs ys g3;refine aP h (v:=.bool (if neg=true then !decide (l=m) else decide (l=m))) ?_ (.p _ _ (.bool _));simp only[execOp,ho,hxv,hyv];refine eo ?_;simp only[Sem.run_bind,hg,Result.andThen];subst hop;cases neg with
 |true =>
  simp only[if_true];rw[run_neq_struct,show (10000:Nat)=9999+1 from rfl,heq];rfl
 |false =>
  simp only[Bool.false_eq_true,if_false];rw[run_eql_struct,show (10000:Nat)=9999+1 from rfl,heq];rfl
end
end Go.Proofs.Ytdchbabgopglcaa.M
