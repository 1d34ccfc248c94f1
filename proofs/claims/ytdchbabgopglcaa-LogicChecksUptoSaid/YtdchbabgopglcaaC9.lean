/- Lemmas. -/
import Derived.Test.YtdchbabgopglcaaC8
import Derived.ChangeKeysEq
import Derived.Laws.IdiomStrings
import Derived.Lib.AppendZeros
namespace Go.Proofs.Ytdchbabgopglcaa.M
open Go.RowKit
section
variable {P:Program}{w0:World}{base:Bs}{nt:Nat}{loc:aU}{s t:St}{a:Act}{w:World}{o:Oper}{id:Nat}{d:AV}
theorem De {T e:TypeId}{n:Nat}{parts:Array (Nat×Operand)}{l:List D}{sz:Nat}{ie:TypeInfo} (h:Rel w0 base nt loc s a w) (ho:o.op = .build T parts) (hz:ZOk P T l true sz) (hu:P.underlying T=some (.array n e)) (hi:P.info? e=some ie)
  (he:ev (.build (l.map .p) (parts.toList.map fun p:Nat×Operand=>(p.1*ie.size,ie.size,opd P (some e) p.2))) id s=some (true,d,t)):aK P w0 base nt o a w t d:=by
 simp only[ev] at he;split at he
 case h_2=>cases he
 rename_i m hm;simp only[Option.some.injEq,Prod.mk.injEq,true_and] at he;obtain⟨rfl,rfl⟩:=he;obtain⟨i,z,g1,g2,g3,g4,g5,g6⟩:=hz;obtain⟨k1,k2⟩:=gX g4;have hzc:RVs w (NB base s.m loc w) loc z.cells (l.map .p):=by
  refine⟨by simpa using k1,fun e he => ?_,fun j e hj => ?_⟩
  ·simp only[List.mem_map] at he;obtain⟨q,hq,rfl⟩:=he;obtain⟨j,hj⟩:=List.getElem?_of_mem hq;exact (k2 j q hj).1
  ·simp only[List.getElem?_map,Option.map_eq_some_iff] at hj;obtain⟨q,hq,rfl⟩:=hj;have:=(k2 j q hq).2 w (NB base s.m loc w);exact .p _ _ (by simpa using this)
 obtain⟨cs',q1,q2⟩:=kQ h (fun i=>some (i*ie.size,ie.size)) parts.toList _ z.cells _ m (by simp) (fun k i x off sz X h1 h2=>by
  simp only[List.getElem?_map,h1,Option.map_some,Option.some.injEq,Prod.mk.injEq] at h2;obtain⟨rfl,rfl,rfl⟩:=h2;exact⟨rfl,h.opd (some e) x⟩) hzc hm
 have hb:P.built T (parts.map fun (i,x)=>(i,a.eval x)).toList=some cs':=by
  unfold Program.built;simp only[g1,hu,g2,hi];rw[Array.toList_map];exact q1
 refine aP h (v:=.agg cs') ?_ (pO q2.1 q2.2.1 q2.2.2);simp only[execOp,ho];exact eo (run_build w T _ cs' hb)
theorem n9 {e:TypeId}{q:IntKind} (hu:P.underlying e=some (.int q)) (dd:Nat) (xs ys:Array Value):∀(k o:Nat) (ks:List IntKind) (l m:List Int),l.length=k→m.length=k→ks.length=k →
  (∀i q n,ks[i]? = some q→l[i]? = some n→xs[o+i]? = some (.int q n))→(∀i q n,ks[i]? = some q→m[i]? = some n→ys[o+i]? = some (.int q n)) →
  (Op.eqItems (dd+1) e 1 xs ys (List.range' o k)).run P w = .ok (decide (l=m)) w
 |0,o,[],[],[],_,_,_,_,_=>by simp[Op.eqItems]
 |k+1,o,kk::ks,x::l,y::m,h1,h2,h3,hx,hy=>by
  have ih:=n9 hu dd xs ys k (o+1) ks l m (by simpa using h1) (by simpa using h2) (by simpa using h3)
   (fun i q n hi hj=>by have:=hx (i+1) q n (by simpa using hi) (by simpa using hj);rwa[show o+(i+1)=o+1+i by omega] at this)
   (fun i q n hi hj=>by have:=hy (i+1) q n (by simpa using hi) (by simpa using hj);rwa[show o+(i+1)=o+1+i by omega] at this)
  have hag:(isAgg e).run P w = .ok false w:=by unfold isAgg;simp only[Sem.run_bind,run_underlying hu,Result.andThen];rfl
  have px:(part e xs (o*1)).run P w = .ok (.int kk x) w:=by
   have:=hx 0 kk x rfl rfl;simp only[Nat.add_zero] at this;simp[part,hag,this]
  have py:(part e ys (o*1)).run P w = .ok (.int kk y) w:=by
   have:=hy 0 kk y rfl rfl;simp only[Nat.add_zero] at this;simp[part,hag,this]
  have pe:=run_equalIn_int (P:=P) w dd e kk q x y hu;rw[List.range'_succ];simp only[Op.eqItems,Sem.run_bind,px,py,pe,Result.andThen_ok];by_cases hxy:x=y
  ·subst hxy;simp[ih]
  ·simp[hxy]
 |0,_,_::_,_,_,_,_,h,_,_=>by simp at h
 |0,_,[],_::_,_,h,_,_,_,_=>by simp at h
 |0,_,[],[],_::_,_,h,_,_,_=>by simp at h
 |_+1,_,[],_,_,_,_,h,_,_=>by simp at h
 |_+1,_,_::_,[],_,h,_,_,_,_=>by simp at h
 |_+1,_,_::_,_::_,[],_,h,_,_,_=>by simp at h
theorem od {T e Y:TypeId}{n:Nat}{op:BinOp}{neg:Bool}{x y:Operand} (h:Rel w0 base nt loc s a w) (ho:o.op = .binOp op T x y Y) (hop:op=if neg then .neq else .eql) (hu:P.underlying T=some (.array n e)) (hT:mz P T e=true){U W:Option TypeId}
  (he:ev (.eqs n neg (opd P U x) (opd P W y)) id s=some (true,d,t)):aK P w0 base nt o a w t d:=by
 have hx:=h.opd (P:=P) U x;have hy:=h.opd (P:=P) W y;simp only[ev] at he;split at he
 case h_2=>cases he
 rename_i la lb hk hk';split at he
 case h_2=>cases he
 rename_i k l k' m h1 h2;split at he
 case isFalse=>cases he
 rename_i hc;obtain⟨rfl,hlen⟩:=hc;simp only[Option.some.injEq,Prod.mk.injEq,true_and] at he;obtain⟨rfl,rfl⟩:=he;rw[hk] at hx;rw[hk'] at hy;have hx:=hx.inv;have hy:=hy.inv;generalize hxv:a.eval x=v at hx;generalize hyv:a.eval y=u at hy;cases hx with
 |agg xs _ x1 x2 x3 =>
 cases hy with
 |agg ys _ y1 y2 y3 =>
 simp only[mz,Bool.and_eq_true,Bool.not_eq_true',beq_iff_eq] at hT;obtain⟨⟨⟨g3,g4⟩,g5⟩,g6⟩:=hT;obtain⟨ie,hie⟩:=Option.isSome_iff_exists.1 g5;obtain⟨q,hq⟩:∃q,P.underlying e=some (.int q):=by
  split at g6
  ·exact⟨_,‹_›⟩
  ·cases g6
 obtain⟨i1,i2,i3⟩:=ic (w:=w) (N:=NB base s.m loc w) (cs:=xs) 0 h1 (fun i d hi=>by rw[Nat.zero_add];exact x3 i d hi);obtain⟨j1,j2,j3⟩:=ic (w:=w) (N:=NB base s.m loc w) (cs:=ys) 0 h2 (fun i d hi=>by rw[Nat.zero_add];exact y3 i d hi);have hrun:=n9 (P:=P) (w:=w) hq 9998 xs ys n 0 k l m (by omega) (by omega) (by omega)
  (fun i k n hi hj=>by have:=i3 i k n hi hj;have hlt:=(List.getElem?_eq_some_iff.1 hi).1;have hs:i<xs.size:=(by omega);rw[←this];simp[hs])
  (fun i k n hi hj=>by have:=j3 i k n hi hj;have hlt:=(List.getElem?_eq_some_iff.1 hi).1;have hs:i<ys.size:=(by omega);rw[←this];simp[hs])
 have heq:=run_equalIn_array (P:=P) (w:=w) 9999 (t:=T) xs ys hu hie;rw[g4,List.range_eq_range',hrun] at heq;have hg:=run_eqGuard_agg (P:=P) w op T x y xs ys g3;refine aP h (v:=.bool (if neg=true then !decide (l=m) else decide (l=m))) ?_ (.p _ _ (.bool _));simp only[execOp,ho,hxv,hyv];refine eo ?_;simp only[Sem.run_bind,hg,Result.andThen];subst hop;cases neg with
 |true =>
  simp only[if_true];rw[run_neq_struct,show (10000:Nat)=9999+1 from rfl,heq];rfl
 |false =>
  simp only[Bool.false_eq_true,if_false];rw[run_eql_struct,show (10000:Nat)=9999+1 from rfl,heq];rfl
theorem Df {T E:TypeId}{n0:Nat}{ag:Bool}{x:Operand}{lo hi mx:Option Operand} (h:Rel w0 base nt loc s a w) (ho:o.op = .slice T x lo hi mx) (hu:P.underlying T=some (.array n0 E)) (hT:bM P E ag 1) (hm:mx.isSome=true→hi.isSome=true){U:Option TypeId}
  (he:ev (.sliceA n0 (opd P U x) (lo.map (opd P none)) (hi.map (opd P none)) (mx.map (opd P none))) id s=some (true,d,t)):aK P w0 base nt o a w t d:=by
 have hx:=h.opd (P:=P) U x;have run:∀b p l n m,a.eval x = .pointer (some ⟨b,p,none⟩)→(Instr.sliceBounds false n0 n0 (lo.map a.eval) (hi.map a.eval) (mx.map a.eval)).run P w = .ok (l,n,m) w →
   (execOp a.eval o).run P w = .ok (.value (.slice (some (if m=l then ⟨b,p,none⟩ else ⟨b,p+l,none⟩)) (n-l) (m-l))) w:=by
  intro b p l n m hv hr;simp[execOp,ho,hv,Instr.sliceAt,run_underlying hu,Instr.sureAddr,hr,cL hT,de]
 simp only[ev] at he;split at he
 case h_2=>cases he
 rename_i i off hk;split at he
 case h_2=>cases he
 rename_i T' osz v frz hob;split at he
 case isFalse=>cases he
 rename_i hfit;split at he
 case h_2=>cases he
 rename_i c l n hb;simp only[Option.some.injEq,Prod.mk.injEq] at he;obtain⟨hc,rfl,rfl⟩:=he;rw[hk] at hx;generalize hxv:a.eval x=xv at hx;cases hx with
 |ptr L _ _ _ hL hn =>
 obtain⟨m,hr,h1,h2,h3',h4'⟩:=dX (P:=P) false h (Nat.le_refl n0) hm hc hb;obtain⟨L',hL',hok⟩:=h.objs i _ hob;rw[hL] at hL';cases hL';obtain⟨cc,fr,k1,k2,k3,-⟩:=hok.at_ hn;obtain⟨m1,-⟩:=k3;refine aP h (run _ _ _ _ _ hxv hr) ?_;by_cases hml:m=l
 ·rw[show n-l=0 by omega,show m-l=0 by omega];exact .arrEmp L _ _ _ hL
 ·rw[if_neg hml];simp only at m1;rw[show L.o+(0*L.sz+off)+l=L.o+(off+l) by omega];exact .arr L _ _ _ _ hL hn (by omega) (by omega) (by omega)
theorem Dg {S T e:TypeId}{x:Operand}{U:Option TypeId} (h:Rel w0 base nt loc s a w) (ho:o.op = .convert S T x) (hS:P.underlying S=some .string) (hT:P.underlying T=some (.slice e)) (hE:P.underlying e=some (.int .u8))
  (he:ev (.bytS e (opd P U x)) id s=some (true,d,t)):aK P w0 base nt o a w t d:=by
 have hx:=h.opd (P:=P) U x;simp only[ev] at he;split at he
 case h_2=>cases he
 rename_i hid;split at he
 case h_2=>cases he
 rename_i q hk;simp only[Option.some.injEq,Prod.mk.injEq,decide_eq_true_eq] at he;obtain⟨hq,rfl,rfl⟩:=he;rw[hk] at hx;have hx:=hx.inv;generalize hxv:a.eval x=v at hx;cases hx with
 |str q =>
 have hrun:=run_bytes_of_string (P:=P) w S T e q hS hT hE;have hsz:q.data.toList.length=q.size:=by simp
 have hge:=grownCap_ge w q.size 0 e;have hle:grownCap w q.size 0 e≤9223372036854775807:=grownCap_le_maxLen w q.size 0 e (by rw[←hsz];exact hq);generalize hcap:grownCap w q.size 0 e=cap at hrun hge hle;have hbs:(bytesRow q cap).size=cap:=by
  unfold bytesRow;rw[Array.size_append,Array.size_map,Array.size_replicate];have:q.data.size=q.size:=rfl;omega
 have hdrew:Rel w0 base nt loc s a w.drew:=h.later (Below.drew (Below.refl _ _));obtain⟨loc',hl',hrel⟩:=hdrew.allocM (T:=e) (c:=bytesRow q cap) (k:=.row (q.data.toList.map fun b => .int .u8 b.toNat)) (sz:=1) hid (fr:=((bytesRow q cap).size,(bytesRow q cap).size+1)) (fun x hx=>by
   have:¬ ((bytesRow q cap).size≤x):=by omega
   simp[this]) ⟨by rw[hbs,List.length_map,hsz];omega,fun y hy=>by
   obtain⟨b,-,rfl⟩:=List.mem_map.1 hy
   rfl,fun i y j d hi hj=>by
   rw[List.getElem?_map,Option.map_eq_some_iff] at hi;obtain⟨b,hb,rfl⟩:=hi;have hj0:j=0:=by
    have:=(List.getElem?_eq_some_iff.1 hj).1;simpa[D.cells] using this
   subst hj0;simp only[D.cells,List.getElem?_cons_zero,Option.some.injEq] at hj;subst hj;refine⟨rfl,?_⟩;have hi2:i<q.data.size:=by have:=(List.getElem?_eq_some_iff.1 hb).1;simpa using this
   have:=bytesRow_at q cap i hi2;rw[show 0+(i*1+0)=i by omega,Array.getD_eq_getD_getElem?,this,Option.getD_some];have hb2:q.data[i]=b:=by
    have:=(List.getElem?_eq_some_iff.1 hb).2;simpa using this
   rw[hb2];exact .int _ _⟩
 refine⟨.slice (some ⟨w.heap.size,0,none⟩) q.size cap,_,loc',.inl ?_,hrel,?_⟩
 ·simp only[execOp,ho,hxv];exact eo hrun
 ·have:=RV.slice (w:=w.drew.alloc (.cells (bytesRow q cap) e ((bytesRow q cap).size,(bytesRow q cap).size+1))) (N:=NB base (upd s.m id (some ⟨e,1,.row (q.data.toList.map fun b => .int .u8 b.toNat),false⟩)) loc' (w.drew.alloc (.cells (bytesRow q cap) e ((bytesRow q cap).size,(bytesRow q cap).size+1)))) (loc:=loc') _ id 0 q.size cap hl' rfl (by omega) (by omega) (by rw[hbs];simp only;omega);rw[hsz];simpa using this
theorem oe:∀{l:List D}{b:List UInt8},gD l=some b→b.length=l.length∧∀(i:Nat) (e:D),l[i]? = some e→∃x:UInt8,b[i]? = some x∧e=D.int .u8 (x.toNat:Int)
 |[],b,h=>by simp only[gD,Option.some.injEq] at h;subst h;exact⟨rfl,fun i e he=>by simp at he⟩
 |d::l,b,h=>by
  unfold gD at h;split at h
  ·rename_i heq;cases heq
  ·rename_i n l' heq;injection heq with h1 h2
   subst h1 h2;split at h
   case isFalse=>cases h
   rename_i hn;simp only[Option.map_eq_some_iff] at h;obtain⟨b',hb',rfl⟩:=h;obtain⟨k1,k2⟩:=oe hb';refine⟨by simp[k1],fun i e he => ?_⟩
   match i,he with
   |0,he =>
    simp only[List.getElem?_cons_zero,Option.some.injEq] at he;subst he;refine⟨UInt8.ofNat n.toNat,rfl,?_⟩;congr 1
    have:n.toNat<256:=by omega
    rw[UInt8.toNat_ofNat',Nat.mod_eq_of_lt (by simpa using this)];omega
   |i+1,he=>simpa using k2 i e (by simpa using he)
  ·cases h
theorem Dh {S T e:TypeId}{x:Operand}{U:Option TypeId} (h:Rel w0 base nt loc s a w) (ho:o.op = .convert S T x) (hS:P.underlying S=some (.slice e)) (hT:P.underlying T=some .string) (hE:P.underlying e=some (.int .u8))
  (he:ev (.strB (opd P U x)) id s=some (true,d,t)):aK P w0 base nt o a w t d:=by
 have hx:=h.opd (P:=P) U x;simp only[ev] at he;split at he
 case h_2=>cases he
 rename_i ys hys;split at he
 case h_2=>cases he
 rename_i b hb;simp only[Option.some.injEq,Prod.mk.injEq,true_and] at he;obtain⟨rfl,rfl⟩:=he;obtain⟨hbl,hbe⟩:=oe hb;have fin:∀p n cap,a.eval x = .slice p n cap→n=b.length→(p=none→b=[])→(∀ad,p=some ad→∀j (hj:j<b.length),w.cell? (ad.add j)=some (.int .u8 (b[j].toNat:Int)))→aK P w0 base nt o a w s (.p (.str b)):=by
  intro p n cap hv hn hp hc;subst hn;refine aP h (v:=.string ⟨b.toArray⟩) ?_ (.p _ _ ?_)
  ·simp only[execOp,ho,hv];refine eo ?_;cases p with
   |some ad=>exact run_convert_bytes_back w S T e ad cap b hS hE hT (hc ad rfl)
   |none =>
    rw[run_convert_bytes_string w S T e none _ cap hS hE hT];rw[hp rfl];rfl
  ·have:=V.str (w:=w) (N:=NB base s.m loc w) ⟨b.toArray⟩;simpa using this
 have block:∀(bb o0 n cap:Nat) (c:Array Value) (T':TypeId) (fr:Nat×Nat),a.eval x = .slice (some ⟨bb,o0,none⟩) n cap→w.heap[bb]? = some (.cells c T' fr)→ys.length=n→o0+n≤c.size →
   (∀p e,ys[p]? = some e→V w (NB base s.m loc w) (c.getD (o0+p) undef) e)→aK P w0 base nt o a w s (.p (.str b)):=by
  intro bb o0 n cap c T' fr hv hheap hn hfit hV;refine fin _ n cap hv (by omega) (fun hh=>by cases hh) fun ad had j hj => ?_
  cases had;rw[de,dn hheap (by omega)];have hj':j<ys.length:=by omega
  obtain⟨y,hy1,hy2⟩:=hbe j (ys[j]) (by simp[hj']);have:=hV j (ys[j]) (by simp[hj']);rw[hy2] at this;have hbj:b[j]=y:=by
   have:=(List.getElem?_eq_some_iff.1 hy1).2;exact this
  rw[hbj];generalize c.getD (o0+j) undef=vv at this ⊢;generalize hdd:D.int .u8 (y.toNat:Int)=dd at this;cases this with
  |int k n=>injection hdd with h1 h2;subst h1 h2;rfl
  |_=>cases hdd
 generalize hX:(opd P U x).ev s.r=X at hx hys;generalize hxv:a.eval x=v at hx;cases hx with
 |p _ dd hV =>
  cases dd<;>simp only[bx] at hys<;>try cases hys
  rename_i T1 sz1 l1;split at hys
  case isFalse=>cases hys
  rename_i hsz1;simp only[Option.some.injEq] at hys;subst hys hsz1;cases hV with
  |empty ad cap =>
   have hb0:b=[]:=List.eq_nil_of_length_eq_zero hbl;exact fin ad 0 cap hxv (by rw[hb0];rfl) (fun _=>hb0) (fun ad' _ j hj=>by rw[hb0] at hj;simp at hj)
  |list bb o0 cap _ _ _ c fr g1 g2 g3 g4 g5 g6 g7 =>
   obtain⟨T',g1,-⟩:=g1;rcases Nat.eq_zero_or_pos l1.length with h0 | h0
   ·have hb0:b=[]:=List.eq_nil_of_length_eq_zero (by omega);rw[h0] at hxv;exact fin _ 0 cap hxv (by rw[hb0];rfl) (fun _=>hb0) (fun ad' _ j hj=>by rw[hb0] at hj;simp at hj)
   refine block bb o0 _ cap c T' fr hxv g1 rfl ?_ fun p e0 hp => ?_
   ·have hlast:l1[l1.length-1]? = some (l1[l1.length-1]'(by omega)):=by simp
    obtain⟨y,-,hy2⟩:=hbe _ _ hlast;have:=g6 _ _ 0 _ hlast (by rw[hy2];rfl);omega
   ·obtain⟨y,-,hy2⟩:=hbe p e0 hp;have:=g7 p e0 0 e0 hp (by rw[hy2];rfl);simpa using this
 |slice L i off n cap h1 h2 h3 h4 h5 =>
  simp only[bx] at hys;split at hys
  case h_2=>cases hys
  rename_i T1 sz1 l1 f1 hm;split at hys
  case isFalse=>cases hys
  rename_i hcond;obtain⟨hs1,hfit⟩:=hcond;simp only[Option.some.injEq] at hys;obtain⟨L',hL',hok⟩:=h.objs i _ hm;rw[h1] at hL';cases hL';obtain⟨c,fr,k1,k2,k3,-⟩:=hok.at_ h2;obtain⟨m1,m2,m3⟩:=k3;have hsz:=hok.sz;dsimp only at hsz m1 m2 m3 k1;subst hs1;rw[hsz,Nat.mul_one] at hxv;have hlen:ys.length=n:=by rw[←hys];simp;omega
  refine block L.b (L.o+off) n cap c T1 fr hxv k1 hlen (by omega) fun p e0 hp => ?_
  have hp':l1[off+p]? = some e0:=by
   rw[←hys] at hp;have hpn:p<n:=by have:=(List.getElem?_eq_some_iff.1 hp).1;simp at this;omega
   rwa[List.getElem?_take_of_lt hpn,List.getElem?_drop] at hp
  obtain⟨y,-,hy2⟩:=hbe p e0 hp;have:=(m3 (off+p) e0 0 e0 hp' (by rw[hy2];rfl)).2;rw[show L.o+((off+p)*1+0)=L.o+off+p by omega] at this;exact this
 |sliceEmp L i off ad h1 =>
  have hb0:b=[]:=by
   simp only[bx] at hys;split at hys
   ·split at hys
    ·simp only[Option.some.injEq,List.take_zero] at hys;subst hys;exact List.eq_nil_of_length_eq_zero hbl
    ·cases hys
   ·cases hys
  exact fin ad 0 0 hxv (by rw[hb0];rfl) (fun _=>hb0) (fun ad' _ j hj=>by rw[hb0] at hj;simp at hj)
 |nils T1 sz1 =>
  have hb0:b=[]:=by
   simp only[bx] at hys;split at hys
   ·simp only[Option.some.injEq] at hys;subst hys;exact List.eq_nil_of_length_eq_zero hbl
   ·cases hys
  exact fin none 0 0 hxv (by rw[hb0];rfl) (fun _=>hb0) (fun ad' _ j hj=>by rw[hb0] at hj;simp at hj)
 |_=>simp[bx] at hys
end
section
variable {P:Program}{w0:World}{base:Bs}{nt:Nat}{loc:aU}{s t:St}{a:Act}{w:World}{o:Oper}{id:Nat}{d:AV}
theorem RH {f:FuncId}{args:List Opd}{x:Option (Bool×AV×St)} (h:ev (.call f args) id s=x):x=none:=by
 subst h;rfl
theorem RI {fs:List FuncId}{x:Opd}{args:List Opd}{y:Option (Bool×AV×St)} (h:ev (.callv fs x args) id s=y):y=none:=by
 subst h;rfl
theorem mu (h:Rel w0 base nt loc s a w):∀(l:List Operand) (ds:List D),ck s.r s.m (l.map (opd P none))=some ds→l.length=ds.length∧∀(i:Nat) (e:D),ds[i]? = some e→∃x,l[i]? = some x∧V w (NB base s.m loc w) (a.eval x) e
 |[],ds,hd=>by
  simp only[List.map_nil,ck,Option.some.injEq] at hd;subst hd;exact⟨rfl,fun i e he=>by simp at he⟩
 |x::l,ds,hd=>by
  simp only[List.map_cons,ck] at hd;split at hd
  case h_2=>cases hd
  rename_i d' ds' h1 h2;simp only[Option.some.injEq] at hd;subst hd;obtain⟨g1,g2⟩:=mu h l ds' h2;refine⟨by simp[g1],fun i e he => ?_⟩
  match i,he with
  |0,he =>
   simp at he;subst he;exact⟨x,rfl,fE h h1 (h.opd (P:=P) none x)⟩
  |i+1,he=>simpa using g2 i e (by simpa using he)
theorem RJ {fn:Fn}{x y:Array Operand} (h:Rel w0 base nt loc s a w) (ho:o.op = .makeFunc fn x y) (he:ev (.fnv fn (x.toList.map (opd P none)) (y.toList.map (opd P none))) id s=some (true,d,t)):aK P w0 base nt o a w t d:=by
 simp only[ev] at he;split at he
 case h_2=>cases he
 rename_i l k hl hk;simp only[Option.some.injEq,Prod.mk.injEq,true_and] at he;obtain⟨rfl,rfl⟩:=he;obtain⟨g1,g2⟩:=mu (P:=P) h _ _ hl;obtain⟨g3,g4⟩:=mu (P:=P) h _ _ hk;have get:∀(z:Array Operand) (i:Nat) (q:Operand),z.toList[i]? = some q→(z.map a.eval).getD i undef=a.eval q:=fun z i q hq=>by
  have:z[i]? = some q:=by simpa using hq
  simp[this]
 refine aP h (v:=.func fn (x.map a.eval) (y.map a.eval)) (by simp[execOp,ho,Instr.makeFunc]) (.p _ _ (.fn _ _ _ _ _ (by simpa using g1) (by simpa using g3) (fun i e he => ?_) (fun i e he => ?_)))
 ·obtain⟨q,hq,hv⟩:=g2 i e he;rw[get x i q hq];exact hv
 ·obtain⟨q,hq,hv⟩:=g4 i e he;rw[get y i q hq];exact hv
theorem RK {T E TN:TypeId}{c:Call}{kn:IntKind}{x y:Operand}{l:List D}{ag:Bool}{sz bytes:Nat}{ti:TypeInfo}{U W:Option TypeId} (h:Rel w0 base nt loc s a w) (ho:o.op = .call c) (hc:c.callee = .builtin .append) (ha:c.args.toList=[x,y]) (hT:c.argTypes.toList=[T,TN])
  (hu:P.underlying T=some (.slice E)) (hun:P.underlying TN=some (.int kn)) (hz:ZOk P E l ag sz) (hi:P.info? E=some ti) (hb:ti.bytes=bytes) (he:ev (.appZ E sz bytes (if ag then .agg l else l.headD default) (opd P U x) (opd P W y)) id s=some (true,d,t)):aK P w0 base nt o a w t d:=by
 have ha':c.args = #[x,y]:=by rw[←Array.toList_inj];exact ha
 have hT':c.argTypes = #[T,TN]:=by rw[←Array.toList_inj];exact hT
 have hx:=h.opd (P:=P) U x;simp only[ev] at he;split at he
 case h_2=>cases he
 rename_i hid;split at he
 case h_2=>cases he
 rename_i T' sz' k hk hn;split at he
 case isFalse=>cases he
 rename_i hcc;obtain⟨rfl,hs0⟩:=hcc;simp only[Option.some.injEq,Prod.mk.injEq,decide_eq_true_eq] at he;obtain⟨⟨h0,h2,h3⟩,rfl,rfl⟩:=he;obtain⟨k1,hy⟩:=cY h hn;obtain⟨q,rfl⟩:=Int.eq_ofNat_of_zero_le (Int.le_of_lt h0);obtain⟨z,hr,hsz,hl,hcell,-⟩:=gQ (w:=w) hz;have hcl:(if ag then D.agg l else l.headD default).cells=l:=by
  cases ag with
  |true=>rfl
  |false =>
   have:sz'=1:=by obtain⟨_,_,_,_,_,_,_,h6⟩:=hz;exact h6 rfl
   match l,hl with
   |[e],_ =>
    have:=(hcell 0 e rfl).1;cases e<;>first | rfl | simp[D.one] at this
   |[],hl=>simp at hl;omega
   |_::_::_,hl=>simp at hl;omega
 have hTy:bM P E ag sz':=by obtain⟨_,_,_,_,h3,_⟩:=hz;exact h3
 obtain⟨i',z',g1,g2,g3,_⟩:=hz;rw[hi] at g1;cases g1;have hzz:z'=z:=by
  have:(zeroValue E).run P w = .ok z' w:=by simp[zeroValue,typeInfo,hi,g2]
  rw[this] at hr;injection hr
 subst hzz;have his:ti.size=sz':=by obtain⟨_,i2,_,_,h3,h4⟩:=hTy;rw[hi] at h3;cases h3;exact h4
 rw[hk] at hx;generalize hxv:a.eval x=v at hx;cases hx;have hq:0<q:=by omega
 have hr:=Lib.run_append_nil_zeros (P:=P) w T TN o.type E ti z' k1 kn hu hun hi g2 q hq (by omega) (by omega) (by
  rw[hb];have:bytes*q=q*bytes:=Nat.mul_comm _ _;have h2':((bytes*q:Nat):Int)≤140737488355328:=by rw[Int.natCast_mul];exact h2
  omega)
 have hge:=grownCap_ge w q 0 E;have hle:grownCap w q 0 E≤maxLen:=grownCap_le_maxLen w q 0 E (by unfold maxLen;omega);unfold maxLen at hle;have hmul:=Nat.mul_le_mul_right sz' hge;have hdrew:Ext w w.drew:=Below.drew (Below.refl _ _);generalize hcv:Builtin.zeroCells z'.cells q++Builtin.zeroCells z'.cells (grownCap w q 0 E-q)=cv at hr;have hcs:cv.size=grownCap w q 0 E*sz':=by
  rw[←hcv,Array.size_append,size_zeroCells,size_zeroCells,hsz,←Nat.add_mul];congr 1;omega
 obtain⟨loc',hl',hrel⟩:=(h.later hdrew).alloc (T:=E) (c:=cv) (k:=.row (List.replicate q (if ag then D.agg l else l.headD default))) (sz:=sz') hid (by
  refine⟨by simp;omega,fun e he => ?_,fun i e j d hi hj => ?_⟩
  ·rw[List.eq_of_mem_replicate he,hcl,hl]
  ·have hiq:i<q:=by have:=(List.getElem?_eq_some_iff.1 hi).1;simpa using this
   have he:=List.eq_of_mem_replicate (List.mem_of_getElem? hi);rw[he,hcl] at hj;have hjl:j<sz':=by have:=(List.getElem?_eq_some_iff.1 hj).1;omega
   obtain⟨g1,g2⟩:=hcell j d hj;refine⟨g1,?_⟩;have hlt:i*sz'+j<q*sz':=by
    have:=Nat.mul_le_mul_right sz' (show i+1≤q by omega);rw[Nat.add_mul] at this;omega
   have hmod:(i*sz'+j) % sz'=j:=by rw[Nat.add_comm,Nat.add_mul_mod_self_right];exact Nat.mod_eq_of_lt hjl
   have:=g2 w.drew (NB base s.m loc w);have hget:cv.getD (i*sz'+j) undef=z'.cells.getD j undef:=by
    rw[←hcv];simp only[Array.getD_eq_getD_getElem?];rw[Array.getElem?_append_left (by rw[size_zeroCells,hsz];exact hlt)];simp[Builtin.zeroCells,hsz,hlt,hmod,hjl]
   rw[Nat.zero_add,hget];exact this)
 have hy':a.eval y = .int k1 (q:Int):=hy;have hr':(Builtin.append_ #[T,TN] o.type #[a.eval x,a.eval y]).run P w = .ok (.slice (some ⟨w.heap.size,0,none⟩) q (grownCap w q 0 E)) (w.drew.alloc (.cells cv E)):=by
  rw[hxv,hy'];exact hr
 refine⟨.slice (some ⟨w.heap.size,0,none⟩) q (grownCap w q 0 E),w.drew.alloc (.cells cv E),loc',.inl ?_,hrel,?_⟩
 ·simp[execOp,ho,resolve,hc,ha',hT',invoke,builtin,hr']
 ·have:=RV.slice (w:=w.drew.alloc (.cells cv E)) (N:=NB base (upd s.m id (some ⟨E,sz',.row (List.replicate q (if ag then D.agg l else l.headD default)),false⟩)) loc' (w.drew.alloc (.cells cv E))) _ id 0 q (grownCap w q 0 E) hl' rfl hge (by omega) (by simp[hcs]);simpa using this
theorem sim (h:Rel w0 base nt loc s a w){ao:AOp} (hc:aop P o=some ao) (hnc:∀T sz b y,ao≠.copyS T sz b y) (hnd:∀x y,ao≠.copyA x y) (hne:∀sz z x,ao≠.clearS sz z x) (he:ev ao id s=some (true,d,t)):aK P w0 base nt o a w t d:=by
 cases hop:o.op<;>simp only[aop,hop] at hc
 case move x=>cases hc;exact np h (.inl hop) he
 case assign x=>cases hc;exact np h (.inr hop) he
 case nilCheck x=>cases hc;exact yz h hop he
 case pick c x y=>cases hc;exact yA h hop he
 case alloc T =>
  split at hc
  ·rename_i l ag sz hz;split at hc
   ·rename_i hok;cases hc;simp only[re,Bool.and_eq_true,beq_iff_eq,List.all_eq_true] at hok;exact QJ h hop (fA hz) he hok.1 hok.2
   ·cases hc
  ·cases hc
 case box T x =>
  split at hc
  ·cases hc;exact QK h hop he
  ·cases hc
 case build T parts =>
  split at hc
  case h_3=>cases hc
  ·rename_i l sz fs hz hu;split at hc
   case h_2=>cases hc
   rename_i places hpl;split at hc
   case h_2=>cases hc
   rename_i ps hps;cases hc;exact BO h hop (fA hz) hu hpl hps he
  ·rename_i l sz n e hz hu;split at hc
   case h_2=>cases hc
   rename_i ie hi;cases hc;exact De h hop (fA hz) hu hi he
 case buildSlice T n parts =>
  split at hc
  case h_2=>cases hc
  rename_i e hu;split at hc
  case h_2=>cases hc
  rename_i l ag sz hz;split at hc
  case isFalse=>cases hc
  rename_i hn;cases hc;exact BS h hop hu (fA hz) hn.1 hn.2 he
 case load T x =>
  split at hc
  case h_2=>cases hc
  rename_i ag sz hT;split at hc
  case isFalse=>cases hc
  rename_i hs;cases hc;exact yC h hop (dv hT) (fun e=>by simpa[e] using hs) he
 case store T x v =>
  split at hc
  case h_2=>cases hc
  rename_i ag sz hT;cases hc;exact Tc h hop (dv hT) he
 case binOp op T x y Y =>
  split at hc
  ·cases hc;exact lC h hop (by simp) he
  ·cases hc;exact lC h hop (by simp) he
  ·rename_i hu;cases hc;exact lC h hop (fun _=>hu) he
  ·rename_i fs hu;split at hc
   case isFalse=>cases hc
   rename_i hi;split at hc
   ·cases hc;exact n8 h hop (by simp) hi hu he
   ·cases hc;exact n8 h hop (by simp) hi hu he
   ·cases hc
  ·split at hc
   ·cases hc;cases he
   ·cases hc;cases he
   ·cases hc
  ·rename_i n e hu;split at hc
   case isFalse=>cases hc
   rename_i hi;split at hc
   ·cases hc;exact od (neg:=false) h hop (by simp) hu hi he
   ·cases hc;exact od (neg:=true) h hop (by simp) hu hi he
   ·cases hc
  ·cases hc
 case unOp op T x=>cases hc;exact FP h hop he
 case convert S T x =>
  split at hc
  ·rename_i hS hT;cases hc;exact FQ h hop hS hT he
  ·rename_i hS hT;split at hc
   ·rename_i hE;cases hc;exact Dh h hop hS hT hE he
   ·cases hc
  ·rename_i hS hT;split at hc
   ·rename_i hE;cases hc;exact Dg h hop hS hT hE he
   ·cases hc
  ·cases hc
 case makeSlice T l c =>
  split at hc
  case h_2=>cases hc
  rename_i e hu;split at hc
  case h_2=>cases hc
  rename_i z ag sz i hz hi;cases hc;exact QL h hop hu (fA hz) hi rfl he
 case slice T x lo hi mx =>
  split at hc
  ·rename_i hu;split at hc
   ·cases hc
   ·rename_i hm;cases hc;have hm':mx=none:=by cases mx<;>simp at hm;rfl
    subst hm';exact QF h hop hu he
  ·rename_i e hu;split at hc
   case h_2=>cases hc
   rename_i ag sz hT;split at hc
   ·cases hc
   ·rename_i hm;cases hc;exact QG h hop hu (dv hT) (fun hh=>by cases hi<;>simp_all) he
  ·rename_i n e hu;split at hc
   case h_2=>cases hc
   rename_i ag hT;split at hc
   ·cases hc
   ·rename_i hm;cases hc;exact Df h hop hu (dv hT) (fun hh=>by cases hi<;>simp_all) he
  ·cases hc
 case fieldAddr S x f =>
  split at hc
  case h_2=>cases hc
  rename_i fs hu;split at hc
  case h_2=>cases hc
  rename_i g hf;split at hc
  case h_2=>cases hc
  rename_i ag sz hT;split at hc
  ·cases hc
  ·rename_i hz;cases hc;exact yM h hop hu hf (dv hT) (by simpa using hz) he
 case field S x f =>
  split at hc
  case h_2=>cases hc
  rename_i fs hu;split at hc
  case h_2=>cases hc
  rename_i g hf;split at hc
  case h_2=>cases hc
  rename_i ag sz hT;cases hc;exact yL h hop hu hf (dv hT) he
 case indexAddr T x i =>
  split at hc
  case h_3=>cases hc
  ·rename_i e hu;split at hc
   case h_2=>cases hc
   rename_i ag sz hT;cases hc;exact yQ h hop hu (dv hT) he
  ·rename_i n e hu;split at hc
   case h_2=>cases hc
   rename_i ag sz hT;cases hc;exact yO h hop hu (dv hT) he
 case index T x i =>
  split at hc
  ·rename_i hu;cases hc;exact yR h hop hu he
  ·rename_i n e hu;split at hc
   case h_2=>cases hc
   rename_i ag sz hT;cases hc;exact yP h hop hu (dv hT) he
  ·cases hc
 case makeFunc fn x y=>cases hc;exact RJ h hop he
 case panic x=>cases hc;cases he
 case makeInterface T x=>cases hc;cases he
 case extract x i=>cases hc;exact yS h hop he
 case call c =>
  split at hc
  ·cases hc;cases RH he
  ·cases hc;cases RI he
  ·rename_i hcal;split at hc
   ·rename_i x T hx hT;split at hc
    ·rename_i hu;cases hc;exact FU h hop hcal hx hT hu he
    ·rename_i e hu;cases hc;exact FV h hop hcal hx hT hu he
    ·cases hc
   ·cases hc
  ·rename_i hcal;split at hc
   ·rename_i x T hx hT;split at hc
    ·rename_i e hu;cases hc;exact FS h hop hcal hx hT hu he
    ·cases hc
   ·cases hc
  ·rename_i hcal;split at hc
   ·rename_i x y hx;cases hc;exact pg (mx:=true) h hop hcal hx he
   ·cases hc
  ·rename_i hcal;split at hc
   ·rename_i x y hx;cases hc;exact pg (mx:=false) h hop hcal hx he
   ·cases hc
  ·rename_i hcal;split at hc
   ·rename_i x y T TN hx hT;split at hc
    ·split at hc
     ·split at hc
      ·simp only[Option.some.injEq] at hc;rcases cQ hc with⟨_,_,_,_,_,rfl⟩ | ⟨_,_,_,_,rfl⟩
       ·cases he
       ·exact absurd rfl (hnc _ _ _ _)
      ·cases hc
     ·cases hc
    ·rename_i e kn hu hun;split at hc
     ·rename_i l ag sz i hz hi;cases hc;exact RK h hop hcal hx hT hu hun (fA hz) hi rfl he
     ·cases hc
    ·cases hc
   ·cases hc
  ·split at hc
   ·split at hc
    ·split at hc
     ·cases hc;exact absurd rfl (hnd _ _)
     ·cases hc
    ·cases hc
   ·cases hc
  ·split at hc
   ·split at hc
    ·split at hc
     ·cases hc;exact absurd rfl (hne _ _ _)
     ·cases hc
    ·cases hc
   ·cases hc
  ·cases hc
 all_goals cases hc
end
end Go.Proofs.Ytdchbabgopglcaa.M
