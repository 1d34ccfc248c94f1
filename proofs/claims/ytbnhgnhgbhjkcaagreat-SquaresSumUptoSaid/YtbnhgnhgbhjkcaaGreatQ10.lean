/- Lemmas. -/
import Derived.Test.YtbnhgnhgbhjkcaaGreatQ9
import Derived.Laws.Tables
import Derived.Laws.StructEq
import Derived.ChangeKeysEq
import Derived.Laws.IdiomStrings
namespace Go.Proofs.YtbnhgnhgbhjkcaaGreat.M
set_option linter.unusedSimpArgs false
open Go.RowKit
section
variable {P:Program}{w0:World}{base:Bs}{nt:Nat}{loc:aX}{s t:St}{a:Act}{w:World}{o:Oper}{id:Nat}{d:AV}
def mh (cs:Array Value) (off:Nat) (v:Array Value):Array Value:=v.zipIdx.foldl (fun cs (c,j)=>cs.setIfInBounds (off+j) c) cs
theorem v7:∀(v:List Value) (k off:Nat) (cs:Array Value),(v.zipIdx k).foldl (fun cs (p:Value×Nat)=>cs.setIfInBounds (off+p.2) p.1) cs=cq cs (off+k) v
 |[],_,_,_=>rfl
 |x::v,k,off,cs=>by
  rw[List.zipIdx_cons,List.foldl_cons,v7 v (k+1) off,cq];rfl
theorem iW (cs:Array Value) (off:Nat) (v:Array Value):mh cs off v=cq cs off v.toList:=by
 unfold mh;rw[←Array.foldl_toList,Array.toList_zipIdx];exact v7 v.toList 0 off cs
def RVs (w:World) (N:Nat→Prop) (loc:aX) (cs:Array Value) (l:List AV):Prop:=cs.size=l.length∧(∀e∈l,e.one=true)∧∀i e,l[i]? = some e→RV w N loc (cs.getD i undef) e
theorem RVs.put {N:Nat→Prop}{cs:Array Value}{l:List AV}{v:Value}{x:AV}{off:Nat} (h:RVs w N loc cs l) (hv:RV w N loc v x) (h1:∀e∈x.cells,e.one=true) (hle:off+x.cells.length≤l.length) :
  RVs w N loc (mh cs off v.cells) (l.take off++x.cells++l.drop (off+x.cells.length))∧v.cells.size=x.cells.length:=by
 obtain⟨g1,g2⟩:=hv.cells h1;obtain⟨k1,k2,k3⟩:=h;have hvs:v.cells.toList.length=x.cells.length:=by simp;omega
 refine⟨⟨?_,?_,?_⟩,g1⟩
 ·rw[iW,fP];simp;omega
 ·intro e he;rcases z9y.1 he with he | he
  ·rcases z9y.1 he with he | he
   ·exact k2 e (z9M he)
   ·exact h1 e he
  ·exact k2 e (z9r he)
 ·intro r e he;rw[iW];by_cases q1:r<off
  ·rw[z9A,z9v (by simp;omega),z9t q1] at he;rw[dc _ _ _ _ (.inl q1)];exact k3 r e he
  ·by_cases q2:r<off+x.cells.length
   ·rw[z9A,z9z (by simp;omega),z9v (by simp;omega)] at he;have hin:=eE v.cells.toList off cs (r-off) (by omega) (by omega);rw[show off+(r-off)=r by omega] at hin;rw[hin];have hz:v.cells.toList.getD (r-off) undef=v.cells.getD (r-off) undef:=by simp
    rw[hz];exact g2 (r-off) e (by simpa[show min off l.length=off by omega] using he)
   ·rw[z9z (by simp;omega)] at he;simp only[z96,z9N,z9s] at he;rw[show off+x.cells.length+(r-(min off l.length+x.cells.length))=r by omega] at he;rw[dc _ _ _ _ (.inr (by omega))];exact k3 r e he
theorem pK (h:Rel w0 base nt loc s a w) (place:Nat→Option (Nat×Nat)):∀(parts:List (Nat×Operand)) (ps:List (Nat×Nat×Opd)) (cs:Array Value) (l m:List AV),
  parts.length=ps.length→(∀(k i:Nat) (x:Operand) (off sz:Nat) (X:Opd),parts[k]? = some (i,x)→ps[k]? = some (off,sz,X)→place i=some (off,sz)∧RV w (NB base s.m loc w) loc (a.eval x) (X.ev s.r)) →
  RVs w (NB base s.m loc w) loc cs l→cJ l s.r ps=some m→∃cs',Instr.fill place cs (parts.map fun p=>(p.1,a.eval p.2))=some cs'∧RVs w (NB base s.m loc w) loc cs' m
 |[],[],cs,l,m,_,_,hr,hf=>by
  simp only[cJ,z99] at hf;subst hf;exact⟨cs,rfl,hr⟩
 |(i,x)::parts,(off,sz,X)::ps,cs,l,m,hl,hp,hr,hf=>by
  simp only[cJ] at hf;split at hf
  case isFalse=>cases hf
  rename_i hc;obtain⟨c1,c2,c3⟩:=hc;rw[z9C] at c3;obtain⟨p1,p2⟩:=hp 0 i x off sz X rfl rfl;subst c1;obtain⟨q1,q2⟩:=hr.put p2 c3 c2;obtain⟨cs',g1,g2⟩:=pK h place parts ps _ _ m (by simpa using hl) (fun k i x off sz X h1 h2=>hp (k+1) i x off sz X (by simpa using h1) (by simpa using h2)) q1 hf;refine⟨cs',?_,g2⟩;have hcs:=hr.1;simp only[z89,Instr.fill,p1];rw[if_neg (by simp only[z83,z8T,not_or,ne_eq,Decidable.not_not,Nat.not_lt,gt_iff_lt];omega)];exact g1
 |[],_::_,_,_,_,hl,_,_,_=>by simp at hl
 |_::_,[],_,_,_,hl,_,_,_=>by simp at hl
theorem zcC {T:TypeId}{parts:Array (Nat×Operand)}{l:List D}{sz:Nat}{fs:Array Field}{places:List (Nat×Nat)}{ps:List (Nat×Nat×Opd)} (h:Rel w0 base nt loc s a w) (ho:o.op = .build T parts) (hz:ZOk P T l true sz) (hu:P.underlying T=some (.struct fs))
  (hpl:fs.toList.mapM (fun f=>(P.info? f.type).map fun i=>(f.offset,i.size))=some places)
  (hps:parts.toList.mapM (fun p:Nat×Operand=>match places[p.1]?,fs[p.1]? with
     |some (off,sz),some f=>some (off,sz,opd P (some f.type) p.2)
     |_,_=>none)=some ps)
  (he:ev (.build (l.map .p) ps) id s=some (true,d,t)):aM P w0 base nt o a w t d:=by
 simp only[ev] at he;split at he
 case h_2=>cases he
 rename_i m hm;simp only[z99,z97,true_and] at he;obtain⟨rfl,rfl⟩:=he;obtain⟨i,z,g1,g2,g3,g4,g5,g6⟩:=hz;obtain⟨k1,k2⟩:=iB g4;have hzc:RVs w (NB base s.m loc w) loc z.cells (l.map .p):=by
  refine⟨by simpa using k1,fun e he => ?_,fun j e hj => ?_⟩
  ·simp only[z9Q] at he;obtain⟨q,hq,rfl⟩:=he;obtain⟨j,hj⟩:=z9q hq;exact (k2 j q hj).1
  ·simp only[z9B,z94] at hj;obtain⟨q,hq,rfl⟩:=hj;have:=(k2 j q hq).2 w (NB base s.m loc w);exact .p _ _ (by simpa using this)
 have hpar:∀(l1:List (Nat×Operand)) (l2:List (Nat×Nat×Opd)),l1.mapM (fun p:Nat×Operand=>match places[p.1]?,fs[p.1]? with
     |some (off,sz),some f=>some (off,sz,opd P (some f.type) p.2)
     |_,_=>none)=some l2→l1.length=l2.length∧∀(k i:Nat) (x:Operand) (off sz:Nat) (X:Opd),l1[k]? = some (i,x)→l2[k]? = some (off,sz,X)→places[i]? = some (off,sz)∧∃T,X=opd P T x:=by
  intro l1;induction l1 with
  |nil=>intro l2 hh;simp at hh;subst hh;exact⟨rfl,fun k i x off sz X h1=>by simp at h1⟩
  |cons p l1 ih =>
   intro l2 hh;simp only[List.mapM_cons,Option.bind_eq_bind,Option.bind_eq_some_iff,Option.pure_def,z99] at hh;obtain⟨y,hy,l2',hl2,rfl⟩:=hh;obtain⟨r1,r2⟩:=ih l2' hl2;refine⟨by simp[r1],fun k i x off sz X h1 h2 => ?_⟩
   match k,h1,h2 with
   |0,h1,h2 =>
    simp only[List.getElem?_cons_zero,z99] at h1 h2;subst h1;subst h2;split at hy
    ·rename_i off' sz' f e1 e2;simp only[z99,z97] at hy;obtain⟨rfl,rfl,rfl⟩:=hy;exact⟨e1,_,rfl⟩
    ·cases hy
   |k+1,h1,h2=>exact r2 k i x off sz X (by simpa using h1) (by simpa using h2)
 obtain⟨r1,r2⟩:=hpar _ _ hps;obtain⟨cs',q1,q2⟩:=pK h (places.toArray[·]?) parts.toList ps z.cells _ m r1 (fun k i x off sz X h1 h2=>by
  obtain⟨u1,T',rfl⟩:=r2 k i x off sz X h1 h2;exact⟨by simpa using u1,h.opd T' x⟩) hzc hm
 have hb:P.built T (parts.map fun (i,x)=>(i,a.eval x)).toList=some cs':=by
  unfold Program.built;simp only[g1,hu,g2,hpl];rw[Array.toList_map];exact q1
 refine aT h (v:=.agg cs') ?_ (qz q2.1 q2.2.1 q2.2.2);simp only[execOp,ho];exact eZ (run_build w T _ cs' hb)
theorem zcD {N:Nat→Prop}{c:Array Value}{sz:Nat}{l:List D}{i:Nat}{v:Value}{e:D} (h:bF w N loc c 0 sz (.row l)) (hi:i<l.length) (hv:V w N v e) (h1:e.cells.length=sz) (h2:e.cells.all D.one=true) :
  bF w N loc (mh c (i*sz) v.cells) 0 sz (.row (l.set i e))∧v.cells.size=sz:=by
 obtain⟨g1,g2⟩:=hv.cells (vz h2);obtain⟨m1,m2,m3⟩:=h;have hvs:v.cells.toList.length=sz:=by simp;omega
 have hmul:i*sz+sz≤l.length*sz:=by
  have:=z92 sz (show i+1≤l.length by omega);rw[z9F] at this;omega
 refine⟨⟨by rw[iW,fP];simpa using m1,fun q hq => ?_,fun p q r z hp hr => ?_⟩,by omega⟩
 ·rcases List.mem_or_eq_of_mem_set hq with hq | rfl
  ·exact m2 q hq
  ·exact h1
 ·rw[iW];by_cases hpj:p=i
  ·subst hpj;have hqe:q=e:=by
    rw[List.getElem?_set_self (by omega)] at hp;simpa using hp.symm
   subst hqe;have hrl:r<sz:=by have:=(z98.1 hr).1;omega
   have hin:=eE v.cells.toList (p*sz) c r (by rw[hvs];omega) (by rw[hvs];exact hrl);rw[z9o,hin];obtain⟨q1,q2⟩:=g2 r z hr;have hz:v.cells.toList.getD r undef=v.cells.getD r undef:=by simp
   rw[hz];exact⟨q1,q2⟩
  ·have hp':l[p]? = some q:=by rwa[List.getElem?_set_ne (by omega)] at hp
   obtain⟨q1,q2⟩:=m3 p q r z hp' hr;have hrl:r<sz:=by have:=(z98.1 hr).1;have:=m2 q (z90 hp');omega
   rw[dc]
   ·exact⟨q1,q2⟩
   ·rw[hvs];rcases Nat.lt_or_gt_of_ne hpj with hlt | hgt
    ·left
     have:=z92 sz (show p+1≤i by omega);rw[z9F] at this;omega
    ·right
     have:=z92 sz (show i+1≤p by omega);rw[z9F] at this;omega
theorem zcE {place:Nat→Option (Nat×Nat)}:∀(parts:List (Nat×Value)) (cs cs':Array Value),Instr.fill place cs parts=some cs'→cs'.size=cs.size:=by
 intro parts;induction parts with
 |nil=>intro cs cs' h;simp[Instr.fill] at h;rw[h]
 |cons p parts ih =>
  intro cs cs' h;obtain⟨i,v⟩:=p;simp only[Instr.fill] at h;split at h
  ·cases h
  ·split at h
   ·cases h
   ·have:=ih _ _ h;rw[this];exact (congrArg Array.size (iW cs _ v.cells)).trans (fP _ _ _)
theorem v8 (h:Rel w0 base nt loc s a w) (sz:Nat):∀(parts:List (Nat×Operand)) (T:Option TypeId) (c:Array Value) (l m:List D),bF w (NB base s.m loc w) loc c 0 sz (.row l)→c.size=l.length*sz →
  cX sz l s.r s.m (parts.map fun p=>(p.1,opd P T p.2))=some m→∃cs',Instr.fill (fun i=>some (i*sz,sz)) c (parts.map fun p=>(p.1,a.eval p.2))=some cs'∧bF w (NB base s.m loc w) loc cs' 0 sz (.row m)∧m.length=l.length
 |[],T,c,l,m,hr,_,hf=>by
  simp only[List.map_nil,cX,z99] at hf;subst hf;exact⟨c,rfl,hr,rfl⟩
 |(i,x)::parts,T,c,l,m,hr,hs,hf=>by
  simp only[z89,cX] at hf;split at hf
  case h_2=>cases hf
  rename_i e hd;split at hf
  case isFalse=>cases hf
  rename_i hc;obtain⟨c1,c2,c3⟩:=hc;have hV:=f9 h hd (h.opd (P:=P) T x);obtain⟨q1,q2⟩:=zcD hr c3 hV c1 c2;obtain⟨cs',g1,g2,g3⟩:=v8 h sz parts T _ _ m q1 (by rw[iW,fP];simpa using hs) hf;refine⟨cs',?_,g2,by simpa using g3⟩;have hmul:i*sz+sz≤l.length*sz:=by
   have:=z92 sz (show i+1≤l.length by omega);rw[z9F] at this;omega
  simp only[z89,Instr.fill];rw[if_neg (by simp only[z83,z8T,not_or,ne_eq,Decidable.not_not,Nat.not_lt,gt_iff_lt];omega)];exact g1
theorem zcF {E:TypeId}{l:List D}{ag:Bool}{sz:Nat} (hz:ZOk P E l ag sz){z:Value} (hr:(zeroValue E).run P w = .ok z w) (N:Nat→Prop) (q:Nat) :
  bF w N loc (madeCells z.cells (q*sz)) 0 sz (.row (List.replicate q (if ag then D.agg l else l.headD default))):=by
 obtain⟨z',hr',hsz,hl,hcell,-⟩:=ik (w:=w) hz;rw[hr] at hr';have hzz:z=z':=by injection hr'
 subst hzz;have hcl:(if ag then D.agg l else l.headD default).cells=l:=by
  cases ag with
  |true=>rfl
  |false =>
   have:sz=1:=by obtain⟨_,_,_,_,_,_,_,h6⟩:=hz;exact h6 rfl
   match l,hl with
   |[e],_ =>
    have:=(hcell 0 e rfl).1;cases e<;>first | rfl | simp[D.one] at this
   |[],hl=>simp at hl;omega
   |_::_::_,hl=>simp at hl;omega
 refine⟨by simp[madeCells],fun e he => ?_,fun i e j d hi hj => ?_⟩
 ·rw[z9b he,hcl,hl]
 ·have hiq:i<q:=by have:=(z98.1 hi).1;simpa using this
  have he:=z9b (z90 hi);rw[he,hcl] at hj;have hjl:j<sz:=by have:=(z98.1 hj).1;omega
  obtain⟨g1,g2⟩:=hcell j d hj;refine⟨g1,?_⟩;have hlt:i*sz+j<q*sz:=by
   have:=z92 sz (show i+1≤q by omega);rw[z9F] at this;omega
  have hmod:(i*sz+j) % sz=j:=by rw[Nat.add_comm,Nat.add_mul_mod_self_right];exact Nat.mod_eq_of_lt hjl
  have:=g2 w N;simp only[z9o,z9Y] at this ⊢;simp[madeCells,hlt,hsz,hmod];simpa[hsz,hjl] using this
theorem zcG {T E:TypeId}{n:Nat}{parts:Array (Nat×Operand)}{l:List D}{ag:Bool}{sz:Nat} (h:Rel w0 base nt loc s a w) (ho:o.op = .buildSlice T n parts) (hu:P.underlying T=some (.slice E)) (hz:ZOk P E l ag sz) (hn:n*sz≤16777216) (hn2:n≤9223372036854775807){U:Option TypeId}
  (he:ev (.buildSlice E sz (if ag then .agg l else l.headD default) n (parts.toList.map fun (i,x)=>(i,opd P U x))) id s=some (true,d,t)):aM P w0 base nt o a w t d:=by
 simp only[ev] at he;split at he
 case h_2=>cases he
 rename_i hid;split at he
 case h_2=>cases he
 rename_i m hm;simp only[z99,z97,true_and] at he;obtain⟨rfl,rfl⟩:=he;obtain⟨z,hr,hsz,hl,hcell,-⟩:=ik (w:=w) hz;have hTy:bU P E ag sz:=by obtain⟨_,_,_,_,h3,_⟩:=hz;exact h3
 have hrow:=zcF (loc:=loc) hz hr (NB base s.m loc w) n;obtain⟨cs',g1,g2,g3⟩:=v8 h sz parts.toList U _ _ m hrow (by simp[madeCells]) hm;simp only[List.length_replicate] at g3;have hcs:cs'.size=n*sz:=by rw[zcE _ _ _ g1];simp[madeCells]
 obtain⟨loc',hl',hrel⟩:=h.alloc (T:=E) (c:=cs') (k:=.row m) (sz:=sz) hid g2;refine⟨.slice (some ⟨w.heap.size,0,none⟩) n n,w.alloc (.cells cs' E),loc',.inl ?_,hrel,?_⟩
 ·have hg:Instr.fill (fun i=>some (i*sz,sz)) (madeCells z.cells (n*sz)) (parts.map fun x=>(x.1,a.eval x.2)).toList=some cs':=by
   rw[Array.toList_map,←g1]
  unfold madeCells at hg;simp only[execOp,ho];refine eZ ?_;by_cases h0:n*sz=0
  ·have e0:∀f:Nat→Value,Array.map f (Array.range 0) = #[]:=fun f=>by simp
   simp only[h0,e0,Array.toList_map] at hg;simp[Instr.buildSlice,run_underlying hu,c8 hTy,h0,e0,hg,newRow]
  ·simp only[Array.toList_map] at hg;have hb':¬ (16777216<n*sz):=by omega
   simp[Instr.buildSlice,run_underlying hu,c8 hTy,h0,hr,newRow,hb',hg]
 ·have:=RV.slice (w:=w.alloc (.cells cs' E)) (N:=NB base (upd s.m id (some ⟨E,sz,.row m,false⟩)) loc' (w.alloc (.cells cs' E))) _ id 0 n n hl' rfl (z95 _) hn2 (by simp[hcs]);simpa using this
theorem jO {N:Nat→Prop}:∀{l:List D}{ks:List IntKind}{ns:List Int}{cs:Array Value} (o:Nat),aV l=some (ks,ns)→(∀i d,l[i]? = some d→V w N (cs.getD (o+i) undef) d)→ks.length=l.length∧ns.length=l.length∧∀i k n,ks[i]? = some k→ns[i]? = some n→cs.getD (o+i) undef = .int k n
 |[],ks,ns,cs,o,h,hv=>by
  simp only[aV,z99,z97] at h;obtain⟨rfl,rfl⟩:=h;exact⟨rfl,rfl,fun i k n h=>by simp at h⟩
 |d::l,ks,ns,cs,o,h,hv=>by
  cases d with
  |int k n =>
   simp only[aV,z94,z97] at h;obtain⟨⟨ks',ns'⟩,h1,rfl,rfl⟩:=h;obtain⟨g1,g2,g3⟩:=jO (cs:=cs) (o+1) h1 (fun i d hi=>by have:=hv (i+1) d (by simpa using hi);rwa[show o+(i+1)=o+1+i by omega] at this);refine⟨by simp[g1],by simp[g2],fun i k' n' hk hn => ?_⟩
   match i,hk,hn with
   |0,hk,hn =>
    simp at hk hn;subst hk;subst hn;have:=hv 0 (.int k n) rfl;generalize cs.getD (o+0) undef=v at this ⊢;cases this;rfl
   |i+1,hk,hn=>rw[show o+(i+1)=o+1+i by omega];exact g3 i k' n' (by simpa using hk) (by simpa using hn)
  |_=>simp[aV] at h
theorem wa (dd:Nat) (xs ys:Array Value):∀(fs:List Field) (o:Nat) (ks:List IntKind) (l m:List Int),fs.length=ks.length→l.length=ks.length→m.length=ks.length →
  (∀i f, fs[i]? = some f → f.offset = o + i ∧ f.name ≠ "_" ∧ (∃k, P.underlying f.type = some (.int k))) → (∀i k n, ks[i]? = some k → l[i]? = some n → xs[o + i]? = some (.int k n)) → (∀i k n, ks[i]? = some k → m[i]? = some n → ys[o + i]? = some (.int k n)) →
  (Op.eqFields (dd+1) xs ys fs).run P w = .ok (decide (l=m)) w
 |[],o,[],[],[],_,_,_,_,_,_=>by simp[Op.eqFields]
 |f::fs,o,k::ks,x::l,y::m,h1,h2,h3,hf,hx,hy=>by
  obtain⟨f1,f2,k',f3⟩:=hf 0 f rfl;have ih:=wa dd xs ys fs (o+1) ks l m (by simpa using h1) (by simpa using h2) (by simpa using h3)
   (fun i f hi=>by have:=hf (i+1) f (by simpa using hi);rwa[show o+(i+1)=o+1+i by omega] at this)
   (fun i k n hi hj=>by have:=hx (i+1) k n (by simpa using hi) (by simpa using hj);rwa[show o+(i+1)=o+1+i by omega] at this)
   (fun i k n hi hj=>by have:=hy (i+1) k n (by simpa using hi) (by simpa using hj);rwa[show o+(i+1)=o+1+i by omega] at this)
  have hag:(isAgg f.type).run P w = .ok false w:=by unfold isAgg;simp only[Sem.run_bind,run_underlying f3,Result.andThen];rfl
  have px:(part f.type xs f.offset).run P w = .ok (.int k x) w:=by
   have:=hx 0 k x rfl rfl;rw[←f1] at this;simp[part,hag,this]
  have py:(part f.type ys f.offset).run P w = .ok (.int k y) w:=by
   have:=hy 0 k y rfl rfl;rw[←f1] at this;simp[part,hag,this]
  have pe:=run_equalIn_int (P:=P) w dd f.type k k' x y f3;simp only[Op.eqFields,f2,ne_eq,not_false_eq_true,if_true,Sem.run_bind,px,py,pe,Result.andThen_ok];by_cases hxy:x=y
  ·subst hxy;simp[ih]
  ·simp[hxy]
 |[],_,_::_,_,_,h,_,_,_,_,_=>by simp at h
 |_::_,_,[],_,_,h,_,_,_,_,_=>by simp at h
 |_,_,[],_::_,_,_,h,_,_,_,_=>by simp at h
 |_,_,[],_,_::_,_,_,h,_,_,_=>by simp at h
 |_,_,_::_,[],_,_,h,_,_,_,_=>by simp at h
 |_,_,_::_,_,[],_,_,h,_,_,_=>by simp at h
theorem zcH {T : TypeId} (h : lx P T = true) : ∃fs, P.underlying T = some (.struct fs) ∧ P.stoodInHeld T = false ∧ P.eqGuardType P.depth T = false ∧ ∀i f, fs.toList[i]? = some f → f.offset = 0 + i ∧ f.name ≠ "_" ∧ ∃k, P.underlying f.type = some (.int k) := by
 unfold lx at h;split at h
 ·rename_i fs hu;simp only[z9S,Bool.not_eq_true',z9C] at h;refine⟨fs,hu,h.1.1,h.1.2,fun i f hi => ?_⟩;have:=h.2 (f,i) (by rw[List.mem_zipIdx_iff_getElem?];exact hi);simp only[beq_iff_eq,bne_iff_ne,ne_eq] at this;refine⟨by omega,this.1.2,?_⟩;have h2:=this.2;split at h2
  ·rename_i k hk;exact⟨k,hk⟩
  ·cases h2
 ·cases h
theorem wb {T Y:TypeId}{op:BinOp}{neg:Bool}{x y:Operand}{fs:Array Field} (h:Rel w0 base nt loc s a w) (ho:o.op = .binOp op T x y Y) (hop:op=if neg then .neq else .eql) (hT:lx P T=true) (hu:P.underlying T=some (.struct fs)){U W:Option TypeId}
  (he:ev (.eqs fs.size neg (opd P U x) (opd P W y)) id s=some (true,d,t)):aM P w0 base nt o a w t d:=by
 have hx:=h.opd (P:=P) U x;have hy:=h.opd (P:=P) W y;simp only[ev] at he;split at he
 case h_2=>cases he
 rename_i la lb hk hk';split at he
 case h_2=>cases he
 rename_i k l k' m h1 h2;split at he
 case isFalse=>cases he
 rename_i hc;obtain⟨rfl,hlen⟩:=hc;simp only[z99,z97,true_and] at he;obtain⟨rfl,rfl⟩:=he;rw[hk] at hx;rw[hk'] at hy;have hx:=hx.inv;have hy:=hy.inv;generalize hxv:a.eval x=v at hx;generalize hyv:a.eval y=u at hy;cases hx with
 |agg xs _ x1 x2 x3 =>
 cases hy with
 |agg ys _ y1 y2 y3 =>
 obtain⟨fs',g1,g2,g3,g4⟩:=zcH hT;rw[hu] at g1;cases g1;have hfo:P.fieldsOf T=fs:=by simp[Program.fieldsOf,hu]
 obtain⟨i1,i2,i3⟩:=jO (w:=w) (N:=NB base s.m loc w) (cs:=xs) 0 h1 (fun i d hi=>by rw[z9o];exact x3 i d hi);obtain⟨j1,j2,j3⟩:=jO (w:=w) (N:=NB base s.m loc w) (cs:=ys) 0 h2 (fun i d hi=>by rw[z9o];exact y3 i d hi);have hrun:=wa (P:=P) (w:=w) 9998 xs ys fs.toList 0 k l m (by simp;omega) (by omega) (by omega) g4
  (fun i k n hi hj=>by have:=i3 i k n hi hj;have hlt:=(z98.1 hi).1;have hs:i<xs.size:=(by omega);rw[←this];simp[hs])
  (fun i k n hi hj=>by have:=j3 i k n hi hj;have hlt:=(z98.1 hi).1;have hs:i<ys.size:=(by omega);rw[←this];simp[hs])
 have heq:=run_equalIn_struct (P:=P) w 9999 T xs ys (by rw[hfo];exact hu) g2;rw[hfo,hrun] at heq;have hg:=run_eqGuard_agg (P:=P) w op T x y xs ys g3;refine aT h (v:=.bool (if neg=true then !decide (l=m) else decide (l=m))) ?_ (.p _ _ (.bool _));simp only[execOp,ho,hxv,hyv];refine eZ ?_;simp only[Sem.run_bind,hg,Result.andThen];subst hop;cases neg with
 |true =>
  simp only[if_true];rw[run_neq_struct,show (10000:Nat)=9999+1 from rfl,heq];rfl
 |false =>
  simp only[z9m,if_false];rw[run_eql_struct,show (10000:Nat)=9999+1 from rfl,heq];rfl
end
set_option linter.unusedSimpArgs false
open Go.RowKit
section
variable {P:Program}{w0:World}{base:Bs}{nt:Nat}{loc:aX}{s t:St}{a:Act}{w:World}{o:Oper}{id:Nat}{d:AV}
theorem xu {T e:TypeId}{n:Nat}{parts:Array (Nat×Operand)}{l:List D}{sz:Nat}{ie:TypeInfo} (h:Rel w0 base nt loc s a w) (ho:o.op = .build T parts) (hz:ZOk P T l true sz) (hu:P.underlying T=some (.array n e)) (hi:P.info? e=some ie)
  (he:ev (.build (l.map .p) (parts.toList.map fun p:Nat×Operand=>(p.1*ie.size,ie.size,opd P (some e) p.2))) id s=some (true,d,t)):aM P w0 base nt o a w t d:=by
 simp only[ev] at he;split at he
 case h_2=>cases he
 rename_i m hm;simp only[z99,z97,true_and] at he;obtain⟨rfl,rfl⟩:=he;obtain⟨i,z,g1,g2,g3,g4,g5,g6⟩:=hz;obtain⟨k1,k2⟩:=iB g4;have hzc:RVs w (NB base s.m loc w) loc z.cells (l.map .p):=by
  refine⟨by simpa using k1,fun e he => ?_,fun j e hj => ?_⟩
  ·simp only[z9Q] at he;obtain⟨q,hq,rfl⟩:=he;obtain⟨j,hj⟩:=z9q hq;exact (k2 j q hj).1
  ·simp only[z9B,z94] at hj;obtain⟨q,hq,rfl⟩:=hj;have:=(k2 j q hq).2 w (NB base s.m loc w);exact .p _ _ (by simpa using this)
 obtain⟨cs',q1,q2⟩:=pK h (fun i=>some (i*ie.size,ie.size)) parts.toList _ z.cells _ m (by simp) (fun k i x off sz X h1 h2=>by
  simp only[z9B,h1,Option.map_some,z99,z97] at h2;obtain⟨rfl,rfl,rfl⟩:=h2;exact⟨rfl,h.opd (some e) x⟩) hzc hm
 have hb:P.built T (parts.map fun (i,x)=>(i,a.eval x)).toList=some cs':=by
  unfold Program.built;simp only[g1,hu,g2,hi];rw[Array.toList_map];exact q1
 refine aT h (v:=.agg cs') ?_ (qz q2.1 q2.2.1 q2.2.2);simp only[execOp,ho];exact eZ (run_build w T _ cs' hb)
theorem qp {e:TypeId}{q:IntKind} (hu:P.underlying e=some (.int q)) (dd:Nat) (xs ys:Array Value):∀(k o:Nat) (ks:List IntKind) (l m:List Int),l.length=k→m.length=k→ks.length=k →
  (∀i q n,ks[i]? = some q→l[i]? = some n→xs[o+i]? = some (.int q n))→(∀i q n,ks[i]? = some q→m[i]? = some n→ys[o+i]? = some (.int q n)) →
  (Op.eqItems (dd+1) e 1 xs ys (List.range' o k)).run P w = .ok (decide (l=m)) w
 |0,o,[],[],[],_,_,_,_,_=>by simp[Op.eqItems]
 |k+1,o,kk::ks,x::l,y::m,h1,h2,h3,hx,hy=>by
  have ih:=qp hu dd xs ys k (o+1) ks l m (by simpa using h1) (by simpa using h2) (by simpa using h3)
   (fun i q n hi hj=>by have:=hx (i+1) q n (by simpa using hi) (by simpa using hj);rwa[show o+(i+1)=o+1+i by omega] at this)
   (fun i q n hi hj=>by have:=hy (i+1) q n (by simpa using hi) (by simpa using hj);rwa[show o+(i+1)=o+1+i by omega] at this)
  have hag:(isAgg e).run P w = .ok false w:=by unfold isAgg;simp only[Sem.run_bind,run_underlying hu,Result.andThen];rfl
  have px:(part e xs (o*1)).run P w = .ok (.int kk x) w:=by
   have:=hx 0 kk x rfl rfl;simp only[Nat.add_zero] at this;simp[part,hag,this]
  have py:(part e ys (o*1)).run P w = .ok (.int kk y) w:=by
   have:=hy 0 kk y rfl rfl;simp only[Nat.add_zero] at this;simp[part,hag,this]
  have pe:=run_equalIn_int (P:=P) w dd e kk q x y hu;rw[List.range'_succ];simp only[Op.eqItems,Sem.run_bind,px,py,pe,Result.andThen_ok];by_cases hxy:x=y
  ·subst hxy;simp[ih]
  ·simp[hxy]
 |0,_,_::_,_,_,_,_,h,_,_=>by simp at h
 |0,_,[],_::_,_,h,_,_,_,_=>by simp at h
 |0,_,[],[],_::_,_,h,_,_,_=>by simp at h
 |_+1,_,[],_,_,_,_,h,_,_=>by simp at h
 |_+1,_,_::_,[],_,h,_,_,_,_=>by simp at h
 |_+1,_,_::_,_::_,[],_,h,_,_,_=>by simp at h
theorem qr {T e Y:TypeId}{n:Nat}{op:BinOp}{neg:Bool}{x y:Operand} (h:Rel w0 base nt loc s a w) (ho:o.op = .binOp op T x y Y) (hop:op=if neg then .neq else .eql) (hu:P.underlying T=some (.array n e)) (hT:oo P T e=true){U W:Option TypeId}
  (he:ev (.eqs n neg (opd P U x) (opd P W y)) id s=some (true,d,t)):aM P w0 base nt o a w t d:=by
 have hx:=h.opd (P:=P) U x;have hy:=h.opd (P:=P) W y;simp only[ev] at he;split at he
 case h_2=>cases he
 rename_i la lb hk hk';split at he
 case h_2=>cases he
 rename_i k l k' m h1 h2;split at he
 case isFalse=>cases he
 rename_i hc;obtain⟨rfl,hlen⟩:=hc;simp only[z99,z97,true_and] at he;obtain⟨rfl,rfl⟩:=he;rw[hk] at hx;rw[hk'] at hy;have hx:=hx.inv;have hy:=hy.inv;generalize hxv:a.eval x=v at hx;generalize hyv:a.eval y=u at hy;cases hx with
 |agg xs _ x1 x2 x3 =>
 cases hy with
 |agg ys _ y1 y2 y3 =>
 simp only[oo,z9S,Bool.not_eq_true',beq_iff_eq] at hT;obtain⟨⟨⟨g3,g4⟩,g5⟩,g6⟩:=hT;obtain⟨ie,hie⟩:=z81.1 g5;obtain⟨q,hq⟩:∃q,P.underlying e=some (.int q):=by
  split at g6
  ·exact⟨_,‹_›⟩
  ·cases g6
 obtain⟨i1,i2,i3⟩:=jO (w:=w) (N:=NB base s.m loc w) (cs:=xs) 0 h1 (fun i d hi=>by rw[z9o];exact x3 i d hi);obtain⟨j1,j2,j3⟩:=jO (w:=w) (N:=NB base s.m loc w) (cs:=ys) 0 h2 (fun i d hi=>by rw[z9o];exact y3 i d hi);have hrun:=qp (P:=P) (w:=w) hq 9998 xs ys n 0 k l m (by omega) (by omega) (by omega)
  (fun i k n hi hj=>by have:=i3 i k n hi hj;have hlt:=(z98.1 hi).1;have hs:i<xs.size:=(by omega);rw[←this];simp[hs])
  (fun i k n hi hj=>by have:=j3 i k n hi hj;have hlt:=(z98.1 hi).1;have hs:i<ys.size:=(by omega);rw[←this];simp[hs])
 have heq:=run_equalIn_array (P:=P) (w:=w) 9999 (t:=T) xs ys hu hie;rw[g4,List.range_eq_range',hrun] at heq;have hg:=run_eqGuard_agg (P:=P) w op T x y xs ys g3;refine aT h (v:=.bool (if neg=true then !decide (l=m) else decide (l=m))) ?_ (.p _ _ (.bool _));simp only[execOp,ho,hxv,hyv];refine eZ ?_;simp only[Sem.run_bind,hg,Result.andThen];subst hop;cases neg with
 |true =>
  simp only[if_true];rw[run_neq_struct,show (10000:Nat)=9999+1 from rfl,heq];rfl
 |false =>
  simp only[z9m,if_false];rw[run_eql_struct,show (10000:Nat)=9999+1 from rfl,heq];rfl
theorem xw {T E:TypeId}{n0:Nat}{ag:Bool}{x:Operand}{lo hi mx:Option Operand} (h:Rel w0 base nt loc s a w) (ho:o.op = .slice T x lo hi mx) (hu:P.underlying T=some (.array n0 E)) (hT:bU P E ag 1) (hm:mx.isSome=true→hi.isSome=true){U:Option TypeId}
  (he:ev (.sliceA n0 (opd P U x) (lo.map (opd P none)) (hi.map (opd P none)) (mx.map (opd P none))) id s=some (true,d,t)):aM P w0 base nt o a w t d:=by
 have hx:=h.opd (P:=P) U x;have run:∀b p l n m,a.eval x = .pointer (some ⟨b,p,none⟩)→(Instr.sliceBounds false n0 n0 (lo.map a.eval) (hi.map a.eval) (mx.map a.eval)).run P w = .ok (l,n,m) w →
   (execOp a.eval o).run P w = .ok (.value (.slice (some (if m=l then ⟨b,p,none⟩ else ⟨b,p+l,none⟩)) (n-l) (m-l))) w:=by
  intro b p l n m hv hr;simp[execOp,ho,hv,Instr.sliceAt,run_underlying hu,Instr.sureAddr,hr,c8 hT,dE]
 simp only[ev] at he;split at he
 case h_2=>cases he
 rename_i i off hk;split at he
 case h_2=>cases he
 rename_i T' osz v frz hob;split at he
 case isFalse=>cases he
 rename_i hfit;split at he
 case h_2=>cases he
 rename_i c l n hb;simp only[z99,z97] at he;obtain⟨hc,rfl,rfl⟩:=he;rw[hk] at hx;generalize hxv:a.eval x=xv at hx;cases hx with
 |ptr L _ _ _ hL hn =>
 obtain⟨m,hr,h1,h2,h3',h4'⟩:=eH (P:=P) false h (z95 n0) hm hc hb;obtain⟨L',hL',hok⟩:=h.objs i _ hob;rw[hL] at hL';cases hL';obtain⟨cc,fr,k1,k2,k3,-⟩:=hok.at_ hn;obtain⟨m1,-⟩:=k3;refine aT h (run _ _ _ _ _ hxv hr) ?_;by_cases hml:m=l
 ·rw[show n-l=0 by omega,show m-l=0 by omega];exact .arrEmp L _ _ _ hL
 ·rw[if_neg hml];simp only at m1;rw[show L.o+(0*L.sz+off)+l=L.o+(off+l) by omega];exact .arr L _ _ _ _ hL hn (by omega) (by omega) (by omega)
theorem xy {S T e:TypeId}{x:Operand}{U:Option TypeId} (h:Rel w0 base nt loc s a w) (ho:o.op = .convert S T x) (hS:P.underlying S=some .string) (hT:P.underlying T=some (.slice e)) (hE:P.underlying e=some (.int .u8))
  (he:ev (.bytS e (opd P U x)) id s=some (true,d,t)):aM P w0 base nt o a w t d:=by
 have hx:=h.opd (P:=P) U x;simp only[ev] at he;split at he
 case h_2=>cases he
 rename_i hid;split at he
 case h_2=>cases he
 rename_i q hk;simp only[z99,z97,z8T] at he;obtain⟨hq,rfl,rfl⟩:=he;rw[hk] at hx;have hx:=hx.inv;generalize hxv:a.eval x=v at hx;cases hx with
 |str q =>
 have hrun:=run_bytes_of_string (P:=P) w S T e q hS hT hE;have hsz:q.data.toList.length=q.size:=by simp
 have hge:=grownCap_ge w q.size 0 e;have hle:grownCap w q.size 0 e≤9223372036854775807:=grownCap_le_maxLen w q.size 0 e (by rw[←hsz];exact hq);generalize hcap:grownCap w q.size 0 e=cap at hrun hge hle;have hbs:(bytesRow q cap).size=cap:=by
  unfold bytesRow;rw[Array.size_append,Array.size_map,Array.size_replicate];have:q.data.size=q.size:=rfl;omega
 have hdrew:Rel w0 base nt loc s a w.drew:=h.later (Below.drew (Below.refl _ _));obtain⟨loc',hl',hrel⟩:=hdrew.allocM (T:=e) (c:=bytesRow q cap) (k:=.row (q.data.toList.map fun b => .int .u8 b.toNat)) (sz:=1) hid (fr:=((bytesRow q cap).size,(bytesRow q cap).size+1)) (fun x hx=>by
   have:¬ ((bytesRow q cap).size≤x):=by omega
   simp[this]) ⟨by rw[hbs,z9V,hsz];omega,fun y hy=>by
   obtain⟨b,-,rfl⟩:=z9Q.1 hy
   rfl,fun i y j d hi hj=>by
   rw[z9B,z94] at hi;obtain⟨b,hb,rfl⟩:=hi;have hj0:j=0:=by
    have:=(z98.1 hj).1;simpa[D.cells] using this
   subst hj0;simp only[D.cells,List.getElem?_cons_zero,z99] at hj;subst hj;refine⟨rfl,?_⟩;have hi2:i<q.data.size:=by have:=(z98.1 hb).1;simpa using this
   have:=bytesRow_at q cap i hi2;rw[show 0+(i*1+0)=i by omega,z9Y,this,Option.getD_some];have hb2:q.data[i]=b:=by
    have:=(z98.1 hb).2;simpa using this
   rw[hb2];exact .int _ _⟩
 refine⟨.slice (some ⟨w.heap.size,0,none⟩) q.size cap,_,loc',.inl ?_,hrel,?_⟩
 ·simp only[execOp,ho,hxv];exact eZ hrun
 ·have:=RV.slice (w:=w.drew.alloc (.cells (bytesRow q cap) e ((bytesRow q cap).size,(bytesRow q cap).size+1))) (N:=NB base (upd s.m id (some ⟨e,1,.row (q.data.toList.map fun b => .int .u8 b.toNat),false⟩)) loc' (w.drew.alloc (.cells (bytesRow q cap) e ((bytesRow q cap).size,(bytesRow q cap).size+1)))) (loc:=loc') _ id 0 q.size cap hl' rfl (by omega) (by omega) (by rw[hbs];simp only;omega);rw[hsz];simpa using this
theorem qs:∀{l:List D}{b:List UInt8},iJ l=some b→b.length=l.length∧∀(i:Nat) (e:D),l[i]? = some e→∃x:UInt8,b[i]? = some x∧e=D.int .u8 (x.toNat:Int)
 |[],b,h=>by simp only[iJ,z99] at h;subst h;exact⟨rfl,fun i e he=>by simp at he⟩
 |d::l,b,h=>by
  unfold iJ at h;split at h
  ·rename_i heq;cases heq
  ·rename_i n l' heq;injection heq with h1 h2
   subst h1 h2;split at h
   case isFalse=>cases h
   rename_i hn;simp only[z94] at h;obtain⟨b',hb',rfl⟩:=h;obtain⟨k1,k2⟩:=qs hb';refine⟨by simp[k1],fun i e he => ?_⟩
   match i,he with
   |0,he =>
    simp only[List.getElem?_cons_zero,z99] at he;subst he;refine⟨UInt8.ofNat n.toNat,rfl,?_⟩;congr 1
    have:n.toNat<256:=by omega
    rw[UInt8.toNat_ofNat',Nat.mod_eq_of_lt (by simpa using this)];omega
   |i+1,he=>simpa using k2 i e (by simpa using he)
  ·cases h
theorem xz {S T e:TypeId}{x:Operand}{U:Option TypeId} (h:Rel w0 base nt loc s a w) (ho:o.op = .convert S T x) (hS:P.underlying S=some (.slice e)) (hT:P.underlying T=some .string) (hE:P.underlying e=some (.int .u8))
  (he:ev (.strB (opd P U x)) id s=some (true,d,t)):aM P w0 base nt o a w t d:=by
 have hx:=h.opd (P:=P) U x;simp only[ev] at he;split at he
 case h_2=>cases he
 rename_i ys hys;split at he
 case h_2=>cases he
 rename_i b hb;simp only[z99,z97,true_and] at he;obtain⟨rfl,rfl⟩:=he;obtain⟨hbl,hbe⟩:=qs hb;have fin:∀p n cap,a.eval x = .slice p n cap→n=b.length→(p=none→b=[])→(∀ad,p=some ad→∀j (hj:j<b.length),w.cell? (ad.add j)=some (.int .u8 (b[j].toNat:Int)))→aM P w0 base nt o a w s (.p (.str b)):=by
  intro p n cap hv hn hp hc;subst hn;refine aT h (v:=.string ⟨b.toArray⟩) ?_ (.p _ _ ?_)
  ·simp only[execOp,ho,hv];refine eZ ?_;cases p with
   |some ad=>exact run_convert_bytes_back w S T e ad cap b hS hE hT (hc ad rfl)
   |none =>
    rw[run_convert_bytes_string w S T e none _ cap hS hE hT];rw[hp rfl];rfl
  ·have:=V.str (w:=w) (N:=NB base s.m loc w) ⟨b.toArray⟩;simpa using this
 have block:∀(bb o0 n cap:Nat) (c:Array Value) (T':TypeId) (fr:Nat×Nat),a.eval x = .slice (some ⟨bb,o0,none⟩) n cap→w.heap[bb]? = some (.cells c T' fr)→ys.length=n→o0+n≤c.size →
   (∀p e,ys[p]? = some e→V w (NB base s.m loc w) (c.getD (o0+p) undef) e)→aM P w0 base nt o a w s (.p (.str b)):=by
  intro bb o0 n cap c T' fr hv hheap hn hfit hV;refine fin _ n cap hv (by omega) (fun hh=>by cases hh) fun ad had j hj => ?_
  cases had;rw[dE,d9 hheap (by omega)];have hj':j<ys.length:=by omega
  obtain⟨y,hy1,hy2⟩:=hbe j (ys[j]) (by simp[hj']);have:=hV j (ys[j]) (by simp[hj']);rw[hy2] at this;have hbj:b[j]=y:=by
   have:=(z98.1 hy1).2;exact this
  rw[hbj];generalize c.getD (o0+j) undef=vv at this ⊢;generalize hdd:D.int .u8 (y.toNat:Int)=dd at this;cases this with
  |int k n=>injection hdd with h1 h2;subst h1 h2;rfl
  |_=>cases hdd
 generalize hX:(opd P U x).ev s.r=X at hx hys;generalize hxv:a.eval x=v at hx;cases hx with
 |p _ dd hV =>
  cases dd<;>simp only[bO] at hys<;>try cases hys
  rename_i T1 sz1 l1;split at hys
  case isFalse=>cases hys
  rename_i hsz1;simp only[z99] at hys;subst hys hsz1;cases hV with
  |empty ad cap =>
   have hb0:b=[]:=z9Z hbl;exact fin ad 0 cap hxv (by rw[hb0];rfl) (fun _=>hb0) (fun ad' _ j hj=>by rw[hb0] at hj;simp at hj)
  |list bb o0 cap _ _ _ c fr g1 g2 g3 g4 g5 g6 g7 =>
   obtain⟨T',g1,-⟩:=g1;rcases z9D l1.length with h0 | h0
   ·have hb0:b=[]:=z9Z (by omega);rw[h0] at hxv;exact fin _ 0 cap hxv (by rw[hb0];rfl) (fun _=>hb0) (fun ad' _ j hj=>by rw[hb0] at hj;simp at hj)
   refine block bb o0 _ cap c T' fr hxv g1 rfl ?_ fun p e0 hp => ?_
   ·have hlast:l1[l1.length-1]? = some (l1[l1.length-1]'(by omega)):=by simp
    obtain⟨y,-,hy2⟩:=hbe _ _ hlast;have:=g6 _ _ 0 _ hlast (by rw[hy2];rfl);omega
   ·obtain⟨y,-,hy2⟩:=hbe p e0 hp;have:=g7 p e0 0 e0 hp (by rw[hy2];rfl);simpa using this
 |slice L i off n cap h1 h2 h3 h4 h5 =>
  simp only[bO] at hys;split at hys
  case h_2=>cases hys
  rename_i T1 sz1 l1 f1 hm;split at hys
  case isFalse=>cases hys
  rename_i hcond;obtain⟨hs1,hfit⟩:=hcond;simp only[z99] at hys;obtain⟨L',hL',hok⟩:=h.objs i _ hm;rw[h1] at hL';cases hL';obtain⟨c,fr,k1,k2,k3,-⟩:=hok.at_ h2;obtain⟨m1,m2,m3⟩:=k3;have hsz:=hok.sz;dsimp only at hsz m1 m2 m3 k1;subst hs1;rw[hsz,Nat.mul_one] at hxv;have hlen:ys.length=n:=by rw[←hys];simp;omega
  refine block L.b (L.o+off) n cap c T1 fr hxv k1 hlen (by omega) fun p e0 hp => ?_
  have hp':l1[off+p]? = some e0:=by
   rw[←hys] at hp;have hpn:p<n:=by have:=(z98.1 hp).1;simp at this;omega
   rwa[z9t hpn,z9s] at hp
  obtain⟨y,-,hy2⟩:=hbe p e0 hp;have:=(m3 (off+p) e0 0 e0 hp' (by rw[hy2];rfl)).2;rw[show L.o+((off+p)*1+0)=L.o+off+p by omega] at this;exact this
 |sliceEmp L i off ad h1 =>
  have hb0:b=[]:=by
   simp only[bO] at hys;split at hys
   ·split at hys
    ·simp only[z99,List.take_zero] at hys;subst hys;exact z9Z hbl
    ·cases hys
   ·cases hys
  exact fin ad 0 0 hxv (by rw[hb0];rfl) (fun _=>hb0) (fun ad' _ j hj=>by rw[hb0] at hj;simp at hj)
 |nils T1 sz1 =>
  have hb0:b=[]:=by
   simp only[bO] at hys;split at hys
   ·simp only[z99] at hys;subst hys;exact z9Z hbl
   ·cases hys
  exact fin none 0 0 hxv (by rw[hb0];rfl) (fun _=>hb0) (fun ad' _ j hj=>by rw[hb0] at hj;simp at hj)
 |_=>simp[bO] at hys
end
end Go.Proofs.YtbnhgnhgbhjkcaaGreat.M
