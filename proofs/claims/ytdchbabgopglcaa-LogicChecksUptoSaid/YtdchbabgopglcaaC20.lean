/- Lemmas. -/
import Derived.Test.YtdchbabgopglcaaC19
import Derived.Test.YtdchbabgopglcaaRows
set_option linter.defProp false
set_option linter.unusedVariables false
namespace Go.Proofs.Ytdchbabgopglcaa.M
open Go.RowKit
mutual
def bkD:D→Nat
 |.agg l=>bkL l
 |.list _ _ l=>bkL l+1
 |_=>1
def bkL:List D→Nat
 |[]=>0
 |d::l=>bkD d+bkL l
end
theorem kK:∀(l m:List D),bkL (l++m)=bkL l+bkL m
 |[],m=>by rw[bkL];simp
 |d::l,m=>by rw[List.cons_append,bkL,bkL,kK l m,Nat.add_assoc]
theorem jl {H:Type}:∀(l:List (DataW H)),(l.map Rows.uptoBulk).sum=Rows.uptoBulkAll l
 |[]=>rfl
 |d::l=>by rw[List.map_cons,List.sum_cons,jl l,Rows.uptoBulkAll]
theorem nE {H:Type} (g:Nat→D) (l:List (DataW H)):∀n,n≤l.length→(∀i,i<n→bkD (g i)≤Rows.uptoBulk (l.getD i .nil))→bkL ((List.range n).map g)≤Rows.uptoBulkAll (l.take n)
 |0,_,_=>by simp[bkL]
 |n+1,hn,h=>by
  have ih:=nE g l n (by omega) fun i hi=>h i (by omega)
  have h1:=h n (by omega);have e:l.getD n .nil=l[n]:=by simp[show n<l.length by omega]
  rw[e] at h1;rw[List.range_succ,List.map_append,kK,List.take_succ_eq_append_getElem (by omega),←jl,List.map_append,List.sum_append,jl];simp only[List.map_cons,List.map_nil,bkL,List.sum_cons,List.sum_nil];omega
theorem yH {H:Type} (g:Nat→D) (l:List (DataW H)) (n:Nat) (hn:n=l.length) (h:∀i,i<n→bkD (g i)≤Rows.uptoBulk (l.getD i .nil)):bkL ((List.range n).map g)≤Rows.uptoBulkAll l:=by
 have:=nE g l n (by omega) h
 rwa[List.take_of_length_le (by omega)] at this
theorem nG {P:Program}{w:World}{N:Nat→Prop}{cs:List Value}:∀(fs:List Field) (bs:List Nat) (o:Nat),fs.length=bs.length→fB P o fs cs.length=true→(∀(i:Nat) (f:Field) (b:Nat),fs[i]? = some f→bs[i]? = some b→∃l,CV w N ((cs.drop f.offset).take (P.cellsOf f.type)) l∧TyW P f.type l∧bkL l≤b) →
  ∃l,CV w N (cs.drop o) l∧(∀f∈fs,o≤f.offset∧TyW P f.type ((l.drop (f.offset-o)).take (P.cellsOf f.type)))∧bkL l≤bs.sum
 |[],bs,o,_,h,_=>by
  simp[fB] at h;refine⟨[],⟨by simp;omega,by simp,by simp⟩,by simp,by simp[bkL]⟩
 |f::fs,[],o,hl,h,hf=>by cases hl
 |f::fs,b::bs,o,hl,h,hf=>by
  simp only[fB,Bool.and_eq_true,beq_iff_eq] at h;obtain⟨rfl,h2⟩:=h;have hle:=rj h2;obtain⟨l',g1,g2,g3⟩:=nG fs bs _ (by simpa using hl) h2 fun i f' b' hf' hb'=>hf (i+1) f' b' hf' hb'
  obtain⟨l,k1,k2,k3⟩:=hf 0 f b rfl rfl;have hl:l.length=P.cellsOf f.type:=by rw[←k1.1];simp;omega
  refine⟨l++l',?_,fun f' hf' => ?_,by rw[kK,List.sum_cons];omega⟩
  ·have:=k1.append g1;rw[←List.drop_drop,List.take_append_drop] at this;exact this
  ·rcases List.mem_cons.1 hf' with rfl | hf'
   ·refine⟨Nat.le_refl _,?_⟩;rw[Nat.sub_self,List.drop_zero,List.take_append_of_le_length (by omega),List.take_of_length_le (by omega)];exact k2
   ·obtain⟨q1,q2⟩:=g2 f' hf';refine⟨by omega,?_⟩;rw[List.drop_append,List.drop_of_length_le (by omega),List.nil_append,hl,show f'.offset-f.offset-P.cellsOf f.type=f'.offset-(f.offset+P.cellsOf f.type) by omega];exact q2
section
variable {H:Type}{enc:TypeId×Value→H}{P:Program}{w:World}{spare:Nat→Bool}{held:Bool}{N:Nat→Prop}
theorem yI {S:List TypeId} (hS:ku P S=true):∀(fuel:Nat) (t:TypeId) (cs:List Value) (x:DataW H×List MemPlace),t∈S→DataW.trod enc P w 0 spare held fuel t cs=some x→(∀n∈x.1.weights P t,n≤reachBytes) →
  ∃l,CV w (fun b=>b<w.heap.size) cs l∧TyW P t l∧(a7 P t=false→∃d,l=[d]∧d.isAgg=false)∧bkL l≤Rows.uptoBulk x.1:=by
 intro fuel;induction fuel with
 |zero=>intro t cs x _ h _;simp[DataW.trod] at h
 |succ n ih =>
  intro t cs x ht h hsz;have hp:=hS;unfold ku at hp;rw[List.all_eq_true] at hp;have hpt':=hp t ht;rw[Bool.and_eq_true,decide_eq_true_eq] at hpt';have hpos:=hpt'.1;have hpt:=hpt'.2;clear hpt';split at hpt
  ·rename_i hu;obtain⟨b,rfl,rfl⟩:=DataW.trod_bool hu h;exact⟨[.bool b],⟨rfl,by simp[D.one],fun i d hd=>by
    match i,hd with
    |0,hd=>simp at hd;subst hd;exact .bool b
    |i+1,hd=>simp at hd⟩,.bool t b hu,fun _=>⟨_,rfl,rfl⟩,by simp[bkL,bkD,Rows.uptoBulk]⟩
  ·rename_i k hu;obtain⟨m,rfl,rfl,hw⟩:=DataW.trod_int hu h;exact⟨[.int k m],⟨rfl,by simp[D.one],fun i d hd=>by
    match i,hd with
    |0,hd=>simp at hd;subst hd;exact .int k m
    |i+1,hd=>simp at hd⟩,.int t k m hu hw,fun _=>⟨_,rfl,rfl⟩,by simp[bkL,bkD,Rows.uptoBulk]⟩
  ·rename_i hu;obtain⟨s,rfl,rfl,hw⟩:=DataW.trod_string hu h;exact⟨[.str s.data.toList],⟨rfl,by simp[D.one],fun i d hd=>by
    match i,hd with
    |0,hd=>simp at hd;subst hd;exact .str s
    |i+1,hd=>simp at hd⟩,.str t _ hu (hsz _ (by simp[DataW.weights])),fun _=>⟨_,rfl,rfl⟩,by simp only[bkL,bkD,Rows.uptoBulk];omega⟩
  ·rename_i e hu;have he:e∈S:=by simpa using hpt
   have one:∀(δ:D),δ.one=true→δ.isAgg=false→∀v:Value,V w (fun b=>b<w.heap.size) v δ→TyW P t [δ]→∀B,bkL [δ]≤B→cs=[v]→∃l,CV w (fun b=>b<w.heap.size) cs l∧TyW P t l∧(a7 P t=false→∃d,l=[d]∧d.isAgg=false)∧bkL l≤B:=by
    rintro δ h1 h2 v hv hT B hB rfl;exact⟨[δ],⟨rfl,by simpa using h1,fun i d hd=>by
     match i,hd with
     |0,hd=>simp at hd;subst hd;exact hv
     |i+1,hd=>simp at hd⟩,hT,fun _=>⟨_,rfl,h2⟩,hB⟩
   rcases DataW.trod_slice hu h with⟨rfl,rfl⟩ | ⟨a,len,cap,elems,rest,m,hm,rfl,rfl,hb,hl,hcap,hlen,hel,-,-⟩
   ·exact one _ rfl rfl _ (.empty none 0 (e+1000000) (P.cellsOf e) (by omega)) (.slice t e [] hu (by simp) (by simp) (by simp)) _ (by simp[bkL,bkD,Rows.uptoBulk]) rfl
   ·obtain rfl:m=n:=by omega
    have each:∀i,i<len→∃(d:D) (cs':List Value),CV w (fun b=>b<w.heap.size) cs' d.cells∧cs'.length=P.cellsOf e∧(∀j,j<P.cellsOf e→w.cell? ((a.add (i*P.cellsOf e)).add j)=some (cs'.getD j undef))∧TyW P e d.cells∧d.isAgg=a7 P e∧bkD d≤Rows.uptoBulk ((elems.map (·.1)).getD i .nil):=by
     intro i hi;have h1:=hel i hi;rw[show elems[i]? = some (elems[i]'(by omega)) by simp[show i<elems.length by omega],Option.bind_eq_some_iff] at h1;obtain⟨cs',hcs,hy⟩:=h1;obtain⟨l,g1,g2,g3,g4⟩:=ih e cs' _ he hy fun n hn=>hsz n (by
      simp only[DataW.weights,hu,List.mem_cons,List.mem_append];exact .inr (.inl (pQ (List.mem_map.2 ⟨_,List.getElem_mem (by omega),rfl⟩) n hn)))
     obtain⟨q1,q2⟩:=RT hcs;have hgd:(elems.map (·.1)).getD i .nil=(elems[i]'(by omega)).1:=by simp[show i<elems.length by omega]
     rw[hgd];cases hs:a7 P e with
     |true=>exact⟨.agg l,cs',g1,q1,q2,g2,rfl,by rw[bkD];exact g4⟩
     |false =>
      obtain⟨d,rfl,hd⟩:=g3 hs;have hc:d.cells=[d]:=by cases d<;>first | rfl | (simp[D.isAgg] at hd)
      exact⟨d,cs',by rw[hc];exact g1,q1,q2,by rw[hc];exact g2,hd,by simpa only[bkL,Nat.add_zero] using g4⟩
    have hch:∃f:Nat→D×List Value,∀i,i<len→CV w (fun b=>b<w.heap.size) (f i).2 (f i).1.cells∧(f i).2.length=P.cellsOf e∧(∀j,j<P.cellsOf e→w.cell? ((a.add (i*P.cellsOf e)).add j)=some ((f i).2.getD j undef))∧TyW P e (f i).1.cells∧(f i).1.isAgg=a7 P e∧bkD (f i).1≤Rows.uptoBulk ((elems.map (·.1)).getD i .nil):=by
     refine⟨fun i=>open Classical in if hi:i<len then ((each i hi).choose,(each i hi).choose_spec.choose) else default,fun i hi => ?_⟩;simp only[hi,dif_pos];exact (each i hi).choose_spec.choose_spec
    obtain⟨f,hf⟩:=hch;have hty:TyW P t [.list (e+1000000) (P.cellsOf e) ((List.range len).map fun i=>(f i).1)]:=by
     refine .slice t e _ hu ?_ ?_ ?_
     ·have:=hsz ((elems.length+rest.length)*P.bytesOf e) (by simp[DataW.weights,hu]);rw[hlen] at this;simp only[List.length_map,List.length_range];exact Nat.le_trans (Nat.mul_le_mul_right _ (Nat.le_add_right _ _)) this
     ·intro d hd;obtain⟨i,hi,rfl⟩:=List.mem_map.1 hd;exact (hf i (List.mem_range.1 hi)).2.2.2.1
     ·intro d hd;obtain⟨i,hi,rfl⟩:=List.mem_map.1 hd;obtain⟨k1,k2,k3,k4,k5,-⟩:=hf i (List.mem_range.1 hi);exact⟨k1.1.symm.trans k2,k1.2.1,k5⟩
    have hbk:bkL [.list (e+1000000) (P.cellsOf e) ((List.range len).map fun i=>(f i).1)]≤Rows.uptoBulk (.slice (elems.map (·.1)) (rest.map (·.1))):=by
     have h1:=yH (fun i=>(f i).1) (elems.map (·.1)) len (by rw[List.length_map];omega) fun i hi=>(hf i hi).2.2.2.2.2
     simp only[bkL,bkD,Rows.uptoBulk];omega
    have hmax:maxLen=9223372036854775807:=rfl;by_cases h0:len=0
    ·subst h0;exact one _ rfl rfl _ (.empty (some a) cap (e+1000000) (P.cellsOf e) (by omega)) hty _ hbk rfl
    ·have hz0:0<P.cellsOf e:=by
      have:=hp e he;rw[Bool.and_eq_true,decide_eq_true_eq] at this;exact this.1
     obtain⟨b,o,rfl⟩:∃b o,a=⟨b,o,none⟩:=by
      have h1:=(hf 0 (by omega)).2.2.1 0 (by omega);rw[Nat.zero_mul,RW] at h1;exact RU h1
     have hcell:∀i j,i<len→j<P.cellsOf e→w.cell? ⟨b,o+(i*P.cellsOf e+j),none⟩=some ((f i).2.getD j undef):=by
      intro i j hi hj;have:=(hf i hi).2.2.1 j hj;rw[de,de] at this;rw[←Nat.add_assoc];exact this
     obtain⟨c,T,fr,hblk,-,-⟩:=rk (hcell 0 0 (by omega) hz0);have hlt:b<w.heap.size:=by
      rcases Nat.lt_or_ge b w.heap.size with h | h
      ·exact h
      ·rw[Array.getElem?_eq_none h] at hblk;cases hblk
     have hget:∀i j,i<len→j<P.cellsOf e→o+(i*P.cellsOf e+j)<c.size∧c.getD (o+(i*P.cellsOf e+j)) undef=(f i).2.getD j undef:=by
      intro i j hi hj;obtain⟨c',T',fr',h1,h2,h3⟩:=rk (hcell i j hi hj);rw[hblk] at h1;cases h1;exact⟨h2,h3⟩
     have hidx:∀(i:Nat) (d:D),((List.range len).map fun i=>(f i).1)[i]? = some d→i<len∧d=(f i).1:=by
      intro i d hd;rw[List.getElem?_map,Option.map_eq_some_iff] at hd;obtain⟨q,hq,rfl⟩:=hd;obtain⟨h1,h2⟩:=List.getElem?_eq_some_iff.1 hq;simp at h1 h2;subst h2;exact⟨h1,rfl⟩
     have:=V.list (w:=w) (N:=fun b=>b<w.heap.size) b o cap (e+1000000) (P.cellsOf e) ((List.range len).map fun i=>(f i).1) c fr ⟨T,hblk,.inr (Nat.le_add_left _ _)⟩ hlt (by simpa using hl) (by omega) ?_ ?_ ?_
     ·simp only[List.length_map,List.length_range] at this;exact one _ rfl rfl _ this hty _ hbk rfl
     ·intro d hd;obtain⟨i,hi,rfl⟩:=List.mem_map.1 hd;obtain⟨k1,k2,-⟩:=hf i (List.mem_range.1 hi);exact⟨k1.1.symm.trans k2,k1.2.1⟩
     ·intro i d j q hd hq;obtain⟨hi,rfl⟩:=hidx i d hd;obtain⟨k1,k2,-⟩:=hf i hi;have hj:=(List.getElem?_eq_some_iff.1 hq).1;exact (hget i j hi (by have:=k1.1;omega)).1
     ·intro i d j q hd hq;obtain⟨hi,rfl⟩:=hidx i d hd;obtain⟨k1,k2,-⟩:=hf i hi;have hj:=(List.getElem?_eq_some_iff.1 hq).1;rw[(hget i j hi (by have:=k1.1;omega)).2];exact k1.2.2 j q hq
  ·rename_i fs hu;simp only[Bool.and_eq_true,List.all_eq_true] at hpt;obtain⟨h1,h2⟩:=hpt;obtain⟨xs,m,hm,rfl,hlen,hxs,hfs⟩:=DataW.trod_struct hu h;obtain rfl:m=n:=by omega
   rw[←hlen] at h2;obtain⟨l,g1,g2,g5⟩:=nG (w:=w) (N:=fun b=>b<w.heap.size) fs.toList (xs.map fun x=>Rows.uptoBulk x.1) 0 (by simp[hxs]) h2 fun i f b hf0 hb0=>by
    have hi:i<fs.toList.length:=(List.getElem?_eq_some_iff.1 hf0).1;obtain rfl:fs.toList[i]=f:=by rw[List.getElem?_eq_getElem hi] at hf0;exact Option.some.inj hf0
    have hf:fs.toList[i]∈fs.toList:=List.getElem_mem hi;have hfi:fs[i]? = some (fs.toList[i]):=by simp at hi ⊢
    have h3:=hfs i _ hfi;rw[List.getElem?_eq_getElem (show i<xs.length by simp at hi;omega)] at h3;have hbx:b=Rows.uptoBulk (xs[i]'(by simp at hi;omega)).1:=by
     rw[List.getElem?_map,List.getElem?_eq_getElem (show i<xs.length by simp at hi;omega)] at hb0;exact (Option.some.inj hb0).symm
    obtain⟨l,q1,q2,-,q4⟩:=ih _ _ _ (by simpa using h1 _ hf) h3 fun n hn=>hsz n (by
     simp only[DataW.weights,hu];exact DataW.weights_mem_each (j:=i) (by simp[hfi]) (by rw[List.getElem?_map,List.getElem?_eq_getElem (show i<xs.length by simp at hi;omega)];rfl) n hn)
    exact⟨l,q1,q2,by rw[hbx];exact q4⟩
   rw[List.drop_zero] at g1;refine⟨l,g1,.struct t fs l hu (by rw[←g1.1];exact hlen) fun f hf=>by simpa using (g2 f hf).2,fun hs=>by simp[a7,hu] at hs,?_⟩;simp only[Rows.uptoBulk];have:=jl (xs.map (·.1));rw[List.map_map] at this;have e:(xs.map fun x=>Rows.uptoBulk x.1)=xs.map (Rows.uptoBulk ∘ fun x=>x.1):=rfl;rw[e] at g5;omega
  ·cases hpt
theorem nH {S:List TypeId} (hS:ku P S=true){t:TypeId} (ht:t∈S){r:Reach}{b0:Nat}{v:Value}{d:DataW H}{ps:List MemPlace} (hval:Value.okWide P w r b0 t v) (h:DataW.Trod enc P w 0 spare held t v d ps) (hsz:∀n∈d.weights P t,n≤reachBytes) :
  ∃δ,V w (fun b=>b<w.heap.size) v δ∧TyW P t δ.cells∧δ.isAgg=a7 P t∧bkD δ≤Rows.uptoBulk d:=by
 obtain⟨fuel,h⟩:=h;obtain⟨l,h1,h2,h3,h5⟩:=yI hS fuel t _ _ ht h hsz;have one:a7 P t=false→v.cells = #[v]→∃δ,V w (fun b=>b<w.heap.size) v δ∧TyW P t δ.cells∧δ.isAgg=a7 P t∧bkD δ≤Rows.uptoBulk d:=by
  intro hs hc;obtain⟨δ,rfl,hδ⟩:=h3 hs;have hcc:δ.cells=[δ]:=by cases δ<;>first | rfl | (simp[D.isAgg] at hδ)
  refine⟨δ,?_,by rw[hcc];exact h2,by rw[hδ,hs],by simpa only[bkL,Nat.add_zero] using h5⟩;have:=h1.2.2 0 δ rfl;rw[hc] at this;simpa using this
 cases h2 with
 |bool t b hu=>obtain⟨x,rfl⟩:=Go.WideShapes.okWide_bool hu hval;exact one (by simp[a7,hu]) rfl
 |int t k n hu=>obtain⟨x,rfl⟩:=Go.WideShapes.okWide_int hu hval;exact one (by simp[a7,hu]) rfl
 |str t s hu=>obtain⟨x,rfl⟩:=Go.WideShapes.okWide_string hu hval;exact one (by simp[a7,hu]) rfl
 |slice t e l hu=>obtain⟨a,n,c,rfl⟩:=Go.WideShapes.okWide_slice hu hval;exact one (by simp[a7,hu]) rfl
 |struct t fs l hu hl hf =>
  obtain⟨cs,rfl,-⟩:=Go.WideShapes.okWide_struct hu hval;refine⟨.agg l,.agg cs l (by have:=h1.1;simpa[Value.cells] using this) h1.2.1 fun i d hd => ?_,.struct t fs l hu hl hf,by simp[a7,hu,D.isAgg],by rw[bkD];exact h5⟩;have:=h1.2.2 i d hd;simpa[Value.cells] using this
end
mutual
def AV.men (L:List Nat):AV→Bool
 |.slice i _ _=>L.contains i
 |.ptr i _ _=>L.contains i
 |.arr i _ _=>L.contains i
 |.agg l=>iq L l
 |.tup l=>iq L l
 |_=>false
def iq (L:List Nat):List AV→Bool
 |[]=>false
 |v::l=>v.men L||iq L l
end
def AObj.men (L:List Nat) (o:AObj):Bool:=match o.cont with
 |.box v=>v.men L
 |_=>false
def ir (L:List Nat):List (Nat×AV)→Bool
 |[]=>true
 |(_,v)::l => !v.men L&&ir L l
def eT (L:List Nat):List (Nat×AObj)→Bool
 |[] => !L.contains aQ
 |(i,o)::l=>(L.contains i||!o.men L)&&eT L l
def ew (i:Nat):List Nat→Bool
 |[]=>false
 |j::l=>if i=j then true else ew i l
theorem jz (i:Nat):∀l:List Nat,l.contains i=ew i l
 |[]=>rfl
 |j::l=>by
  rw[List.contains_cons,jz i l,ew];by_cases h:i=j<;>simp[h]
def dQ (L:List Nat):List (Nat×AObj)→List (Nat×AObj)
 |[]=>[]
 |(i,o)::l=>if ew i L=true then dQ L l else (i,o)::dQ L l
theorem k9 (L:List Nat):dQ L []=[]:=rfl
theorem ld (L:List Nat) (i:Nat) (o:AObj) (l:List (Nat×AObj)):dQ L ((i,o)::l)=if ew i L=true then dQ L l else (i,o)::dQ L l:=rfl
theorem Fi (i:Nat):ew i []=false:=rfl
theorem Fj (i j:Nat) (l:List Nat):ew i (j::l)=if i=j then true else ew i l:=rfl
def csG:=an @k9 (an @ld (an @Fi (@Fj)))
theorem lf {L:List Nat}{l:List AV} (h:iq L l=false):∀v∈l,v.men L=false:=by
 induction l with
 |nil=>simp
 |cons u l ih =>
  simp only[iq,Bool.or_eq_false_iff] at h;intro v hv;rcases List.mem_cons.1 hv with rfl | hv
  ·exact h.1
  ·exact ih h.2 v hv
theorem Fk {L:List Nat}{x:AV} (h:x.men L=false):∀e∈x.cells,e.men L=false:=by
 cases x with
 |p d =>
  intro e he;simp only[AV.cells,List.mem_map] at he;obtain⟨_,_,rfl⟩:=he;unfold AV.men;rfl
 |agg l=>rw[AV.men] at h;exact lf h
 |_=>intro e he;simp only[AV.cells,List.mem_singleton] at he;subst he;exact h
section
variable {w0:World}{base:Bs}{nt:Nat}{loc loc':aU}{a:Act}{w:World}{OT:List TypeId}{N N':Nat→Prop}{r:Nat→AV}{m:Mem}
theorem RV.lose {L:List Nat}{v:Value}{x:AV} (h:RV w N loc v x) (hx:x.men L=false) (hn:∀b,N b→N' b) (hl:∀id K,L.contains id=false→loc id=some K→loc' id=some K):RV w N' loc' v x:=by
 induction h with
 |und v=>exact .und v
 |p v d h=>exact .p v d (h.mono (fun _ _=>rfl) hn)
 |agg cs l h1 h2 _ ih=>rw[AV.men] at hx;exact .agg cs l h1 h2 fun i d hd=>ih i d hd (lf hx d (List.mem_of_getElem? hd))
 |tup cs l h1 _ ih=>rw[AV.men] at hx;exact .tup cs l h1 fun i d hd=>ih i d hd (lf hx d (List.mem_of_getElem? hd))
 |nils T sz=>exact .nils T sz
 |slice K id off len cap h1 h2 h3 h4 h5=>rw[AV.men] at hx;exact .slice K id off len cap (hl _ _ hx h1) h2 h3 h4 h5
 |sliceEmp K id off p h1=>rw[AV.men] at hx;exact .sliceEmp K id off p (hl _ _ hx h1)
 |arr K id off len cap h1 h2 h3 h4 h5=>rw[AV.men] at hx;exact .arr K id off len cap (hl _ _ hx h1) h2 h3 h4 h5
 |arrEmp K id off p h1=>rw[AV.men] at hx;exact .arrEmp K id off p (hl _ _ hx h1)
 |ptr K id i off h1 h2=>rw[AV.men] at hx;exact .ptr K id i off (hl _ _ hx h1) h2
 |cell v h=>exact .cell v h
theorem Rel.dropL (h:Rel w0 base nt loc ⟨r,m⟩ a w) (L:List Nat){r':Nat→AV}{m':Mem} (hr:∀t,r' t = .und∨(r' t=r t∧(r t).men L=false)) (hm:∀i,m' i=if L.contains i then none else m i)
  (hc:∀i o,m' i=some o→o.men L=false) (h9:L.contains aQ=false):Rel w0 base nt (fun i=>if L.contains i then none else loc i) ⟨r',m'⟩ a w:=by
 have hl:∀j K,L.contains j=false→loc j=some K→(fun i=>if L.contains i then none else loc i) j=some K:=fun j K hj hK=>by simp only[hj];exact hK
 have hother:∀j ob,m' j=some ob→L.contains j=false∧m j=some ob:=by
  intro j ob hob;rw[hm] at hob;cases hj:L.contains j with
  |true=>rw[hj] at hob;cases hob
  |false=>rw[hj] at hob;exact⟨rfl,hob⟩
 have hN:∀b,NB base m loc w b→NB base m' (fun i=>if L.contains i then none else loc i) w b:=by
  rintro b hbN;refine⟨hbN.1,hbN.2.1,?_⟩;rintro⟨j,ob,Lj,h1,h2,h3,h4,h5⟩;obtain⟨hj,g1⟩:=hother j ob h1;simp only[hj] at h3;exact hbN.2.2 ⟨j,ob,Lj,g1,h2,h3,h4,h5⟩
 refine⟨h.ext,h.defers,h.size,h.low,?_,fun t => ?_,?_,?_,h.keepL.turn (fun o0 g1 g2=>⟨o0,by dsimp only;rw[hm,h9];exact g1,g2⟩) (fun _=>by simp only[h9];rfl)⟩
 ·intro j hj;dsimp only at hj ⊢;rw[hm] at hj;cases e:L.contains j with
  |true=>rfl
  |false=>rw[e] at hj;exact h.dom j hj
 ·dsimp only;rcases hr t with e | ⟨e,e2⟩<;>rw[e]
  ·exact .und _
  ·exact RV.lose (L:=L) (h.tmps t) e2 hN hl
 ·intro j ob hob;obtain⟨e,g1⟩:=hother j ob hob;obtain⟨Lj,hLj,hokj⟩:=h.objs j ob g1;refine⟨Lj,hl j Lj e hLj,hokj.sz,hokj.nil,fun hn => ?_⟩;obtain⟨c,fr,k1,k2,k3,k4,k5⟩:=hokj.at_ hn;refine⟨c,fr,k1,k2,?_,k4,fun hf=>hN _ (k5 hf)⟩;have hmen:=hc j ob hob;unfold AObj.men at hmen;cases hcont:ob.cont with
  |row l=>rw[hcont] at k3;exact⟨k3.1,k3.2.1,fun i e j d h1 h2=>⟨(k3.2.2 i e j d h1 h2).1,(k3.2.2 i e j d h1 h2).2.mono (fun _ _=>rfl) hN⟩⟩
  |junk=>rw[hcont] at k3;exact k3
  |box v =>
   rw[hcont] at k3 hmen;exact⟨k3.1,k3.2.1,k3.2.2.1,fun j d h1=>(k3.2.2.2 j d h1).lose (Fk hmen d (List.mem_of_getElem? h1)) hN hl⟩
 ·intro j j' ob ob' Lj Lj' hob hob' hf hLj hLj' hn hn' hbb;obtain⟨e,g1⟩:=hother j ob hob;obtain⟨e',g1'⟩:=hother j' ob' hob';simp only[e] at hLj;simp only[e'] at hLj';exact h.inj j j' ob ob' Lj Lj' g1 g1' hf hLj hLj' hn hn' hbb
theorem Sub.dropL (L:List Nat){r':Nat→AV}{m':Mem} (hr:∀t,r' t = .und∨(r' t=r t∧(r t).men L=false)) (hm:∀i,m' i=if L.contains i then none else m i)
  (hc:∀i o,m' i=some o→o.men L=false) (h9:L.contains aQ=false):Sub OT ⟨r,m⟩ ⟨r',m'⟩:=by
 rintro C a w rfl ⟨⟨loc,hR⟩,h2⟩;refine⟨⟨_,hR.dropL L hr hm hc h9⟩,fun j o ho => ?_⟩;dsimp only at ho;rw[hm] at ho;split at ho
 ·cases ho
 ·exact h2 j o ho
theorem oW {L:List Nat}:∀{l:List (Nat×AV)} (t:Nat),ir L l=true→(av l t).men L=false
 |[],t,_=>by rw[fF];unfold AV.men;rfl
 |(i,v)::l,t,h=>by
  simp only[ir,Bool.and_eq_true,Bool.not_eq_true'] at h;rw[dw];split
  ·exact h.1
  ·exact oW t h.2
theorem oX (L:List Nat):∀(l:List (Nat×AObj)) (i:Nat),az (dQ L l) i=if L.contains i then none else az l i
 |[],i=>by rw[k9,jb];split<;>rfl
 |(j,o)::l,i=>by
  have ih:=oX L l i;rw[ld,en];by_cases hj:ew j L=true
  ·rw[if_pos hj,ih];by_cases e:i=j
   ·subst e;rw[jz,hj];rfl
   ·rw[if_neg e]
  ·rw[if_neg hj,en,ih];by_cases e:i=j
   ·subst e;rw[if_pos rfl,jz,if_neg hj,if_pos rfl]
   ·rw[if_neg e,if_neg e]
theorem lg {L:List Nat}:∀{l:List (Nat×AObj)} (i:Nat) (o:AObj),eT L l=true→az (dQ L l) i=some o→o.men L=false
 |[],i,o,_,h=>by rw[k9] at h;cases h
 |(j,q)::l,i,o,h,ho=>by
  simp only[eT,Bool.and_eq_true,Bool.or_eq_true,Bool.not_eq_true'] at h;rw[ld] at ho;split at ho
  ·exact lg i o h.2 ho
  ·rename_i hj;rw[en] at ho;split at ho
   ·cases ho;rw[jz] at h;exact h.1.resolve_left hj
   ·exact lg i o h.2 ho
theorem oY {L:List Nat}:∀{l:List (Nat×AObj)},eT L l=true→L.contains aQ=false
 |[],h=>by simpa[eT] using h
 |(j,q)::l,h=>by
  simp only[eT,Bool.and_eq_true] at h;exact oY h.2
theorem Sub.keepG (ts L:List Nat){R:List (Nat×AV)}{M:List (Nat×AObj)} (h1:ir L (sel (av R) ts)=true) (h2:eT L M=true):Sub OT ⟨av R,az M⟩ ⟨av (sel (av R) ts),az (dQ L M)⟩:=
 (Sub.und (jd ts)).tr (Sub.dropL L (fun t => .inr ⟨rfl,oW t h1⟩) (oX L M) (fun i o ho=>lg i o h2 ho) (oY h2))
theorem Sub.toG (ts L:List Nat){R:List (Nat×AV)}{M:List (Nat×AObj)}{r':Nat→AV}{m':Mem} (h1:ir L (sel (av R) ts)=true:=by rfl) (h2:eT L M=true:=by rfl) (e1:av (sel (av R) ts)=r':=by rfl) (e2:az (dQ L M)=m':=by rfl):Sub OT ⟨av R,az M⟩ ⟨r',m'⟩:=by
 subst e1 e2;exact Sub.keepG ts L h1 h2
theorem Sub.nilG (t i T sz:Nat){R:List (Nat×AV)}{M:List (Nat×AObj)}{r':Nat→AV}{m':Mem} (ht:av R t = .nils T sz:=by rfl) (hm:az M i=none:=by rfl) (hT:OT.contains T=true:=by rfl)
  (e1:av (eL t (.slice i 0 0) R)=r':=by rfl) (e2:az (di i ⟨T,sz,.row [],false⟩ M)=m':=by rfl):Sub OT ⟨av R,az M⟩ ⟨r',m'⟩:=by
 subst e1 e2;rw[←jc,←eM];exact Sub.nil t i ht hm (by simpa using hT)
theorem Fl (T sz bytes:Nat) (x y:Opd) (id:Nat) (s:St):dk T sz bytes x y id s=(match bx sz s.m (y.ev s.r) with
 |none=>none
 |some ys=>match x.ev s.r with
  |.nils _ sz'=>match s.m id with
   |none=>if sz'=sz then some (decide (ys.length*bytes≤140737488355328∧ys.length≤9223372036854775807),.slice id 0 ys.length,⟨s.r,upd s.m id (some ⟨T,sz,.row ys,false⟩)⟩) else none
   |some _=>none
  |.slice i 0 n=>match s.m i with
   |some ⟨T',sz',.row l,false⟩=>if sz'=sz∧T'=T∧n=l.length∧i≠999999 then
     some (decide ((n+ys.length)*bytes≤140737488355328∧n+ys.length≤9223372036854775807),.slice i 0 (n+ys.length),⟨eX i s.r,upd (cF i s.m) i (some ⟨T,sz,.row (l++ys),false⟩)⟩) else none
   |_=>none
  |_=>none):=rfl
theorem Fo (sz:Nat) (m:Mem) (v:AV):bx sz m v=(match v with
 |.slice j off n=>match m j with
  |some ⟨_,sz',.row l,_⟩=>if sz'=sz∧off+n≤l.length then some ((l.drop off).take n) else none
  |_=>none
 |.p (.list _ sz' l)=>if sz'=sz then some l else none
 |.nils _ sz'=>if sz'=sz then some [] else none
 |_=>none):=rfl
theorem Fp (sz:Nat) (l:List D) (r:Nat→AV) (M:Mem):cD sz l r M []=some l:=rfl
theorem Fq (sz:Nat) (l:List D) (r:Nat→AV) (M:Mem) (i:Nat) (x:Opd) (rest:List (Nat×Opd)):cD sz l r M ((i,x)::rest)=(match (x.ev r).toD false M 20 with
 |some d=>if d.cells.length=sz∧d.cells.all D.one=true∧i<l.length then cD sz (l.set i d) r M rest else none
 |none=>none):=rfl
theorem Fr (z:D):List.replicate 1 z=[z]:=rfl
theorem Fs (z:D):List.replicate 2 z=[z,z]:=rfl
theorem Ft (x z:D) (l:List D):(z::l).set 0 x=x::l:=rfl
theorem Fu (x y z:D) (l:List D):(z::y::l).set 1 x=z::x::l:=rfl
theorem Fv (G:FuncId→List D→D→Prop) (dd:Option Nat) (T:Nat) (sz:Nat) (z:D) (n:Nat) (parts:List (Nat×Opd)) (g:Option (Nat×Bool)) (K:St→Prop) (s:St):au G ⟨dd,.buildSliceF T sz z n parts,g⟩ K s=fin dd K (ev (.buildSliceF T sz z n parts) (dd.getD 0) s):=rfl
theorem Fw (T:Nat) (sz:Nat) (z:D) (n:Nat) (parts:List (Nat×Opd)) (id:Nat) (s:St):ev (.buildSliceF T sz z n parts) id s=(if id=999999 then none else match s.m id with
  |none=>match cD sz (List.replicate n z) s.r s.m parts with
   |some l=>some (true,.slice id 0 n,⟨s.r,upd s.m id (some ⟨T,sz,.row l,true⟩)⟩)
   |none=>none
  |some _=>none):=rfl
def lh (id:Nat):Option (Bool×AV×St)→Option (Bool×AV×St)
 |some (p,v,t)=>some (p,v,cE (l5 id v) t)
 |none=>none
theorem Fx (id:Nat) (p:Bool) (i o n:Nat) (t:St):lh id (some (p,.slice i o n,t))=some (p,.slice i o n,cE i t):=rfl
theorem Fy (G:FuncId→List D→D→Prop) (d:Option Nat) (T sz b:Nat) (x y:Opd) (g:Option (Nat×Bool)) (K:St→Prop) (s:St):au G ⟨d,.appendF T sz b x y,g⟩ K s=fin d K (lh (d.getD 0) (dk T sz b x y (d.getD 0) s)):=by
 unfold au lh;simp only;cases dk T sz b x y (d.getD 0) s<;>rfl
theorem Fz (id:Nat) (r:Nat→AV) (m:Mem):cE id ⟨r,m⟩=(if id=999999 then ⟨r,m⟩ else match m id with
 |some o=>⟨r,upd m id (some ⟨o.T,o.sz,o.cont,true⟩)⟩
 |none=>⟨r,m⟩):=rfl
def csA:=an @Fv (an @Fw (an @Fx (an @Fy (an @Fz (an @Fp (an @Fq (an @Fr (an @Fs (an @Ft (an @Fu (an @Fl (an @Fo (an @oq (an @ot (an @og (an @oh (an @oi (an @ol (an @om (an @oo (an @Ey (an @Ez (an @EA (an @of_row (an @EC (@ED))))))))))))))))))))))))))
def csW:=an cs0 (an cs1 (an cs2 (an cs3 (an cs4 (an cs5 (an cs6 (an csG (an csA (an @St.put.eq_1 (an @St.put.eq_2 (an @em.eq_1 (an @bL.eq_1 (an @bL.eq_2 (an @bL.eq_3 (an @bL.eq_4 (an @bL.eq_5 (an @Option.getD_none.{0} (an @forall_const.{0} (@forall_const.{1})))))))))))))))))))
end
section
variable {OT:List TypeId}{r:Nat→AV}{m:Mem}
theorem Sub.reveal (t:Nat) (d:D) (hd:(r t).toD false m 20=some d):Sub OT ⟨r,m⟩ ⟨upd r t (.p d),m⟩:=by
 rintro C a w-⟨⟨loc,hr⟩,h2⟩;refine⟨⟨loc,hr.ext,hr.defers,hr.size,hr.low,hr.dom,fun u => ?_,hr.objs,hr.inj,hr.keepL⟩,h2⟩;by_cases e:u=t
 ·subst e;simp only[aD];exact .p _ _ (fE hr hd (hr.tmps u))
 ·simp only[aA _ _ e];exact hr.tmps u
end
def cm (k T sz:Nat) (l:List D) (ds:List D):St:=⟨fun t=>if t=k then .slice aQ 0 l.length else match ds[t]? with
 |some d => .p d
 |none => .und,fun i=>if i=aQ then some ⟨T,sz,.row l,false⟩ else none⟩
def gG (s:St):St:=⟨s.r,fun i=>if i=aQ then none else s.m i⟩
inductive ResLt (s:St) (rs:List (Nat×Option (Bool×Nat))):D→Prop
 |plain {r:D}:af (gG s) rs=some r→(∀m,r≠.tup [.int .i64 m])→ResLt s rs r
 |pre {m:Int}{t:Nat}:rs=[(t,none)]→s.r t = .slice aQ 0 m.toNat→ResLt s rs (.tup [.int .i64 m])
def jG (T sz:Nat) (l':List D) (r:D) (rs:List (Nat×Option (Bool×Nat))):AExit→St→Prop
 |.exit _,_=>False
 |_,s=>s.m aQ=some ⟨T,sz,.row l',false⟩∧ResLt s rs r
theorem pG {w:World}{N:Nat→Prop}{b o sz n:Nat}{v:Value}{r:D} (h:∀m,r≠.tup [.int .i64 m]) (hv:V w N v r):iJ w N b o sz n v r:=by
 unfold iJ;split
 ·exact absurd rfl (h _)
 ·exact hv
theorem aI.conL {P:Program}{A OT:List TypeId}{f:FuncId}{cc:CC}{rs:List (Nat×Option (Bool×Nat))}{nt k:Nat}{ds:List D}{T sz:Nat}{l l':List D}{r:D} (h:aI P f OT cc rs nt) (hA':OT.all (fun T => !A.contains T&&(decide (T<70000000)||decide (80000000≤T)))=true) (hn:ds.length≤nt) (hT:OT.contains T=true) (hk:k<ds.length)
  (hcw:cw OT (ConX P A) cc (jG T sz l' r rs) (cm k T sz l ds)):eA P A f k ds T sz l r l':=by
 have hA:=(kr hA').1;have hW:=(kr hA').2;obtain⟨fn,H,hf,hbd,hm,hc,hr,rfl⟩:=h;obtain⟨code,hb⟩:=Option.isSome_iff_exists.1 hbd;rw[hb] at hc;simp only[Option.getD_some] at hc;intro own w vs b o cap c fr h1 h2 h3 h4 hob hargk hheap hcap hcap2 hroom hfr hcont;have hblt:b<w.heap.size:=lN hheap;have hnb:∀x,(x<w.heap.size∧¬ own x)→NB ⟨own,some ⟨b,o,c.size,sz,false⟩⟩ (cm k T sz l ds).m (fun i=>if i=aQ then some ⟨b,o,c.size,sz,false⟩ else none) w x:=fun x hx=>⟨hx.1,hx.2,by
  rintro⟨id,ob,L,g1,g2,g3,g4,g5⟩;dsimp only[cm] at g1 g3;by_cases e:id=aQ
  ·subst e;rw[if_pos rfl] at g3;cases g3;exact hx.2 (g5 ▸ hob)
  ·rw[if_neg e] at g1;cases g1⟩
 have hbody:=nZ (C:=⟨P,A,OT,fn.ntmps,w,⟨own,some ⟨b,o,c.size,sz,false⟩⟩⟩) ⟨h2,fun T hT=>by
  rw[List.all_eq_true] at hA;have:=hA T hT;simpa using this,fun b hb c T fr hc hT=>by rw[hW] at hT;cases hT⟩ hm H code cc _ (cm k T sz l ds) { tmps:=vs++Array.replicate (fn.ntmps-vs.size) undef,defers:=[] } w hc hcw ⟨⟨fun i=>if i=aQ then some ⟨b,o,c.size,sz,false⟩ else none,ExtL.rf _ w,rfl,by simp;omega,h1,fun id hid => ?_,fun t => ?_,fun id ob ho => ?_,fun id id' ob ob' L L' g1 g2 _ _ _ _ _ _ => ?_,fun L hL => ?_⟩,fun id ob ho => ?_⟩
 ·refine calls_of_wp hf hb (wp_mono hbody ?_);intro e a' w' hq;have fin:(∃t,Is ⟨P,A,OT,fn.ntmps,w,⟨own,some ⟨b,o,c.size,sz,false⟩⟩⟩ t a' w'∧t.m aQ=some ⟨T,sz,.row l',false⟩∧ResLt t rs r)→a'.defers=[]∧∃v,(results fn a'.tmps).run P w' = .ok v w'∧∃v' c',Ending.returned v=Ending.returned v'∧ExtL ⟨own,some ⟨b,o,c.size,sz,false⟩⟩ w w'∧w'.heap[b]? = some (.cells c' T fr)∧c'.size=c.size ∧
   bf w' (fun b=>b<w'.heap.size∧¬ own b) (fun _=>none) c' o sz (.row l')∧iJ w' (fun b=>b<w'.heap.size∧¬ own b) b o sz c.size v' r:=by
   rintro⟨t,ht,hlm,hres⟩;obtain⟨loc,hrel⟩:=ht.1;refine⟨hrel.defers,?_⟩;obtain⟨L,hL,hok⟩:=hrel.objs aQ _ hlm;obtain⟨y1,y2,y3,-⟩:=hrel.keepL _ rfl;rw[hL] at y1;cases y1;obtain⟨c1,fr1,k1,k2,k3,k4,-⟩:=hok.at_ rfl;obtain⟨c2,z1,z2⟩:=hrel.ext.lentB b c T fr hheap;dsimp only at k1 k2 z2;rw[z2] at k1;simp only[Option.some.injEq,Obj.cells.injEq,true_and] at k1;obtain⟨rfl,rfl⟩:=k1;have hcont':bf w' (fun b=>b<w'.heap.size∧¬ own b) (fun _=>none) c2 o sz (.row l'):=⟨k3.1,k3.2.1,fun i e j d q1 q2=>⟨(k3.2.2 i e j d q1 q2).1,(k3.2.2 i e j d q1 q2).2.mono (fun _ _=>rfl) fun b hb=>⟨hb.1,hb.2.1⟩⟩⟩
   have hresults:∀vs:List Value,(fn.results.toList.mapM (ek a'.tmps)).run P w' = .ok vs w'→(results fn a'.tmps).run P w' = .ok (if h:vs.toArray.size=1 then vs.toArray[0] else .tuple vs.toArray) w':=by
    intro vs hv;have hv':(fn.results.mapM (ek a'.tmps)).run P w' = .ok vs.toArray w':=by
     rw[Array.mapM_eq_mapM_toList];simp[hv]
    rw[rh];simp only[Sem.run_bind,hv',Result.andThen];rfl
   cases hres with
   |plain hres hne =>
    have key:∀ds',ae (gG t) rs=some ds'→∃vs:List Value,(fn.results.toList.mapM (ek a'.tmps)).run P w' = .ok vs w'∧vs.length=ds'.length∧∀(i:Nat) (d:D),ds'[i]? = some d→V w' (fun b=>b<w'.heap.size∧¬ own b) (vs.getD i undef) d:=by
     intro ds' hds;exact mA (M':=(gG t).m) (fun i x hx=>by
      dsimp only[gG] at hx;split at hx
      ·cases hx
      ·exact hx) (.inr (by simp[gG])) hrel _ _ _ hr hds
    unfold af at hres;split at hres
    ·rename_i d' hd';simp only[Option.some.injEq] at hres;subst hres;obtain⟨vs,q1,q2,q3⟩:=key _ hd'
     match vs,q2 with
     |[v],_ =>
      refine⟨v,by rw[hresults _ q1];simp,v,c2,rfl,hrel.ext,z2,z1,hcont',pG hne ?_⟩;have:=q3 0 d' rfl;simpa using this
    ·rename_i ds' hne1 hd';simp only[Option.some.injEq] at hres;subst hres;obtain⟨vs,q1,q2,q3⟩:=key _ hd';have hne2:vs.length≠1:=by
      intro h1;rw[q2] at h1
      match ds',h1 with
      |[d'],_=>exact hne1 d' rfl
     exact⟨.tuple vs.toArray,by rw[hresults _ q1,dif_neg (by simpa using hne2)],_,c2,rfl,hrel.ext,z2,z1,hcont',pG hne (.tup _ _ (by simpa using q2) (fun i e he=>by simpa using q3 i e he))⟩
    ·cases hres
   |pre hrs hst =>
    rename_i m tt;subst hrs;cases hfr:fn.results.toList with
    |nil=>rw[hfr] at hr;simp[dh] at hr
    |cons x rest =>
     rw[hfr] at hr;obtain⟨y,rs',g1,g2,g3⟩:=ri hrel x rest _ hr;obtain⟨rfl,rfl⟩:=List.cons.inj g1;obtain⟨v,q1,q2⟩:=g3 t.m _ (fun _ _ h=>h) rfl;have hrest:rest=[]:=by
      cases rest with
      |nil=>rfl
      |cons y ys =>
       cases y<;>simp only[dh] at g2
       ·simp[Option.map_eq_some_iff] at g2
       ·split at g2
        ·split at g2
         ·simp[Option.map_eq_some_iff] at g2
         ·cases g2
        ·cases g2
     subst hrest;refine⟨v,by rw[hresults [v] (by rw[hfr];simp[List.mapM_cons,q1])];simp,v,c2,rfl,hrel.ext,z2,z1,hcont',?_⟩;rw[hst] at q2;show (∃cap,v = .slice (some ⟨b,o,none⟩) m.toNat cap∧m.toNat≤cap∧cap≤9223372036854775807∧o+cap*sz≤c.size)∨(m.toNat=0∧∃p,v = .slice p 0 0)
     generalize m.toNat=mm at q2 ⊢;cases q2 with
     |slice L id off len cap' e1 e2 e3 e4 e5 =>
      rw[hL] at e1;cases e1;refine .inl ⟨cap',?_,e3,e4,?_⟩
      ·simp
      ·simpa using e5
     |sliceEmp L id off p e1 =>
      exact .inr ⟨rfl,p,rfl⟩
  cases e with
  |normal=>obtain⟨t,ht,hres⟩:=hq;exact fin ⟨t,ht,hres⟩
  |ret=>obtain⟨t,ht,hres⟩:=hq;exact fin ⟨t,ht,hres⟩
  |exit id=>obtain⟨t,ht,hbad⟩:=hq;exact hbad.elim
  |_=>exact hq.elim
 ·dsimp only[cm] at hid;split at hid
  ·cases hid
  ·rename_i e;rw[if_neg e]
 ·by_cases htk:t=k
  ·subst htk;have hr':(cm t T sz l ds).r t = .slice aQ 0 l.length:=by simp[cm]
   rw[hr'];have hg:(vs++Array.replicate (fn.ntmps-vs.size) undef).getD t undef=vs.getD t undef:=by
    simp only[Array.getD_eq_getD_getElem?];rw[Array.getElem?_append_left (by omega)]
   simp only[hg];rw[hargk];have:=RV.slice (w:=w) (N:=NB ⟨own,some ⟨b,o,c.size,sz,false⟩⟩ (cm t T sz l ds).m (fun i=>if i=aQ then some ⟨b,o,c.size,sz,false⟩ else none) w) (loc:=fun i=>if i=aQ then some ⟨b,o,c.size,sz,false⟩ else none) ⟨b,o,c.size,sz,false⟩ aQ 0 l.length cap (if_pos rfl) rfl hcap hcap2 (by simpa using hroom);simpa using this
  ·by_cases ht:t<vs.size
   ·have hd:∃d,ds[t]? = some d:=⟨ds[t]'(by omega),by simp⟩
    obtain⟨d',hd⟩:=hd;have hr':(cm k T sz l ds).r t = .p d':=by simp[cm,hd,htk]
    rw[hr'];have hg:(vs++Array.replicate (fn.ntmps-vs.size) undef).getD t undef=vs.getD t undef:=by
     simp only[Array.getD_eq_getD_getElem?];rw[Array.getElem?_append_left ht]
    simp only[hg];exact .p _ _ ((h4 t d' htk hd).mono (fun _ _=>rfl) hnb)
   ·have hr':(cm k T sz l ds).r t = .und:=by
     have:ds[t]? = none:=List.getElem?_eq_none (by omega);simp[cm,this,htk]
    rw[hr'];exact .und _
 ·dsimp only[cm] at ho;split at ho
  case isFalse=>cases ho
  rename_i e;subst e;cases ho;refine⟨⟨b,o,c.size,sz,false⟩,if_pos rfl,rfl,fun hh=>(by cases hh),fun _=>⟨c,fr,hheap,rfl,⟨hcont.1,hcont.2.1,fun i e j d q1 q2=>⟨(hcont.2.2 i e j d q1 q2).1,(hcont.2.2 i e j d q1 q2).2.mono (fun _ _=>rfl) hnb⟩⟩,fun _=>⟨.inr ⟨_,rfl,rfl⟩,hfr⟩,fun hh=>(by cases hh)⟩⟩
 ·dsimp only[cm] at g1 g2;split at g1
  case isFalse=>cases g1
  split at g2
  case isFalse=>cases g2
  rename_i e1 e2;rw[e1,e2]
 ·cases hL;exact⟨if_pos rfl,hob,rfl,⟨T,sz,.row l,false⟩,by simp[cm],rfl⟩
 ·dsimp only[cm] at ho;split at ho
  case isFalse=>cases ho
  cases ho;simpa using hT
inductive ResNew (s:St) (rs:List (Nat×Option (Bool×Nat))) (T sz:Nat):List D→Prop
 |row {l:List D}{y:Nat×Option (Bool×Nat)}{i:Nat}:rs=[y]→ah s y=some (.slice i 0 l.length)→s.m i=some ⟨T,sz,.row l,false⟩→ResNew s rs T sz l
 |nil {y:Nat×Option (Bool×Nat)}:rs=[y]→ah s y=some (.nils T sz)→ResNew s rs T sz []
def lG (T sz:Nat) (l:List D) (rs:List (Nat×Option (Bool×Nat))):AExit→St→Prop
 |.exit _,_=>False
 |_,s=>ResNew s rs T sz l
end Go.Proofs.Ytdchbabgopglcaa.M
