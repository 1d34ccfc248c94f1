/- Lemmas. -/
import Derived.Test.YtbnhgnhgbhjkcaaGreatL22
import Derived.SizedLaws
import Derived.ChangeArms
import Derived.OpenShut
set_option linter.defProp false
set_option linter.unusedVariables false
namespace Go.Proofs.YtbnhgnhgbhjkcaaGreat.M
open Go.RowKit
inductive TyW (P:Program):TypeId→List D→Prop where
 |bool (t:TypeId) (b:Bool):P.underlying t=some .bool→TyW P t [.bool b]
 |int (t:TypeId) (k:IntKind) (n:Int):P.underlying t=some (.int k)→(Lit.int k n).wf=true→TyW P t [.int k n]
 |str (t:TypeId) (s:List UInt8):P.underlying t=some .string→s.length≤reachBytes→TyW P t [.str s]
 |slice (t e:TypeId) (l:List D):P.underlying t=some (.slice e)→l.length*P.bytesOf e≤reachBytes→(∀d∈l,TyW P e d.cells)→(∀d∈l,d.cells.length=P.cellsOf e∧(∀q∈d.cells,q.one=true)∧d.isAgg=bn P e)→TyW P t [.list (e+1000000) (P.cellsOf e) l]
 |struct (t:TypeId) (fs:Array Field) (l:List D):P.underlying t=some (.struct fs)→l.length=P.cellsOf t→(∀f∈fs.toList,TyW P f.type ((l.drop f.offset).take (P.cellsOf f.type)))→TyW P t l
theorem vZ {P:Program}{w:World}{N:Nat→Prop}{cs:List Value}:∀(fs:List Field) (o:Nat),fX P o fs cs.length=true→(∀f∈fs,∃l,CV w N ((cs.drop f.offset).take (P.cellsOf f.type)) l∧TyW P f.type l) →
  ∃l,CV w N (cs.drop o) l∧∀f∈fs,o≤f.offset∧TyW P f.type ((l.drop (f.offset-o)).take (P.cellsOf f.type))
 |[],o,h,_=>by
  simp[fX] at h;refine⟨[],⟨by simp;omega,by simp,by simp⟩,by simp⟩
 |f::fs,o,h,hf=>by
  simp only[fX,Bool.and_eq_true,beq_iff_eq] at h;obtain⟨rfl,h2⟩:=h;have hle:=sR h2;obtain⟨l',g1,g2⟩:=vZ fs _ h2 fun f' hf'=>hf f' (by simp[hf'])
  obtain⟨l,k1,k2⟩:=hf f (by simp);have hl:l.length=P.cellsOf f.type:=by rw[←k1.1];simp;omega
  refine⟨l++l',?_,fun f' hf' => ?_⟩
  ·have:=k1.append g1;rw[←List.drop_drop,List.take_append_drop] at this;exact this
  ·rcases List.mem_cons.1 hf' with rfl | hf'
   ·refine⟨Nat.le_refl _,?_⟩;rw[Nat.sub_self,List.drop_zero,List.take_append_of_le_length (by omega),List.take_of_length_le (by omega)];exact k2
   ·obtain⟨q1,q2⟩:=g2 f' hf';refine⟨by omega,?_⟩;rw[List.drop_append,List.drop_of_length_le (by omega),List.nil_append,hl,show f'.offset-f.offset-P.cellsOf f.type=f'.offset-(f.offset+P.cellsOf f.type) by omega];exact q2
section
variable {H:Type}{enc:TypeId×Value→H}{P:Program}{w:World}{spare:Nat→Bool}{held:Bool}{N:Nat→Prop}
theorem v7 {H:Type}{P:Program}{e:TypeId}:∀{ds:List (DataW H)}{d:DataW H},d∈ds→∀n∈d.weights P e,n∈DataW.weightsAll P e ds
 |d0::ds,d,hd,n,hn=>by
  simp only[DataW.weightsAll,List.mem_append];rcases List.mem_cons.1 hd with rfl | hd
  ·exact .inl hn
  ·exact .inr (v7 hd n hn)
theorem zgD {S:List TypeId} (hS:kY P S=true):∀(fuel:Nat) (t:TypeId) (cs:List Value) (x:DataW H×List MemPlace),t∈S→DataW.trod enc P w 0 spare held fuel t cs=some x→(∀n∈x.1.weights P t,n≤reachBytes) →
  ∃l,CV w (fun b=>b<w.heap.size) cs l∧TyW P t l∧(bn P t=false→∃d,l=[d]∧d.isAgg=false):=by
 intro fuel;induction fuel with
 |zero=>intro t cs x _ h _;simp[DataW.trod] at h
 |succ n ih =>
  intro t cs x ht h hsz;have hp:=hS;unfold kY at hp;rw[List.all_eq_true] at hp;have hpt':=hp t ht;rw[Bool.and_eq_true,decide_eq_true_eq] at hpt';have hpos:=hpt'.1;have hpt:=hpt'.2;clear hpt';split at hpt
  ·rename_i hu;obtain⟨b,rfl,-⟩:=DataW.trod_bool hu h;exact⟨[.bool b],⟨rfl,by simp[D.one],fun i d hd=>by
    match i,hd with
    |0,hd=>simp at hd;subst hd;exact .bool b
    |i+1,hd=>simp at hd⟩,.bool t b hu,fun _=>⟨_,rfl,rfl⟩⟩
  ·rename_i k hu;obtain⟨m,rfl,-,hw⟩:=DataW.trod_int hu h;exact⟨[.int k m],⟨rfl,by simp[D.one],fun i d hd=>by
    match i,hd with
    |0,hd=>simp at hd;subst hd;exact .int k m
    |i+1,hd=>simp at hd⟩,.int t k m hu hw,fun _=>⟨_,rfl,rfl⟩⟩
  ·rename_i hu;obtain⟨s,rfl,rfl,hw⟩:=DataW.trod_string hu h;exact⟨[.str s.data.toList],⟨rfl,by simp[D.one],fun i d hd=>by
    match i,hd with
    |0,hd=>simp at hd;subst hd;exact .str s
    |i+1,hd=>simp at hd⟩,.str t _ hu (hsz _ (by simp[DataW.weights])),fun _=>⟨_,rfl,rfl⟩⟩
  ·rename_i e hu;have he:e∈S:=by simpa using hpt
   have one:∀(δ:D),δ.one=true→δ.isAgg=false→∀v:Value,V w (fun b=>b<w.heap.size) v δ→TyW P t [δ]→cs=[v]→∃l,CV w (fun b=>b<w.heap.size) cs l∧TyW P t l∧(bn P t=false→∃d,l=[d]∧d.isAgg=false):=by
    rintro δ h1 h2 v hv hT rfl;exact⟨[δ],⟨rfl,by simpa using h1,fun i d hd=>by
     match i,hd with
     |0,hd=>simp at hd;subst hd;exact hv
     |i+1,hd=>simp at hd⟩,hT,fun _=>⟨_,rfl,h2⟩⟩
   rcases DataW.trod_slice hu h with⟨rfl,-⟩ | ⟨a,len,cap,elems,rest,m,hm,rfl,rfl,hb,hl,hcap,hlen,hel,-,-⟩
   ·exact one _ rfl rfl _ (.empty none 0 (e+1000000) (P.cellsOf e) (by omega)) (.slice t e [] hu (by simp) (by simp) (by simp)) rfl
   ·obtain rfl:m=n:=by omega
    have each:∀i,i<len→∃(d:D) (cs':List Value),CV w (fun b=>b<w.heap.size) cs' d.cells∧cs'.length=P.cellsOf e∧(∀j,j<P.cellsOf e→w.cell? ((a.add (i*P.cellsOf e)).add j)=some (cs'.getD j undef))∧TyW P e d.cells∧d.isAgg=bn P e:=by
     intro i hi;have h1:=hel i hi;rw[show elems[i]? = some (elems[i]'(by omega)) by simp[show i<elems.length by omega],Option.bind_eq_some_iff] at h1;obtain⟨cs',hcs,hy⟩:=h1;obtain⟨l,g1,g2,g3⟩:=ih e cs' _ he hy fun n hn=>hsz n (by
      simp only[DataW.weights,hu,List.mem_cons,List.mem_append];exact .inr (.inl (v7 (List.mem_map.2 ⟨_,List.getElem_mem (by omega),rfl⟩) n hn)))
     obtain⟨q1,q2⟩:=Vf hcs;cases hs:bn P e with
     |true=>exact⟨.agg l,cs',g1,q1,q2,g2,rfl⟩
     |false =>
      obtain⟨d,rfl,hd⟩:=g3 hs;have hc:d.cells=[d]:=by cases d<;>first | rfl | (simp[D.isAgg] at hd)
      exact⟨d,cs',by rw[hc];exact g1,q1,q2,by rw[hc];exact g2,hd⟩
    have hch:∃f:Nat→D×List Value,∀i,i<len→CV w (fun b=>b<w.heap.size) (f i).2 (f i).1.cells∧(f i).2.length=P.cellsOf e∧(∀j,j<P.cellsOf e→w.cell? ((a.add (i*P.cellsOf e)).add j)=some ((f i).2.getD j undef))∧TyW P e (f i).1.cells∧(f i).1.isAgg=bn P e:=by
     refine⟨fun i=>open Classical in if hi:i<len then ((each i hi).choose,(each i hi).choose_spec.choose) else default,fun i hi => ?_⟩;simp only[hi,dif_pos];exact (each i hi).choose_spec.choose_spec
    obtain⟨f,hf⟩:=hch;have hty:TyW P t [.list (e+1000000) (P.cellsOf e) ((List.range len).map fun i=>(f i).1)]:=by
     refine .slice t e _ hu ?_ ?_ ?_
     ·have:=hsz ((elems.length+rest.length)*P.bytesOf e) (by simp[DataW.weights,hu]);rw[hlen] at this;simp only[List.length_map,List.length_range];exact Nat.le_trans (Nat.mul_le_mul_right _ (Nat.le_add_right _ _)) this
     ·intro d hd;obtain⟨i,hi,rfl⟩:=List.mem_map.1 hd;exact (hf i (List.mem_range.1 hi)).2.2.2.1
     ·intro d hd;obtain⟨i,hi,rfl⟩:=List.mem_map.1 hd;obtain⟨k1,k2,k3,k4,k5⟩:=hf i (List.mem_range.1 hi);exact⟨k1.1.symm.trans k2,k1.2.1,k5⟩
    have hmax:maxLen=9223372036854775807:=rfl;by_cases h0:len=0
    ·subst h0;exact one _ rfl rfl _ (.empty (some a) cap (e+1000000) (P.cellsOf e) (by omega)) hty rfl
    ·have hz0:0<P.cellsOf e:=by
      have:=hp e he;rw[Bool.and_eq_true,decide_eq_true_eq] at this;exact this.1
     obtain⟨b,o,rfl⟩:∃b o,a=⟨b,o,none⟩:=by
      have h1:=(hf 0 (by omega)).2.2.1 0 (by omega);rw[Nat.zero_mul,Vh] at h1;exact Vg h1
     have hcell:∀i j,i<len→j<P.cellsOf e→w.cell? ⟨b,o+(i*P.cellsOf e+j),none⟩=some ((f i).2.getD j undef):=by
      intro i j hi hj;have:=(hf i hi).2.2.1 j hj;rw[dC,dC] at this;rw[←Nat.add_assoc];exact this
     obtain⟨c,T,fr,hblk,-,-⟩:=sS (hcell 0 0 (by omega) hz0);have hlt:b<w.heap.size:=by
      rcases Nat.lt_or_ge b w.heap.size with h | h
      ·exact h
      ·rw[Array.getElem?_eq_none h] at hblk;cases hblk
     have hget:∀i j,i<len→j<P.cellsOf e→o+(i*P.cellsOf e+j)<c.size∧c.getD (o+(i*P.cellsOf e+j)) undef=(f i).2.getD j undef:=by
      intro i j hi hj;obtain⟨c',T',fr',h1,h2,h3⟩:=sS (hcell i j hi hj);rw[hblk] at h1;cases h1;exact⟨h2,h3⟩
     have hidx:∀(i:Nat) (d:D),((List.range len).map fun i=>(f i).1)[i]? = some d→i<len∧d=(f i).1:=by
      intro i d hd;rw[List.getElem?_map,Option.map_eq_some_iff] at hd;obtain⟨q,hq,rfl⟩:=hd;obtain⟨h1,h2⟩:=List.getElem?_eq_some_iff.1 hq;simp at h1 h2;subst h2;exact⟨h1,rfl⟩
     have:=V.list (w:=w) (N:=fun b=>b<w.heap.size) b o cap (e+1000000) (P.cellsOf e) ((List.range len).map fun i=>(f i).1) c fr ⟨T,hblk,.inr (Nat.le_add_left _ _)⟩ hlt (by simpa using hl) (by omega) ?_ ?_ ?_
     ·simp only[List.length_map,List.length_range] at this;exact one _ rfl rfl _ this hty rfl
     ·intro d hd;obtain⟨i,hi,rfl⟩:=List.mem_map.1 hd;obtain⟨k1,k2,-⟩:=hf i (List.mem_range.1 hi);exact⟨k1.1.symm.trans k2,k1.2.1⟩
     ·intro i d j q hd hq;obtain⟨hi,rfl⟩:=hidx i d hd;obtain⟨k1,k2,-⟩:=hf i hi;have hj:=(List.getElem?_eq_some_iff.1 hq).1;exact (hget i j hi (by have:=k1.1;omega)).1
     ·intro i d j q hd hq;obtain⟨hi,rfl⟩:=hidx i d hd;obtain⟨k1,k2,-⟩:=hf i hi;have hj:=(List.getElem?_eq_some_iff.1 hq).1;rw[(hget i j hi (by have:=k1.1;omega)).2];exact k1.2.2 j q hq
  ·rename_i fs hu;simp only[Bool.and_eq_true,List.all_eq_true] at hpt;obtain⟨h1,h2⟩:=hpt;obtain⟨xs,m,hm,rfl,hlen,hxs,hfs⟩:=DataW.trod_struct hu h;obtain rfl:m=n:=by omega
   rw[←hlen] at h2;obtain⟨l,g1,g2⟩:=vZ (w:=w) (N:=fun b=>b<w.heap.size) fs.toList 0 h2 fun f hf=>by
    obtain⟨i,hi,rfl⟩:=List.mem_iff_getElem.1 hf;have hfi:fs[i]? = some (fs.toList[i]):=by simp at hi ⊢
    have h3:=hfs i _ hfi;rw[List.getElem?_eq_getElem (show i<xs.length by simp at hi;omega)] at h3;obtain⟨l,q1,q2,-⟩:=ih _ _ _ (by simpa using h1 _ hf) h3 fun n hn=>hsz n (by
     simp only[DataW.weights,hu];exact DataW.weights_mem_each (j:=i) (by simp[hfi]) (by rw[List.getElem?_map,List.getElem?_eq_getElem (show i<xs.length by simp at hi;omega)];rfl) n hn)
    exact⟨l,q1,q2⟩
   rw[List.drop_zero] at g1;exact⟨l,g1,.struct t fs l hu (by rw[←g1.1];exact hlen) fun f hf=>by simpa using (g2 f hf).2,fun hs=>by simp[bn,hu] at hs⟩
  ·cases hpt
theorem ia {S:List TypeId} (hS:kY P S=true){t:TypeId} (ht:t∈S){r:Reach}{b0:Nat}{v:Value}{d:DataW H}{ps:List MemPlace} (hval:Value.okWide P w r b0 t v) (h:DataW.Trod enc P w 0 spare held t v d ps) (hsz:∀n∈d.weights P t,n≤reachBytes) :
  ∃δ,V w (fun b=>b<w.heap.size) v δ∧TyW P t δ.cells∧δ.isAgg=bn P t:=by
 obtain⟨fuel,h⟩:=h;obtain⟨l,h1,h2,h3⟩:=zgD hS fuel t _ _ ht h hsz;have one:bn P t=false→v.cells = #[v]→∃δ,V w (fun b=>b<w.heap.size) v δ∧TyW P t δ.cells∧δ.isAgg=bn P t:=by
  intro hs hc;obtain⟨δ,rfl,hδ⟩:=h3 hs;have hcc:δ.cells=[δ]:=by cases δ<;>first | rfl | (simp[D.isAgg] at hδ)
  refine⟨δ,?_,by rw[hcc];exact h2,by rw[hδ,hs]⟩;have:=h1.2.2 0 δ rfl;rw[hc] at this;simpa using this
 cases h2 with
 |bool t b hu=>obtain⟨x,rfl⟩:=Go.WideShapes.okWide_bool hu hval;exact one (by simp[bn,hu]) rfl
 |int t k n hu=>obtain⟨x,rfl⟩:=Go.WideShapes.okWide_int hu hval;exact one (by simp[bn,hu]) rfl
 |str t s hu=>obtain⟨x,rfl⟩:=Go.WideShapes.okWide_string hu hval;exact one (by simp[bn,hu]) rfl
 |slice t e l hu=>obtain⟨a,n,c,rfl⟩:=Go.WideShapes.okWide_slice hu hval;exact one (by simp[bn,hu]) rfl
 |struct t fs l hu hl hf =>
  obtain⟨cs,rfl,-⟩:=Go.WideShapes.okWide_struct hu hval;refine⟨.agg l,.agg cs l (by have:=h1.1;simpa[Value.cells] using this) h1.2.1 fun i d hd => ?_,.struct t fs l hu hl hf,by simp[bn,hu,D.isAgg]⟩;have:=h1.2.2 i d hd;simpa[Value.cells] using this
theorem pJ {t e:TypeId}{δ:D} (hu:P.underlying t=some (.slice e)) (h:TyW P t δ.cells) (hg:δ.isAgg=bn P t):∃l:List D,δ = .list (e+1000000) (P.cellsOf e) l∧l.length*P.bytesOf e≤reachBytes∧(∀d∈l,TyW P e d.cells)∧(∀d∈l,d.cells.length=P.cellsOf e∧(∀q∈d.cells,q.one=true)∧d.isAgg=bn P e):=by
 have hs:bn P t=false:=by simp[bn,hu]
 rw[hs] at hg;have hcc:δ.cells=[δ]:=by cases δ<;>first | rfl | (simp[D.isAgg] at hg)
 rw[hcc] at h;generalize he:[δ]=m at h;cases h with
 |slice t e' l hu' h1 h2 h3 =>
  rw[hu] at hu';cases hu';injection he with he
  exact⟨l,he,h1,h2,h3⟩
 |bool t b hu'=>rw[hu] at hu';cases hu'
 |int t k n hu'=>rw[hu] at hu';cases hu'
 |str t s hu'=>rw[hu] at hu';cases hu'
 |struct t fs l hu'=>rw[hu] at hu';cases hu'
theorem v8 {t:TypeId}{δ:D} (hu:P.underlying t=some .string) (h:TyW P t δ.cells) (hg:δ.isAgg=bn P t):∃s:List UInt8,δ = .str s∧s.length≤reachBytes:=by
 have hs:bn P t=false:=by simp[bn,hu]
 rw[hs] at hg;have hcc:δ.cells=[δ]:=by cases δ<;>first | rfl | (simp[D.isAgg] at hg)
 rw[hcc] at h;generalize he:[δ]=m at h;cases h with
 |str t s hu' h1=>injection he with he;exact⟨s,he,h1⟩
 |bool t b hu'=>rw[hu] at hu';cases hu'
 |int t k n hu'=>rw[hu] at hu';cases hu'
 |slice t e l hu'=>rw[hu] at hu';cases hu'
 |struct t fs l hu'=>rw[hu] at hu';cases hu'
theorem mf {t:TypeId}{k:IntKind}{δ:D} (hu:P.underlying t=some (.int k)) (h:TyW P t δ.cells) (hg:δ.isAgg=bn P t):∃n:Int,δ = .int k n∧(Lit.int k n).wf=true:=by
 have hs:bn P t=false:=by simp[bn,hu]
 rw[hs] at hg;have hcc:δ.cells=[δ]:=by cases δ<;>first | rfl | (simp[D.isAgg] at hg)
 rw[hcc] at h;generalize he:[δ]=m at h;cases h with
 |int t k n hu' h1=>rw[hu] at hu';cases hu';injection he with he;exact⟨n,he,h1⟩
 |bool t b hu'=>rw[hu] at hu';cases hu'
 |str t s hu'=>rw[hu] at hu';cases hu'
 |slice t e l hu'=>rw[hu] at hu';cases hu'
 |struct t fs l hu'=>rw[hu] at hu';cases hu'
theorem zgE {t e:TypeId}{δ:D} (hu:P.underlying t=some (.slice e)) (he:P.underlying e=some .string) (hc:P.cellsOf e=1) (h:TyW P t δ.cells) (hg:δ.isAgg=bn P t):∃l:List (List UInt8),δ = .list (e+1000000) 1 (l.map .str)∧l.length*P.bytesOf e≤reachBytes∧∀s∈l,s.length≤reachBytes:=by
 obtain⟨l,rfl,h1,h2,h3⟩:=pJ hu h hg;have:∃m:List (List UInt8),l=m.map .str∧∀s∈m,s.length≤reachBytes:=by
  clear h hg h1;induction l with
  |nil=>exact⟨[],rfl,by simp⟩
  |cons d l ih =>
   obtain⟨m,rfl,hm⟩:=ih (fun d hd=>h2 d (by simp[hd])) (fun d hd=>h3 d (by simp[hd]));obtain⟨s,rfl,hs⟩:=v8 he (h2 d (by simp)) (h3 d (by simp)).2.2;refine⟨s::m,rfl,fun s' hs' => ?_⟩;rcases List.mem_cons.1 hs' with rfl | hs'
   ·exact hs
   ·exact hm s' hs'
 obtain⟨m,rfl,hm⟩:=this;exact⟨m,by rw[hc],by simpa using h1,hm⟩
theorem zgF {t e:TypeId}{k:IntKind}{δ:D} (hu:P.underlying t=some (.slice e)) (he:P.underlying e=some (.int k)) (hc:P.cellsOf e=1) (h:TyW P t δ.cells) (hg:δ.isAgg=bn P t):∃l:List Int,δ = .list (e+1000000) 1 (l.map (.int k))∧l.length*P.bytesOf e≤reachBytes:=by
 obtain⟨l,rfl,h1,h2,h3⟩:=pJ hu h hg;have:∃m:List Int,l=m.map (.int k):=by
  clear h hg h1;induction l with
  |nil=>exact⟨[],rfl⟩
  |cons d l ih =>
   obtain⟨m,rfl⟩:=ih (fun d hd=>h2 d (by simp[hd])) (fun d hd=>h3 d (by simp[hd]));obtain⟨s,rfl,hs⟩:=mf he (h2 d (by simp)) (h3 d (by simp)).2.2;exact⟨s::m,rfl⟩
 obtain⟨m,rfl⟩:=this;exact⟨m,by rw[hc],by simpa using h1⟩
end
theorem Uf (k:IntKind) (a b:Int):aP .add (.int k a) (.int k b)=some (inK k (a+b),.int k (a+b)):=by simp[aP]
theorem Ug (k:IntKind) (a b:Int):aP .sub (.int k a) (.int k b)=some (inK k (a-b),.int k (a-b)):=by simp[aP]
theorem Uh (k:IntKind) (a b:Int):aP .mul (.int k a) (.int k b)=some (inK k (a*b),.int k (a*b)):=by simp[aP]
theorem Ui (k:IntKind) (a b:Int):aP .quo (.int k a) (.int k b)=some (decide (b≠0)&&inK k (a.tdiv b),.int k (a.tdiv b)):=by simp[aP]
theorem Uj (k:IntKind) (a b:Int):aP .rem (.int k a) (.int k b)=some (decide (b≠0),.int k (a.tmod b)):=by simp[aP]
theorem Uk (k:IntKind) (a b:Int):aP .eql (.int k a) (.int k b)=some (true,.bool (decide (a=b))):=by simp[aP]
theorem Ul (k:IntKind) (a b:Int):aP .neq (.int k a) (.int k b)=some (true,.bool (!decide (a=b))):=by simp[aP]
theorem Um (k:IntKind) (a b:Int):aP .lss (.int k a) (.int k b)=some (true,.bool (decide (a<b))):=by simp[aP]
theorem Un (k:IntKind) (a b:Int):aP .leq (.int k a) (.int k b)=some (true,.bool (decide (a≤b))):=by simp[aP]
theorem Uo (k:IntKind) (a b:Int):aP .gtr (.int k a) (.int k b)=some (true,.bool (decide (b<a))):=by simp[aP]
theorem Up (k:IntKind) (a b:Int):aP .geq (.int k a) (.int k b)=some (true,.bool (decide (b≤a))):=by simp[aP]
theorem Uq (a b:List UInt8):aP .add (.str a) (.str b)=some (decide (a.length+b.length≤9223372036854775807),.str (a++b)):=rfl
theorem Ur (a b:List UInt8):aP .eql (.str a) (.str b)=some (true,.bool (decide (a=b))):=rfl
theorem Us (a b:List UInt8):aP .neq (.str a) (.str b)=some (true,.bool (!decide (a=b))):=rfl
theorem Ut (a b:Bool):aP .eql (.bool a) (.bool b)=some (true,.bool (a == b)):=rfl
theorem Uu (a b:Bool):aP .neq (.bool a) (.bool b)=some (true,.bool (!(a == b))):=rfl
theorem Uv (a:Bool):unD .not (.bool a)=some (true,.bool (!a)):=rfl
theorem Uw (k:IntKind) (a:Int):unD .neg (.int k a)=some (inK k (-a),.int k (-a)):=rfl
theorem Ux (n:Int):inK .i64 n=decide (-9223372036854775808≤n∧n≤9223372036854775807):=rfl
theorem Uy (n:Int):inK .u8 n=decide (0≤n∧n≤255):=rfl
theorem Uz (k:IntKind) (n:Int):D.isBool (.int k n)=false:=rfl
theorem UA (s:List UInt8):D.isBool (.str s)=false:=rfl
theorem UB (b:Bool):D.isBool (.bool b)=true:=rfl
def cs6:=an @Uf (an @Ug (an @Uh (an @Ui (an @Uj (an @Uk (an @Ul (an @Um (an @Un (an @Uo (an @Up (an @Uq (an @Ur (an @Us (an @Ut (an @Uu (an @Uv (an @Uw (an @Ux (an @Uy (an @Uz (an @UA (@UB))))))))))))))))))))))
def fgR (i:Nat):List (Nat×AV)→List (Nat×AV)
 |[]=>[]
 |(j,v)::l=>(j,v.forget i)::fgR i l
def fgM (i:Nat):List (Nat×AObj)→List (Nat×AObj)
 |[]=>[]
 |(j,v)::l=>(j,v.forget i)::fgM i l
theorem sA (i:Nat):fgR i []=[]:=rfl
theorem sB (i j:Nat) (v:AV) (l:List (Nat×AV)):fgR i ((j,v)::l)=(j,v.forget i)::fgR i l:=rfl
theorem sC (i:Nat):fgM i []=[]:=rfl
theorem sD (i j:Nat) (v:AObj) (l:List (Nat×AObj)):fgM i ((j,v)::l)=(j,v.forget i)::fgM i l:=rfl
theorem sE (i:Nat):AV.forget i .und = .und:=by unfold AV.forget;rfl
theorem sF (i:Nat) (d:D):AV.forget i (.p d) = .p d:=by unfold AV.forget;rfl
theorem UC (i T sz:Nat):AV.forget i (.nils T sz) = .nils T sz:=by unfold AV.forget;rfl
theorem UD (i j o n:Nat):AV.forget i (.slice j o n)=if j=i then .und else .slice j o n:=by unfold AV.forget;rfl
theorem UE (i j k o:Nat):AV.forget i (.ptr j k o)=if j=i then .und else .ptr j k o:=by unfold AV.forget;rfl
theorem of_row (i T sz:Nat) (l:List D) (f:Bool):AObj.forget i ⟨T,sz,.row l,f⟩=⟨T,sz,.row l,f⟩:=rfl
theorem UF (i T sz:Nat) (f:Bool):AObj.forget i ⟨T,sz,.junk,f⟩=⟨T,sz,.junk,f⟩:=rfl
theorem UG (i T sz:Nat) (d:D) (f:Bool):AObj.forget i ⟨T,sz,.box (.p d),f⟩=⟨T,sz,.box (.p d),f⟩:=by simp only[AObj.forget,sF]
theorem sG (i:Nat):∀(l:List (Nat×AV)),gh i (ar l)=ar (fgR i l)
 |[]=>by funext j;simp only[gh,sA,eS,sE]
 |(k,u)::l=>by
  funext j
  have ih:=congrFun (sG i l) j;simp only[gh] at ih;simp only[gh,sB,dv];split
  ·rfl
  ·exact ih
theorem sH (i:Nat):∀(l:List (Nat×AObj)),cZ i (ay l)=ay (fgM i l)
 |[]=>by funext j;simp only[cZ,sC,l7,Option.map_none]
 |(k,u)::l=>by
  funext j
  have ih:=congrFun (sH i l) j;simp only[cZ] at ih;simp only[cZ,sD,fN];split
  ·rfl
  ·exact ih
section
variable {w0:World}{base:Bs}{nt:Nat}{loc:a8}{s:St}{a:Act}{w:World}{OT:List TypeId}
theorem Rel.freeze (h:Rel w0 base nt loc s a w){i:Nat}{ob:AObj} (hi:i≠aS) (hm:s.m i=some ob):Rel w0 base nt loc ⟨s.r,upd s.m i (some ⟨ob.T,ob.sz,ob.cont,true⟩)⟩ a w:=h.frz0 hi hm
theorem Sub.freeze {i:Nat}{r:Nat→AV}{m:Mem}{ob:AObj} (hi:i≠aS) (hm:m i=some ob):Sub OT ⟨r,m⟩ ⟨r,upd m i (some ⟨ob.T,ob.sz,ob.cont,true⟩)⟩:=by
 rintro C a w rfl ⟨⟨loc,hr⟩,h2⟩;refine⟨⟨_,hr.freeze hi hm⟩,fun j o ho => ?_⟩;dsimp only at ho;by_cases e:j=i
 ·subst e;rw[aE] at ho;cases ho;exact h2 j ob hm
 ·rw[aC _ _ e] at ho;exact h2 j o ho
theorem jt (i:Nat) (ob:AObj) (ts:List Nat){r:Nat→AV}{m:Mem}{R:St→Prop} (hm:m i=some ob) (h:R ⟨ar (sel r ts),upd m i (some ⟨ob.T,ob.sz,ob.cont,true⟩)⟩) (hi:i≠aS:=by decide):∃u,Sub OT ⟨r,m⟩ u∧R u:=⟨_,(Sub.freeze hi hm).tr (Sub.und (i7 ts)),h⟩
end
mutual
def AV.men (L:List Nat):AV→Bool
 |.slice i _ _=>L.contains i
 |.ptr i _ _=>L.contains i
 |.arr i _ _=>L.contains i
 |.agg l=>jB L l
 |.tup l=>jB L l
 |_=>false
def jB (L:List Nat):List AV→Bool
 |[]=>false
 |v::l=>v.men L||jB L l
end
def AObj.men (L:List Nat) (o:AObj):Bool:=match o.cont with
 |.box v=>v.men L
 |_=>false
def jC (L:List Nat):List (Nat×AV)→Bool
 |[]=>true
 |(_,v)::l => !v.men L&&jC L l
def f8 (L:List Nat):List (Nat×AObj)→Bool
 |[] => !L.contains aS
 |(i,o)::l=>(L.contains i||!o.men L)&&f8 L l
def fw (i:Nat):List Nat→Bool
 |[]=>false
 |j::l=>if i=j then true else fw i l
theorem lj (i:Nat):∀l:List Nat,l.contains i=fw i l
 |[]=>rfl
 |j::l=>by
  rw[List.contains_cons,lj i l,fw];by_cases h:i=j<;>simp[h]
def eJ (L:List Nat):List (Nat×AObj)→List (Nat×AObj)
 |[]=>[]
 |(i,o)::l=>if fw i L=true then eJ L l else (i,o)::eJ L l
theorem nZ (L:List Nat):eJ L []=[]:=rfl
theorem n5 (L:List Nat) (i:Nat) (o:AObj) (l:List (Nat×AObj)):eJ L ((i,o)::l)=if fw i L=true then eJ L l else (i,o)::eJ L l:=rfl
theorem VZ (i:Nat):fw i []=false:=rfl
theorem V1 (i j:Nat) (l:List Nat):fw i (j::l)=if i=j then true else fw i l:=rfl
def csG:=an @nZ (an @n5 (an @VZ (@V1)))
theorem n6 {L:List Nat}{l:List AV} (h:jB L l=false):∀v∈l,v.men L=false:=by
 induction l with
 |nil=>simp
 |cons u l ih =>
  simp only[jB,Bool.or_eq_false_iff] at h;intro v hv;rcases List.mem_cons.1 hv with rfl | hv
  ·exact h.1
  ·exact ih h.2 v hv
theorem V2 {L:List Nat}{x:AV} (h:x.men L=false):∀e∈x.cells,e.men L=false:=by
 cases x with
 |p d =>
  intro e he;simp only[AV.cells,List.mem_map] at he;obtain⟨_,_,rfl⟩:=he;unfold AV.men;rfl
 |agg l=>rw[AV.men] at h;exact n6 h
 |_=>intro e he;simp only[AV.cells,List.mem_singleton] at he;subst he;exact h
section
variable {w0:World}{base:Bs}{nt:Nat}{loc loc':a8}{a:Act}{w:World}{OT:List TypeId}{N N':Nat→Prop}{r:Nat→AV}{m:Mem}
theorem RV.lose {L:List Nat}{v:Value}{x:AV} (h:RV w N loc v x) (hx:x.men L=false) (hn:∀b,N b→N' b) (hl:∀id K,L.contains id=false→loc id=some K→loc' id=some K):RV w N' loc' v x:=by
 induction h with
 |und v=>exact .und v
 |p v d h=>exact .p v d (h.mono (fun _ _=>rfl) hn)
 |agg cs l h1 h2 _ ih=>rw[AV.men] at hx;exact .agg cs l h1 h2 fun i d hd=>ih i d hd (n6 hx d (List.mem_of_getElem? hd))
 |tup cs l h1 _ ih=>rw[AV.men] at hx;exact .tup cs l h1 fun i d hd=>ih i d hd (n6 hx d (List.mem_of_getElem? hd))
 |nils T sz=>exact .nils T sz
 |slice K id off len cap h1 h2 h3 h4 h5=>rw[AV.men] at hx;exact .slice K id off len cap (hl _ _ hx h1) h2 h3 h4 h5
 |sliceEmp K id off p h1=>rw[AV.men] at hx;exact .sliceEmp K id off p (hl _ _ hx h1)
 |arr K id off len cap h1 h2 h3 h4 h5=>rw[AV.men] at hx;exact .arr K id off len cap (hl _ _ hx h1) h2 h3 h4 h5
 |arrEmp K id off p h1=>rw[AV.men] at hx;exact .arrEmp K id off p (hl _ _ hx h1)
 |ptr K id i off h1 h2=>rw[AV.men] at hx;exact .ptr K id i off (hl _ _ hx h1) h2
theorem Rel.dropL (h:Rel w0 base nt loc ⟨r,m⟩ a w) (L:List Nat){r':Nat→AV}{m':Mem} (hr:∀t,r' t = .und∨(r' t=r t∧(r t).men L=false)) (hm:∀i,m' i=if L.contains i then none else m i)
  (hc:∀i o,m' i=some o→o.men L=false) (h9:L.contains aS=false):Rel w0 base nt (fun i=>if L.contains i then none else loc i) ⟨r',m'⟩ a w:=by
 have hl:∀j K,L.contains j=false→loc j=some K→(fun i=>if L.contains i then none else loc i) j=some K:=fun j K hj hK=>by simp only[hj];exact hK
 have hother:∀j ob,m' j=some ob→L.contains j=false∧m j=some ob:=by
  intro j ob hob;rw[hm] at hob;cases hj:L.contains j with
  |true=>rw[hj] at hob;cases hob
  |false=>rw[hj] at hob;exact⟨rfl,hob⟩
 have hN:∀b,NB base m loc w b→NB base m' (fun i=>if L.contains i then none else loc i) w b:=by
  rintro b hbN;refine⟨hbN.1,hbN.2.1,?_⟩;rintro⟨j,ob,Lj,h1,h2,h3,h4,h5⟩;obtain⟨hj,g1⟩:=hother j ob h1;simp only[hj] at h3;exact hbN.2.2 ⟨j,ob,Lj,g1,h2,h3,h4,h5⟩
 refine⟨h.ext,h.defers,h.size,h.low,?_,fun t => ?_,?_,?_,h.keepL.turn (fun o0 g1 g2=>⟨o0,by dsimp only;rw[hm,h9];exact g1,g2⟩) (fun _=>by simp only[h9];rfl)⟩
 ·intro j hj;dsimp only at hj ⊢;rw[hm] at hj;cases e:L.contains j with
  |true=>rfl
  |false=>rw[e] at hj;exact h.dom j hj
 ·dsimp only;rcases hr t with e | ⟨e,e2⟩<;>rw[e]
  ·exact .und _
  ·exact RV.lose (L:=L) (h.tmps t) e2 hN hl
 ·intro j ob hob;obtain⟨e,g1⟩:=hother j ob hob;obtain⟨Lj,hLj,hokj⟩:=h.objs j ob g1;refine⟨Lj,hl j Lj e hLj,hokj.sz,hokj.nil,fun hn => ?_⟩;obtain⟨c,fr,k1,k2,k3,k4,k5⟩:=hokj.at_ hn;refine⟨c,fr,k1,k2,?_,k4,fun hf=>hN _ (k5 hf)⟩;have hmen:=hc j ob hob;unfold AObj.men at hmen;cases hcont:ob.cont with
  |row l=>rw[hcont] at k3;exact⟨k3.1,k3.2.1,fun i e j d h1 h2=>⟨(k3.2.2 i e j d h1 h2).1,(k3.2.2 i e j d h1 h2).2.mono (fun _ _=>rfl) hN⟩⟩
  |junk=>rw[hcont] at k3;exact k3
  |box v =>
   rw[hcont] at k3 hmen;exact⟨k3.1,k3.2.1,k3.2.2.1,fun j d h1=>(k3.2.2.2 j d h1).lose (V2 hmen d (List.mem_of_getElem? h1)) hN hl⟩
 ·intro j j' ob ob' Lj Lj' hob hob' hf hLj hLj' hn hn' hbb;obtain⟨e,g1⟩:=hother j ob hob;obtain⟨e',g1'⟩:=hother j' ob' hob';simp only[e] at hLj;simp only[e'] at hLj';exact h.inj j j' ob ob' Lj Lj' g1 g1' hf hLj hLj' hn hn' hbb
theorem Sub.dropL (L:List Nat){r':Nat→AV}{m':Mem} (hr:∀t,r' t = .und∨(r' t=r t∧(r t).men L=false)) (hm:∀i,m' i=if L.contains i then none else m i)
  (hc:∀i o,m' i=some o→o.men L=false) (h9:L.contains aS=false):Sub OT ⟨r,m⟩ ⟨r',m'⟩:=by
 rintro C a w rfl ⟨⟨loc,hR⟩,h2⟩;refine⟨⟨_,hR.dropL L hr hm hc h9⟩,fun j o ho => ?_⟩;dsimp only at ho;rw[hm] at ho;split at ho
 ·cases ho
 ·exact h2 j o ho
theorem tz {L:List Nat}:∀{l:List (Nat×AV)} (t:Nat),jC L l=true→(ar l t).men L=false
 |[],t,_=>by rw[eS];unfold AV.men;rfl
 |(i,v)::l,t,h=>by
  simp only[jC,Bool.and_eq_true,Bool.not_eq_true'] at h;rw[dv];split
  ·exact h.1
  ·exact tz t h.2
theorem tA (L:List Nat):∀(l:List (Nat×AObj)) (i:Nat),ay (eJ L l) i=if L.contains i then none else ay l i
 |[],i=>by rw[nZ,l7];split<;>rfl
 |(j,o)::l,i=>by
  have ih:=tA L l i;rw[n5,fN];by_cases hj:fw j L=true
  ·rw[if_pos hj,ih];by_cases e:i=j
   ·subst e;rw[lj,hj];rfl
   ·rw[if_neg e]
  ·rw[if_neg hj,fN,ih];by_cases e:i=j
   ·subst e;rw[if_pos rfl,lj,if_neg hj,if_pos rfl]
   ·rw[if_neg e,if_neg e]
theorem n7 {L:List Nat}:∀{l:List (Nat×AObj)} (i:Nat) (o:AObj),f8 L l=true→ay (eJ L l) i=some o→o.men L=false
 |[],i,o,_,h=>by rw[nZ] at h;cases h
 |(j,q)::l,i,o,h,ho=>by
  simp only[f8,Bool.and_eq_true,Bool.or_eq_true,Bool.not_eq_true'] at h;rw[n5] at ho;split at ho
  ·exact n7 i o h.2 ho
  ·rename_i hj;rw[fN] at ho;split at ho
   ·cases ho;rw[lj] at h;exact h.1.resolve_left hj
   ·exact n7 i o h.2 ho
theorem tB {L:List Nat}:∀{l:List (Nat×AObj)},f8 L l=true→L.contains aS=false
 |[],h=>by simpa[f8] using h
 |(j,q)::l,h=>by
  simp only[f8,Bool.and_eq_true] at h;exact tB h.2
theorem Sub.keepG (ts L:List Nat){R:List (Nat×AV)}{M:List (Nat×AObj)} (h1:jC L (sel (ar R) ts)=true) (h2:f8 L M=true):Sub OT ⟨ar R,ay M⟩ ⟨ar (sel (ar R) ts),ay (eJ L M)⟩:=
 (Sub.und (i7 ts)).tr (Sub.dropL L (fun t => .inr ⟨rfl,tz t h1⟩) (tA L M) (fun i o ho=>n7 i o h2 ho) (tB h2))
theorem Sub.toG (ts L:List Nat){R:List (Nat×AV)}{M:List (Nat×AObj)}{r':Nat→AV}{m':Mem} (h1:jC L (sel (ar R) ts)=true:=by rfl) (h2:f8 L M=true:=by rfl) (e1:ar (sel (ar R) ts)=r':=by rfl) (e2:ay (eJ L M)=m':=by rfl):Sub OT ⟨ar R,ay M⟩ ⟨r',m'⟩:=by
 subst e1 e2;exact Sub.keepG ts L h1 h2
theorem Sub.nilG (t i T sz:Nat){R:List (Nat×AV)}{M:List (Nat×AObj)}{r':Nat→AV}{m':Mem} (ht:ar R t = .nils T sz:=by rfl) (hm:ay M i=none:=by rfl) (hT:OT.contains T=true:=by rfl)
  (e1:ar (fL t (.slice i 0 0) R)=r':=by rfl) (e2:ay (eR i ⟨T,sz,.row [],false⟩ M)=m':=by rfl):Sub OT ⟨ar R,ay M⟩ ⟨r',m'⟩:=by
 subst e1 e2;rw[←i6,←jV];exact Sub.nil t i ht hm (by simpa using hT)
theorem V3 (T sz bytes:Nat) (x y:Opd) (id:Nat) (s:St):d8 T sz bytes x y id s=(match bQ sz s.m (y.ev s.r) with
 |none=>none
 |some ys=>match x.ev s.r with
  |.nils _ sz'=>match s.m id with
   |none=>if sz'=sz then some (decide (ys.length*bytes≤140737488355328∧ys.length≤9223372036854775807),.slice id 0 ys.length,⟨s.r,upd s.m id (some ⟨T,sz,.row ys,false⟩)⟩) else none
   |some _=>none
  |.slice i 0 n=>match s.m i with
   |some ⟨T',sz',.row l,false⟩=>if sz'=sz∧T'=T∧n=l.length∧i≠999999 then
     some (decide ((n+ys.length)*bytes≤140737488355328∧n+ys.length≤9223372036854775807),.slice i 0 (n+ys.length),⟨gh i s.r,upd (cZ i s.m) i (some ⟨T,sz,.row (l++ys),false⟩)⟩) else none
   |_=>none
  |_=>none):=rfl
theorem V4 (sz:Nat) (m:Mem) (v:AV):bQ sz m v=(match v with
 |.slice j off n=>match m j with
  |some ⟨_,sz',.row l,_⟩=>if sz'=sz∧off+n≤l.length then some ((l.drop off).take n) else none
  |_=>none
 |.p (.list _ sz' l)=>if sz'=sz then some l else none
 |.nils _ sz'=>if sz'=sz then some [] else none
 |_=>none):=rfl
theorem V5 (sz:Nat) (l:List D) (r:Nat→AV) (M:Mem):cX sz l r M []=some l:=rfl
theorem V6 (sz:Nat) (l:List D) (r:Nat→AV) (M:Mem) (i:Nat) (x:Opd) (rest:List (Nat×Opd)):cX sz l r M ((i,x)::rest)=(match (x.ev r).toD false M 20 with
 |some d=>if d.cells.length=sz∧d.cells.all D.one=true∧i<l.length then cX sz (l.set i d) r M rest else none
 |none=>none):=rfl
theorem V7 (z:D):List.replicate 1 z=[z]:=rfl
theorem V8 (z:D):List.replicate 2 z=[z,z]:=rfl
theorem V9 (x z:D) (l:List D):(z::l).set 0 x=x::l:=rfl
theorem Wa (x y z:D) (l:List D):(z::y::l).set 1 x=z::x::l:=rfl
theorem Wb (G:FuncId→List D→D→Prop) (dd:Option Nat) (T:Nat) (sz:Nat) (z:D) (n:Nat) (parts:List (Nat×Opd)) (g:Option (Nat×Bool)) (K:St→Prop) (s:St):step G ⟨dd,.buildSliceF T sz z n parts,g⟩ K s=fin dd K (ev (.buildSliceF T sz z n parts) (dd.getD 0) s):=rfl
theorem Wc (T:Nat) (sz:Nat) (z:D) (n:Nat) (parts:List (Nat×Opd)) (id:Nat) (s:St):ev (.buildSliceF T sz z n parts) id s=(if id=999999 then none else match s.m id with
  |none=>match cX sz (List.replicate n z) s.r s.m parts with
   |some l=>some (true,.slice id 0 n,⟨s.r,upd s.m id (some ⟨T,sz,.row l,true⟩)⟩)
   |none=>none
  |some _=>none):=rfl
def od (id:Nat):Option (Bool×AV×St)→Option (Bool×AV×St)
 |some (p,v,t)=>some (p,v,cY (nC id v) t)
 |none=>none
theorem We (id:Nat) (p:Bool) (i o n:Nat) (t:St):od id (some (p,.slice i o n,t))=some (p,.slice i o n,cY i t):=rfl
theorem Wf (G:FuncId→List D→D→Prop) (d:Option Nat) (T sz b:Nat) (x y:Opd) (g:Option (Nat×Bool)) (K:St→Prop) (s:St):step G ⟨d,.appendF T sz b x y,g⟩ K s=fin d K (od (d.getD 0) (d8 T sz b x y (d.getD 0) s)):=by
 unfold step od;simp only;cases d8 T sz b x y (d.getD 0) s<;>rfl
theorem Wg (id:Nat) (r:Nat→AV) (m:Mem):cY id ⟨r,m⟩=(if id=999999 then ⟨r,m⟩ else match m id with
 |some o=>⟨r,upd m id (some ⟨o.T,o.sz,o.cont,true⟩)⟩
 |none=>⟨r,m⟩):=rfl
def csA:=an @Wb (an @Wc (an @We (an @Wf (an @Wg (an @V5 (an @V6 (an @V7 (an @V8 (an @V9 (an @Wa (an @V3 (an @V4 (an @sG (an @sH (an @sA (an @sB (an @sC (an @sD (an @sE (an @sF (an @UC (an @UD (an @UE (an @of_row (an @UF (@UG))))))))))))))))))))))))))
def csW:=an cs0 (an cs1 (an cs2 (an cs3 (an cs4 (an cs5 (an cs6 (an csG (an csA (an @St.put.eq_1 (an @St.put.eq_2 (an @eW.eq_1 (an @cd.eq_1 (an @cd.eq_2 (an @cd.eq_3 (an @cd.eq_4 (an @cd.eq_5 (an @Option.getD_none.{0} (an @forall_const.{0} (@forall_const.{1})))))))))))))))))))
end
section
variable {OT:List TypeId}{r:Nat→AV}{m:Mem}
theorem Sub.reveal (t:Nat) (d:D) (hd:(r t).toD false m 20=some d):Sub OT ⟨r,m⟩ ⟨upd r t (.p d),m⟩:=by
 rintro C a w-⟨⟨loc,hr⟩,h2⟩;refine⟨⟨loc,hr.ext,hr.defers,hr.size,hr.low,hr.dom,fun u => ?_,hr.objs,hr.inj,hr.keepL⟩,h2⟩;by_cases e:u=t
 ·subst e;simp only[aE];exact .p _ _ (gn hr hd (hr.tmps u))
 ·simp only[aC _ _ e];exact hr.tmps u
theorem Sub.showG (t i:Nat) (ob:AObj) (d:D){R:List (Nat×AV)}{M:List (Nat×AObj)} (hm:ay M i=some ob) (hd:(ar R t).toD false (ay (eR i ⟨ob.T,ob.sz,ob.cont,true⟩ M)) 20=some d) (hi:i≠aS:=by decide) :
  Sub OT ⟨ar R,ay M⟩ ⟨ar (fL t (.p d) R),ay (eR i ⟨ob.T,ob.sz,ob.cont,true⟩ M)⟩:=by
 rw[←i6];refine (Sub.freeze hi hm).tr ?_;rw[jV];exact Sub.reveal t d hd
theorem kM (i:Nat) (ob:AObj) (j:Nat) (ob':AObj) (ts:List Nat){R:St→Prop} (hm:m i=some ob) (hm':upd m i (some ⟨ob.T,ob.sz,ob.cont,true⟩) j=some ob')
  (h:R ⟨ar (sel r ts),upd (upd m i (some ⟨ob.T,ob.sz,ob.cont,true⟩)) j (some ⟨ob'.T,ob'.sz,ob'.cont,true⟩)⟩) (hi:i≠aS:=by decide) (hj:j≠aS:=by decide):∃u,Sub OT ⟨r,m⟩ u∧R u:=
 ⟨_,((Sub.freeze hi hm).tr (Sub.freeze hj hm')).tr (Sub.und (i7 ts)),h⟩
end
end Go.Proofs.YtbnhgnhgbhjkcaaGreat.M
