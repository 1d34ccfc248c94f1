/- The small machine: calls by contract; a list of operations in its own order. -/
import Derived.Test.YtdjbfgfbpimakaaMPx
namespace Go.Proofs.Ytdjbfgfbpimakaa.M
open Go.RowKit
def Con (P:Program) (A:List TypeId) (f:FuncId) (ds:List D) (d:D):Prop:=
 ∀ (base:Nat→Prop) (w:World) (vs:Array Value),(∀ b,base b→b<w.heap.size)→(∀ b,base b→∀ c T fr,w.heap[b]? = some (.cells c T fr)→T ∉ A)→vs.size=ds.length →
  (∀ (i:Nat) (e:D),ds[i]? = some e→V w (fun b=>b<w.heap.size∧¬ base b) (vs.getD i undef) e) →
  Calls P f vs w fun e w' => ∃ v,e = .returned v∧V w' (fun b=>b<w'.heap.size∧¬ base b) v d∧Ext w w'
structure COp where
 dst:Option Nat
 op:AOp
 guard:Option (Nat × Bool)
def St.put (s:St) (t:Option Nat) (v:AV):St:=match t with
 | some t=>⟨upd s.r t v,s.m⟩
 | none=>s
def argsD (s:St):List Opd→Option (List D)
 | []=>some []
 | x::l=>match (x.ev s.r).toD false s.m 20,argsD s l with
  | some d,some ds=>some (d::ds)
  | _,_=>none
def slId (d:Nat):AV→Nat
 | .slice i _ _=>i
 | _=>d
def step (G:FuncId→List D→D→Prop) (c:COp) (K:St→Prop) (s:St):Prop:=
 match c.op with
 | .call f args=>match argsD s args with
  | some ds => ∃ d,G f ds d∧K (s.put c.dst (.p d))
  | none=>False
 | .append T sz b x y=>match evApp T sz b x y (c.dst.getD 0) s with
  | some (p,v,t)=>p=true∧K (t.put c.dst v)
  | none=>False
 | .appendF T sz b x y=>match evApp T sz b x y (c.dst.getD 0) s with
  | some (p,v,t)=>p=true∧K ((frzS (slId (c.dst.getD 0) v) t).put c.dst v)
  | none=>False
 | op=>match ev op (c.dst.getD 0) s with
  | some (p,v,t)=>p=true∧K (t.put c.dst v)
  | none=>False
def gstep (G:FuncId→List D→D→Prop) (c:COp) (K:St→Prop) (s:St):Prop:=
 match c.guard with
 | none=>step G c K s
 | some (g,want)=>match s.r g with
  | .p (.bool b)=>if b=want then step G c K s else K (s.put c.dst .und)
  | _=>False
def cops (G:FuncId→List D→D→Prop):List COp→(St→Prop)→St→Prop
 | [],K,s=>K s
 | c::l,K,s=>gstep G c (cops G l K) s
def calleeOk (P:Program) (f:FuncId):Bool:=match P.funcs[f]? with
 | some fn => fn.body.isSome && fn.name != "runtime.NumGoroutine"
 | none=>false
def typesOk (OT:List TypeId):AOp→Bool
 | .alloc T _ _=>OT.contains T
 | .box T _ _=>OT.contains T
 | .buildSlice T _ _ _ _=>OT.contains T
 | .makeSlice T _ _ _ _ _=>OT.contains T
 | .append T _ _ _ _=>OT.contains T
 | .buildSliceF T _ _ _ _=>OT.contains T
 | _=>true
def dstOk (nt:Nat):Option Nat→Bool
 | some t=>decide (t<nt)
 | none=>true
def callOk (P:Program):AOp→Bool
 | .call f _=>calleeOk P f
 | _=>true
def AOp.frz:AOp→AOp
 | .buildSlice T sz z n ps => .buildSliceF T sz z n ps
 | .append T sz b x y => .appendF T sz b x y
 | x=>x
def fzOf (OT:List TypeId):Option Nat→Bool
 | some t=>OT.contains (t+2000000)
 | none=>false
def AOp.fz (b:Bool) (x:AOp):AOp:=if b then x.frz else x
def cop (P:Program) (nt:Nat) (OT:List TypeId) (ops:Array Oper) (o:Oper):Option COp:=
 match aop P o with
 | some ao =>
  if typesOk OT ao&&dstOk nt o.dst&&callOk P ao then
   match o.guard with
   | none=>some ⟨o.dst,ao.fz (fzOf OT o.dst),none⟩
   | some (j,want)=>match (ops[j]?).bind (·.dst) with
    | some g=>some ⟨o.dst,ao.fz (fzOf OT o.dst),some (g,want)⟩
    | none=>none
  else none
 | none=>none
structure Ctx where
 P:Program
 A:List TypeId
 OT:List TypeId
 nt:Nat
 w0:World
 base:Nat→Prop
structure Ctx.Ok (C:Ctx):Prop where
 avoid:∀ b,C.base b→∀ c T fr,C.w0.heap[b]? = some (.cells c T fr)→T ∉ C.A
 apart:∀ T∈C.OT,T ∉ C.A
def Is (C:Ctx) (s:St) (a:Act) (w:World):Prop:=(∃ loc,Rel C.w0 C.base C.nt loc s a w)∧∀ id o,s.m id=some o→o.T∈C.OT
section
variable {C:Ctx} {loc:Locs} {s t:St} {a:Act} {w:World} {o:Oper} {id:Nat} {d:AV}
theorem ev_types {op:AOp} {p:Bool} (h:ev op id s=some (p,d,t)) (hO:typesOk C.OT op=true) (hs:∀ id o,s.m id=some o→o.T∈C.OT):∀ id o,t.m id=some o→o.T∈C.OT:=by
 have hupd:∀ (i:Nat) (ob:AObj),ob.T∈C.OT→∀ j q,upd s.m i (some ob) j=some q→q.T∈C.OT:=by
  intro i ob hob j q hq
  by_cases e:j=i
  ·subst e;rw[upd_same] at hq;cases hq;exact hob
  ·rw[upd_ne _ _ e] at hq;exact hs j q hq
 cases op<;>simp only[ev] at h
 case alloc T sz z =>
  simp only[typesOk,List.contains_iff_mem] at hO
  split at h<;>simp only[Option.some.injEq,Prod.mk.injEq,reduceCtorEq] at h
  obtain⟨-,-,rfl⟩:=h
  exact hupd _ _ hO
 case box T sz x =>
  simp only[typesOk,List.contains_iff_mem] at hO
  split at h<;>try cases h
  split at h<;>simp only[Option.some.injEq,Prod.mk.injEq,reduceCtorEq] at h
  obtain⟨-,-,rfl⟩:=h
  exact hupd _ _ hO
 case buildSlice T sz z n parts =>
  simp only[typesOk,List.contains_iff_mem] at hO
  split at h<;>try cases h
  split at h<;>simp only[Option.some.injEq,Prod.mk.injEq,reduceCtorEq] at h
  obtain⟨-,-,rfl⟩:=h
  exact hupd _ _ hO
 case buildSliceF T sz z n parts =>
  simp only[typesOk,List.contains_iff_mem] at hO
  split at h<;>try cases h
  split at h<;>simp only[Option.some.injEq,Prod.mk.injEq,reduceCtorEq] at h
  obtain⟨-,-,rfl⟩:=h
  exact hupd _ _ hO
 case makeSlice T sz bytes z l c =>
  simp only[typesOk,List.contains_iff_mem] at hO
  split at h<;>try cases h
  split at h<;>simp only[Option.some.injEq,Prod.mk.injEq,reduceCtorEq] at h
  obtain⟨-,-,rfl⟩:=h
  exact hupd _ _ hO
 case store sz x v =>
  split at h
  case h_2=>cases h
  split at h
  ·rename_i hm
   have ht:=hs _ _ hm
   split at h
   case h_2=>cases h
   split at h
   case isFalse=>cases h
   split at h<;>simp only[Option.some.injEq,Prod.mk.injEq,reduceCtorEq] at h
   obtain⟨-,-,rfl⟩:=h
   exact hupd _ _ ht
  ·rename_i hm
   have ht:=hs _ _ hm
   split at h
   case isFalse=>cases h
   split at h
   ·simp only[Option.some.injEq,Prod.mk.injEq] at h
    obtain⟨-,-,rfl⟩:=h
    exact hupd _ _ ht
   ·split at h<;>simp only[Option.some.injEq,Prod.mk.injEq,reduceCtorEq] at h
    obtain⟨-,-,rfl⟩:=h
    exact hupd _ _ ht
  ·rename_i hm
   have ht:=hs _ _ hm
   split at h
   case isFalse=>cases h
   split at h<;>simp only[Option.some.injEq,Prod.mk.injEq,reduceCtorEq] at h
   obtain⟨-,-,rfl⟩:=h
   exact hupd _ _ ht
  ·cases h
 all_goals
  (repeat' (split at h))<;>simp only[Option.some.injEq,Prod.mk.injEq,reduceCtorEq,Option.map_eq_some_iff] at h <;>
   first
    | (obtain⟨-,-,rfl⟩:=h;exact hs)
    | (obtain⟨_,-,-,-,rfl⟩:=h;exact hs)
theorem app_types {T sz b:Nat} {x y:Opd} {p:Bool} (h:evApp T sz b x y id s=some (p,d,t)) (hO:C.OT.contains T=true) (hs:∀ id o,s.m id=some o→o.T∈C.OT):∀ id o,t.m id=some o→o.T∈C.OT:=by
 simp only[List.contains_iff_mem] at hO
 have hupd:∀ (m:Mem),(∀ id o,m id=some o→o.T∈C.OT)→∀ (i:Nat) (ob:AObj),ob.T∈C.OT→∀ j q,upd m i (some ob) j=some q→q.T∈C.OT:=by
  intro m hm i ob hob j q hq
  by_cases e:j=i
  ·subst e;rw[upd_same] at hq;cases hq;exact hob
  ·rw[upd_ne _ _ e] at hq;exact hm j q hq
 unfold evApp at h
 split at h
 case h_1=>cases h
 split at h
 ·split at h
  case h_2=>cases h
  split at h
  case isFalse=>cases h
  simp only[Option.some.injEq,Prod.mk.injEq] at h
  obtain⟨-,-,rfl⟩:=h
  exact hupd _ hs _ _ hO
 ·split at h
  case h_2=>cases h
  split at h
  case isFalse=>cases h
  simp only[Option.some.injEq,Prod.mk.injEq] at h
  obtain⟨-,-,rfl⟩:=h
  refine hupd _ (fun j o ho => ?_) _ _ hO
  unfold forgetM at ho
  simp only[Option.map_eq_some_iff] at ho
  obtain⟨o',h1,rfl⟩:=ho
  rw[(forget_same _ o').1]
  exact hs j o' h1
 ·cases h
theorem aop_noF {P:Program} {T sz b:Nat} {x y:Opd} (h:aop P o=some (.appendF T sz b x y)):False:=by
 cases hop:o.op<;>simp only[aop,hop] at h<;>((repeat' (split at h))<;>simp only[Option.some.injEq,reduceCtorEq] at h)
theorem aop_append {P:Program} {T sz b:Nat} {x y:Opd} (h:aop P o=some (.append T sz b x y)):∃ c xx yy TT lz ag ti U W,o.op = .call c∧c.callee = .builtin .append∧c.args.toList=[xx,yy]∧c.argTypes.toList=[TT,TT]∧P.underlying TT=some (.slice T)∧ZOk P T lz ag sz∧P.info? T=some ti∧ti.bytes=b∧x=opd P U xx∧y=opd P W yy:=by
 cases hop:o.op<;>simp only[aop,hop] at h
 case call c =>
  split at h
  ·cases h
  ·rename_i hcal
   split at h
   ·split at h<;>cases h
   ·cases h
  ·split at h<;>cases h
  ·split at h<;>cases h
  ·rename_i hcal
   split at h
   case h_2=>cases h
   rename_i xx yy TT UU hx hT
   split at h
   case h_2=>cases h
   rename_i e e' hu1 hu2
   split at h
   case h_2=>cases h
   rename_i lz ag sz' ti hz hi
   split at h
   case isFalse=>cases h
   rename_i hcc
   simp only[Bool.and_eq_true,beq_iff_eq] at hcc
   obtain⟨rfl,rfl⟩:=hcc
   simp only[Option.some.injEq,AOp.append.injEq] at h
   obtain⟨rfl,rfl,rfl,rfl,rfl⟩:=h
   exact⟨c,xx,yy,TT,lz,ag,ti,_,_,rfl,hcal,hx,hT,hu1,zeroOf_ok hz,hi,rfl,rfl,rfl⟩
  ·cases h
 all_goals ((repeat' (split at h))<;>simp only[Option.some.injEq,reduceCtorEq] at h)
theorem Is.put (h:Is C s a w) {t:Option Nat} (ht:∀ i,t=some i→i<C.nt) {v:Value} (hv:∀ loc,Rel C.w0 C.base C.nt loc s a w→RV w (NB C.base s.m loc w) loc v d):Is C (s.put t d) (a.put t v) w:=by
 obtain⟨⟨loc,hr⟩,h2⟩:=h
 cases t with
 | none=>exact⟨⟨loc,hr⟩,h2⟩
 | some i=>exact⟨⟨loc,hr.put (ht i rfl) (hv loc hr)⟩,h2⟩
theorem argsD_spec (h:Rel C.w0 C.base C.nt loc s a w):∀ (l:List (Operand × Option TypeId)) (ds:List D),argsD s (l.map fun p=>opd C.P p.2 p.1)=some ds→l.length=ds.length∧∀ (i:Nat) (e:D),ds[i]? = some e→∃ x,l[i]? = some x∧V w (NB C.base s.m loc w) (a.eval x.1) e
 | [],ds,hd=>by
  simp only[List.map_nil,argsD,Option.some.injEq] at hd
  subst hd
  exact⟨rfl,fun i e hi=>by simp at hi⟩
 | x::l,ds,hd=>by
  simp only[List.map_cons,argsD] at hd
  split at hd
  case h_2=>cases hd
  rename_i e ds' h1 h2
  simp only[Option.some.injEq] at hd
  subst hd
  obtain⟨g1,g2⟩:=argsD_spec h l ds' h2
  refine⟨by simp[g1],fun i e' hi => ?_⟩
  match i,hi with
  | 0,hi=>simp at hi;subst hi;exact⟨x,rfl,toD_pure h h1 (h.opd (P:=C.P) x.2 x.1)⟩
  | i+1,hi=>simpa using g2 i e' (by simpa using hi)
section
variable {w0:World} {base:Nat→Prop} {nt:Nat}
theorem Rel.frz0 (h:Rel w0 base nt loc s a w) {i:Nat} {ob:AObj} (hm:s.m i=some ob):Rel w0 base nt loc ⟨s.r,upd s.m i (some ⟨ob.T,ob.sz,ob.cont,true⟩)⟩ a w:=by
 have hother:∀ j o,upd s.m i (some ⟨ob.T,ob.sz,ob.cont,true⟩) j=some o→∃ o0,s.m j=some o0∧(o.frz=false→j≠i∧o0=o):=by
  intro j o ho
  by_cases e:j=i
  ·subst e;rw[upd_same] at ho;cases ho;exact⟨ob,hm,fun hf=>by cases hf⟩
  ·rw[upd_ne _ _ e] at ho;exact⟨o,ho,fun _=>⟨e,rfl⟩⟩
 have hN:∀ b,NB base s.m loc w b→NB base (upd s.m i (some ⟨ob.T,ob.sz,ob.cont,true⟩)) loc w b:=by
  rintro b hbN
  refine⟨hbN.1,hbN.2.1,?_⟩
  rintro⟨j,o,Lj,h1,h2,h3,h4,h5⟩
  obtain⟨o0,g1,g2⟩:=hother j o h1
  obtain⟨-,rfl⟩:=g2 h2
  exact hbN.2.2 ⟨j,o0,Lj,g1,h2,h3,h4,h5⟩
 refine⟨h.ext,h.defers,h.size,h.low,?_,fun t=>(h.tmps t).mono (fun _ _=>rfl) hN (fun _ _ h=>h),?_,?_⟩
 ·intro j hj
  dsimp only at hj
  by_cases e:j=i
  ·subst e;rw[upd_same] at hj;cases hj
  ·rw[upd_ne _ _ e] at hj;exact h.dom j hj
 ·intro j o ho
  dsimp only at ho
  by_cases e:j=i
  ·subst e
   rw[upd_same] at ho
   cases ho
   obtain⟨L,hL,hok⟩:=h.objs j ob hm
   refine⟨L,hL,hok.sz,hok.nil,fun hn => ?_⟩
   obtain⟨c,fr,k1,k2,k3,k4,k5⟩:=hok.at_ hn
   refine⟨c,fr,k1,k2,k3.mono (fun _ _=>rfl) hN (fun _ _ h=>h),(fun hf=>by cases hf),fun _ => ?_⟩
   cases hf:ob.frz with
   | true=>exact hN _ (k5 hf)
   | false =>
    refine⟨h.obj_lt hm hL hn,fun hb => ?_,?_⟩
    ·have:=(k4 hf).1
     have:=h.low _ hb
     omega
    ·rintro⟨j',o',L',h1,h2,h3,h4,h5⟩
     obtain⟨o0,g1,g2⟩:=hother j' o' h1
     exact (g2 h2).1 (h.inj j j' ob o0 L L' hm g1 hf hL h3 hn h4 h5.symm).symm
  ·rw[upd_ne _ _ e] at ho
   obtain⟨L,hL,hok⟩:=h.objs j o ho
   refine⟨L,hL,hok.sz,hok.nil,fun hn => ?_⟩
   obtain⟨c,fr,k1,k2,k3,k4,k5⟩:=hok.at_ hn
   exact⟨c,fr,k1,k2,k3.mono (fun _ _=>rfl) hN (fun _ _ h=>h),k4,fun hf=>hN _ (k5 hf)⟩
 ·intro j j' o o' Lj Lj' ho ho' hf hLj hLj' hn hn' hbb
  obtain⟨o0,g1,g2⟩:=hother j o ho
  obtain⟨o0',g1',-⟩:=hother j' o' ho'
  obtain⟨-,rfl⟩:=g2 hf
  exact h.inj j j' o0 o0' Lj Lj' g1 g1' hf hLj hLj' hn hn' hbb
end
theorem Is.frz (h:Is C s a w) (i:Nat):Is C (frzS i s) a w:=by
 unfold frzS
 split
 ·rename_i o ho
  obtain⟨⟨loc,hr⟩,h2⟩:=h
  refine⟨⟨loc,hr.frz0 ho⟩,fun j q hq => ?_⟩
  dsimp only at hq
  by_cases e:j=i
  ·subst e;rw[upd_same] at hq;cases hq;exact h2 j o ho
  ·rw[upd_ne _ _ e] at hq;exact h2 j q hq
 ·exact h
theorem frzS_put (i:Nat) (s:St) (t:Option Nat) (v:AV):frzS i (s.put t v)=(frzS i s).put t v:=by
 cases t with
 | none=>rfl
 | some t =>
  unfold frzS
  simp only[St.put]
  cases s.m i<;>rfl
theorem upd_upd {α:Type} (f:Nat→α) (i:Nat) (v u:α):upd (upd f i v) i u=upd f i u:=by
 funext j
 unfold upd
 split<;>rfl
theorem step_frz {G:FuncId→List D→D→Prop} {dd:Option Nat} {ao:AOp} {g:Option (Nat × Bool)} {K:St→Prop} (b:Bool) (h:step G ⟨dd,ao.fz b,g⟩ K s):step G ⟨dd,ao,g⟩ (fun t => ∃ u,(u=t∨∃ i,u=frzS i t)∧K u) s:=by
 have weak:∀ (c:COp),step G c K s→step G c (fun t => ∃ u,(u=t∨∃ i,u=frzS i t)∧K u) s:=by
  intro c hc
  unfold step at hc ⊢
  split at hc
  ·split at hc
   ·obtain⟨d,h1,h2⟩:=hc;exact⟨d,h1,_,.inl rfl,h2⟩
   ·exact hc.elim
  ·split at hc
   ·exact⟨hc.1,_,.inl rfl,hc.2⟩
   ·exact hc.elim
  ·split at hc
   ·exact⟨hc.1,_,.inl rfl,hc.2⟩
   ·exact hc.elim
  ·split at hc
   ·exact⟨hc.1,_,.inl rfl,hc.2⟩
   ·exact hc.elim
 cases b with
 | false=>exact weak _ h
 | true =>
  cases ao with
  | buildSlice T sz z n ps =>
   simp only[AOp.fz,AOp.frz,if_true,step,ev] at h ⊢
   split at h
   case h_2=>exact h.elim
   rename_i p v t he
   split at he
   case h_2=>cases he
   rename_i hid
   (try rw[hid])
   (try simp only)
   split at he
   case h_2=>cases he
   rename_i l hl
   (try rw[hl])
   (try simp only)
   simp only[Option.some.injEq,Prod.mk.injEq] at he
   obtain⟨-,rfl,rfl⟩:=he
   refine⟨by trivial,_,.inr ⟨dd.getD 0,rfl⟩,?_⟩
   rw[frzS_put]
   have:frzS (dd.getD 0) ⟨s.r,upd s.m (dd.getD 0) (some ⟨T,sz,.row l,false⟩)⟩=⟨s.r,upd s.m (dd.getD 0) (some ⟨T,sz,.row l,true⟩)⟩:=by
    unfold frzS
    simp only[upd_same,upd_upd]
   rw[this]
   exact h.2
  | append T sz b x y =>
   simp only[AOp.fz,AOp.frz,if_true,step] at h ⊢
   split at h
   case h_2=>exact h.elim
   rename_i p v t he
   refine⟨h.1,_,.inr ⟨slId (dd.getD 0) v,rfl⟩,?_⟩
   rw[frzS_put]
   exact h.2
  | _=>exact weak _ h
theorem wp_cop {ops:Array Oper} {Q:Exit→Act→World→Prop} {i:Nat} {c:COp} (hC:C.Ok) (ho:ops[i]? = some o) (hc:cop C.P C.nt C.OT ops o=some c) (h:Is C s a w) {K:St→Prop} {R:Act→World→Prop}
  (hk:∀ t a' w',Is C t a' w'→K t→R a' w') (hg:gstep (Con C.P C.A) c K s):wpOp C.P ops Q i R a w:=by
 unfold cop at hc
 split at hc
 case h_2=>cases hc
 rename_i ao hao
 split at hc
 case isFalse=>cases hc
 rename_i hok
 simp only[Bool.and_eq_true] at hok
 obtain⟨⟨hty,hdst⟩,hcal⟩:=hok
 have hdst':∀ k,o.dst=some k→k<C.nt:=by intro k hk;rw[hk] at hdst;simpa[dstOk] using hdst
 have core:∀ K:St→Prop,(∀ t a' w',Is C t a' w'→K t→R a' w')→step (Con C.P C.A) ⟨o.dst,ao,c.guard⟩ K s→o.wp C.P a w R Q:=by
  intro K hk hs
  unfold Oper.wp
  by_cases hcall:∃ f args,ao = .call f args
  ·obtain⟨f,args,rfl⟩:=hcall
   simp only[step] at hs
   split at hs
   case h_2=>exact hs.elim
   rename_i ds hds
   obtain⟨d,hcon,hK⟩:=hs
   have hcall:∃ cl,o.op = .call cl∧cl.callee = .value (.func f)∧args=cl.args.toList.zipIdx.map fun (x,i)=>opd C.P cl.argTypes[i]? x:=by
    cases hop:o.op<;>simp only[aop,hop] at hao
    case call cl =>
     split at hao
     ·rename_i f' hcl
      simp only[Option.some.injEq,AOp.call.injEq] at hao
      obtain⟨rfl,rfl⟩:=hao
      exact⟨cl,rfl,hcl,rfl⟩
     all_goals ((repeat' (split at hao))<;>simp only[Option.some.injEq,reduceCtorEq] at hao)
    all_goals ((repeat' (split at hao))<;>simp only[Option.some.injEq,reduceCtorEq] at hao)
   obtain⟨cl,hop,hcl,rfl⟩:=hcall
   obtain⟨loc,hrel⟩:=h.1
   have hfn : ∃ fn, C.P.funcs[f]? = some fn ∧ fn.body.isSome = true ∧ fn.name ≠ "runtime.NumGoroutine" := by
    simp only[callOk,calleeOk] at hcal
    split at hcal
    ·rename_i fn hf
     simp only[Bool.and_eq_true,bne_iff_ne,ne_eq] at hcal
     exact⟨fn,hf,hcal.1,hcal.2⟩
    ·cases hcal
   obtain⟨fn,hf,hb,hnm⟩:=hfn
   have hrun:(execOp a.eval o).run C.P w = .ok (.enter f (cl.args.map a.eval)) w:=by
    have hbn:¬ fn.body=none:=by intro hq;simp[hq] at hb
    simp[execOp,hop,resolve,hcl,Deferred.ofValue,invoke,callFunc,Act.eval,hf,hnm,hbn]
   rw[hrun]
   have hl:(cl.args.toList.zipIdx.map fun (x,i)=>opd C.P cl.argTypes[i]? x)=(cl.args.toList.zipIdx.map fun p=>(p.1,cl.argTypes[p.2]?)).map fun p=>opd C.P p.2 p.1:=by
    rw[List.map_map];rfl
   rw[hl] at hds
   obtain⟨g1,g2⟩:=argsD_spec hrel _ _ hds
   have hcalls:=hcon (fun b=>C.base b∨ownB s.m loc b) w (cl.args.map a.eval) ?_ ?_ ?_ ?_
   ·refine hcalls.mono fun e w' he => ?_
    obtain⟨v,rfl,hv,hext⟩:=he
    have hrel':=hrel.later hext
    refine hk _ _ _ ?_ hK
    cases hd:o.dst with
    | none=>exact⟨⟨loc,hrel'⟩,h.2⟩
    | some k=>exact⟨⟨loc,hrel'.put (hdst' k hd) (.p _ _ (hv.mono (fun _ _=>rfl) fun b hb=>⟨hb.1,fun hh=>hb.2 (.inl hh),fun hh=>hb.2 (.inr hh)⟩))⟩,h.2⟩
   ·rintro b (hb | ⟨i,ob,L,h1,h2,h3,h4,rfl⟩)
    ·exact Nat.lt_of_lt_of_le (hrel.low b hb) hrel.ext.size
    ·exact hrel.obj_lt h1 h3 h4
   ·rintro b (hb | ⟨i,ob,L,h1,h2,h3,h4,rfl⟩) c' T fr hcell
    ·exact hC.avoid b hb c' T fr (by rw[←hrel.ext.block b (hrel.low b hb)];exact hcell)
    ·obtain⟨L',hL',hok⟩:=hrel.objs i ob h1
     rw[h3] at hL'
     cases hL'
     obtain⟨c'',fr',k1,_⟩:=hok.at_ h4
     rw[k1] at hcell
     injection hcell with hcell
     injection hcell with _ hT _
     rw[←hT]
     exact hC.apart _ (h.2 i ob h1)
   ·simpa using g1
   ·intro i e hi
    obtain⟨x,hx,hv⟩:=g2 i e hi
    have hx':cl.args[i]? = some x.1:=by
     simp only[List.getElem?_map,Option.map_eq_some_iff,List.getElem?_zipIdx] at hx
     obtain⟨p,⟨q,hq,rfl⟩,rfl⟩:=hx
     simpa using hq
    have:(cl.args.map a.eval).getD i undef=a.eval x.1:=by simp[hx']
    rw[this]
    exact hv.mono (fun _ _=>rfl) fun b hb=>⟨hb.1,fun hh=>hh.elim hb.2.1 hb.2.2⟩
  ·have hs':∃ v t,(ev ao (o.dst.getD 0) s=some (true,v,t)∨∃ T sz b x y,ao = .append T sz b x y∧evApp T sz b x y (o.dst.getD 0) s=some (true,v,t))∧K (t.put o.dst v):=by
    cases ao<;>simp only[step] at hs<;>first | (exact absurd ⟨_,_,rfl⟩ hcall) | skip
    case appendF T sz b x y=>exact (aop_noF hao).elim
    case append T sz b x y =>
     split at hs
     ·rename_i p v t hev
      exact⟨v,t,.inr ⟨T,sz,b,x,y,rfl,by rw[hev,hs.1]⟩,hs.2⟩
     ·exact hs.elim
    all_goals
     split at hs
     ·rename_i p v t hev
      exact⟨v,t,.inl (by rw[hev,hs.1]),hs.2⟩
     ·exact hs.elim
   obtain⟨v,t,hev,hK⟩:=hs'
   obtain⟨loc,hrel⟩:=h.1
   have hgood:Good C.P C.w0 C.base C.nt o a w t v∧∀ id o,t.m id=some o→o.T∈C.OT:=by
    rcases hev with hev | ⟨T,sz,b,x,y,rfl,hev⟩
    ·exact⟨sim (P:=C.P) hrel hao hev,ev_types hev hty h.2⟩
    ·obtain⟨c,xx,yy,TT,lz,ag,ti,U,W,q1,q2,q3,q4,q5,q6,q7,q8,rfl,rfl⟩:=aop_append hao
     exact⟨sim_append hrel q1 q2 q3 q4 q5 q6 q7 q8 hev,app_types hev hty h.2⟩
   obtain⟨⟨x,w',loc',hrun,hrel',hrv⟩,htypes⟩:=hgood
   have his:Is C t a w':=⟨⟨loc',hrel'⟩,htypes⟩
   have hput:Is C (t.put o.dst v) (a.put o.dst x) w':=by
    cases hd:o.dst with
    | none=>exact his
    | some k=>exact⟨⟨loc',hrel'.put (hdst' k hd) hrv⟩,his.2⟩
   rcases hrun with hrun | ⟨hrun,rfl⟩
   ·rw[hrun];exact hk _ _ _ hput hK
   ·rw[hrun];exact hk _ _ _ hput hK
 have hwp:step (Con C.P C.A) c K s→c.dst=o.dst→c.op=ao.fz (fzOf C.OT o.dst)→o.wp C.P a w R Q:=by
  intro h1 h2 h3
  refine core (fun t => ∃ u,(u=t∨∃ i,u=frzS i t)∧K u) (fun t a' w' ht hk'=>by
   obtain⟨u,hu | ⟨i,hu⟩,hK⟩:=hk'
   ·subst hu;exact hk _ _ _ ht hK
   ·subst hu;exact hk _ _ _ (ht.frz _) hK) (step_frz (fzOf C.OT o.dst) ?_)
  obtain⟨dst,op,g⟩:=c
  simp only at h2 h3
  subst h2;subst h3
  exact h1
 unfold wpOp
 simp only[ho]
 split at hc
 ·rename_i hg0
  simp only[Option.some.injEq] at hc
  subst hc
  have hw:Region.wanted o (yielded ops a.tmps)=true:=by unfold Region.wanted;rw[hg0]
  rw[hw,if_pos rfl]
  exact .inl (hwp hg rfl rfl)
 ·rename_i j want hg0
  split at hc
  case h_2=>cases hc
  rename_i g hg1
  simp only[Option.some.injEq] at hc
  subst hc
  simp only[gstep] at hg
  split at hg
  case h_2=>exact hg.elim
  rename_i b hb
  obtain⟨loc,hrel⟩:=h.1
  have hy:yielded ops a.tmps j=some b:=by
   have:=hrel.tmps g
   rw[hb] at this
   have:=this.inv
   unfold yielded
   rw[hg1]
   simp only[Option.bind_some]
   rw[Array.getD_eq_getD_getElem?] at this
   cases hq:a.tmps[g]? with
   | none=>rw[hq] at this;simp[undef] at this;cases this
   | some v=>rw[hq] at this;simp only[Option.getD_some] at this;cases this;rfl
  have hw:Region.wanted o (yielded ops a.tmps)=(b == want):=by
   unfold Region.wanted
   rw[hg0]
   simp only[hy]
   cases b<;>cases want<;>rfl
  rw[hw]
  split at hg
  ·rename_i hbw
   subst hbw
   simp only[BEq.rfl,if_true]
   exact .inl (hwp hg rfl rfl)
  ·rename_i hbw
   rw[if_neg (by simpa using hbw)]
   exact hk _ _ _ (h.put hdst' (fun _ _ => .und _)) hg
end
end Go.Proofs.Ytdjbfgfbpimakaa.M
