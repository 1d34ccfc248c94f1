/- Lemmas. -/
import Derived.Test.YtdchbabgopglcaaC11
namespace Go.Proofs.Ytdchbabgopglcaa.M
open Go.RowKit
def Con (P:Program) (A:List TypeId) (f:FuncId) (ds:List D) (d:D):Prop:=
 ∀(base:Nat→Prop) (w:World) (vs:Array Value),(∀b,base b→b<w.heap.size)→(∀b,base b→∀c T fr,w.heap[b]? = some (.cells c T fr)→T ∉ A)→vs.size=ds.length →
  (∀(i:Nat) (e:D),ds[i]? = some e→V w (fun b=>b<w.heap.size∧¬ base b) (vs.getD i undef) e) →
  Calls P f vs w fun e w' => ∃v,e = .returned v∧V w' (fun b=>b<w'.heap.size∧¬ base b) v d∧Ext w w'
theorem Con.mono {P:Program}{A A':List TypeId}{f:FuncId}{ds:List D}{d:D} (h:Con P A f ds d) (hA:∀T∈A,T∈A'):Con P A' f ds d:=
 fun base w vs h1 h2 h3 h4=>h base w vs h1 (fun b hb c T fr hc ht=>h2 b hb c T fr hc (hA T ht)) h3 h4
def fc (i:Nat):D→AV
 |.tup [.int .i64 m] => .slice i 0 m.toNat
 |r => .p r
def ee (T:TypeId) (sz:Nat):D→D
 |.tup [.int .i64 _] => .list T sz []
 |r=>r
def iJ (w:World) (N:Nat→Prop) (b o sz n:Nat) (v:Value):D→Prop
 |.tup [.int .i64 m]=>(∃cap,v = .slice (some ⟨b,o,none⟩) m.toNat cap∧m.toNat≤cap∧cap≤9223372036854775807∧o+cap*sz≤n)∨(m.toNat=0∧∃p,v = .slice p 0 0)
 |r=>V w N v r
def eA (P:Program) (A:List TypeId) (f:FuncId) (k:Nat) (ds:List D) (T:TypeId) (sz:Nat) (l:List D) (r:D) (l':List D):Prop:=
 ∀(own:Nat→Prop) (w:World) (vs:Array Value) (b o cap:Nat) (c:Array Value) (fr:Nat×Nat),(∀b,own b→b<w.heap.size)→(∀b,own b→∀c T fr,w.heap[b]? = some (.cells c T fr)→T ∉ A)→vs.size=ds.length →
  (∀(i:Nat) (e:D),i≠k→ds[i]? = some e→V w (fun b=>b<w.heap.size∧¬ own b) (vs.getD i undef) e) →
  own b→vs.getD k undef = .slice (some ⟨b,o,none⟩) l.length cap→w.heap[b]? = some (.cells c T fr)→l.length≤cap→cap≤9223372036854775807→o+cap*sz≤c.size →
  (∀x,x<c.size→(decide (fr.1≤x)&&decide (x<fr.2))=false)→bf w (fun b=>b<w.heap.size∧¬ own b) (fun _=>none) c o sz (.row l) →
  Calls P f vs w fun e w' => ∃v c',e = .returned v∧ExtL ⟨own,some ⟨b,o,c.size,sz,false⟩⟩ w w'∧w'.heap[b]? = some (.cells c' T fr)∧c'.size=c.size ∧
   bf w' (fun b=>b<w'.heap.size∧¬ own b) (fun _=>none) c' o sz (.row l')∧iJ w' (fun b=>b<w'.heap.size∧¬ own b) b o sz c.size v r
structure NewOk (w w':World) (own:Nat→Prop) (T sz:Nat) (l:List D) (v:Value) (L:Loc):Prop where
 siz:L.sz=sz
 nil:L.nil=true→l=[]
 obj:L.nil=false→w.heap.size≤L.b∧∃c fr,w'.heap[L.b]? = some (.cells c T fr)∧c.size=L.n∧bf w' (fun x=>(x<w'.heap.size∧¬ own x)∧x≠L.b) (fun _=>none) c L.o sz (.row l)∧∀x,x<L.n→(decide (fr.1≤x)&&decide (x<fr.2))=false
 val:(l=[]∧∃p,v = .slice p 0 0)∨(L.nil=false∧∃cap,v = .slice (some ⟨L.b,L.o,none⟩) l.length cap∧l.length≤cap∧cap≤9223372036854775807∧L.o+cap*sz≤L.n)
def qe (P:Program) (A:List TypeId) (f:FuncId) (ds:List D) (T sz:Nat) (l:List D):Prop:=
 ∀(own:Nat→Prop) (w:World) (vs:Array Value),(∀b,own b→b<w.heap.size)→(∀b,own b→∀c T fr,w.heap[b]? = some (.cells c T fr)→T ∉ A)→vs.size=ds.length →
  (∀(i:Nat) (e:D),ds[i]? = some e→V w (fun b=>b<w.heap.size∧¬ own b) (vs.getD i undef) e) →
  Calls P f vs w fun e w' => ∃v L,e = .returned v∧Ext w w'∧NewOk w w' own T sz l v L
def LB:Nat:=1000000
theorem gN (f k:Nat):¬ f+LB*(k+1)<LB:=by unfold LB;omega
theorem f8 {f k f' k':Nat} (h:f<LB) (h':f'<LB) (e:f'+LB*(k'+1)=f+LB*(k+1)):f'=f∧k'=k:=by unfold LB at *;omega
inductive ConX (P:Program) (A:List TypeId):FuncId→List D→D→Prop
 |plain {f:FuncId}{ds:List D}{d:D}:f<LB→Con P A f ds d→ConX P A f ds d
 |lent {f k:Nat}{ds:List D}{T:TypeId}{sz:Nat}{l l':List D}{r:D}:f<LB→k<8→ds[k]? = some (.list T sz l)→l'.length=l.length→(l=[]→Con P A f ds (ee T sz r))→(l≠[]→eA P A f k ds T sz l r l')→ConX P A (f+LB*(k+1)) ds (.tup [r,.list T sz l'])
 |fresh {f:FuncId}{ds:List D}{T:TypeId}{sz:Nat}{l:List D}:f<LB→qe P A f ds T sz l→ConX P A (f+LB*(8+1)) ds (.list T sz l)
 |wide {f:FuncId}{B:List TypeId}{ds:List D}{d:D}:f<LB→Con P B f ds d→ConX P A (f+LB*(9+1)) (.tup (B.map fun T => .int .i64 (T:Nat))::ds) d
theorem qf:∀{l m:List TypeId},(l.map fun T:Nat=>D.int .i64 (T:Nat))=m.map (fun T:Nat=>D.int .i64 (T:Nat))→l=m
 |[],[],_=>rfl
 |[],_::_,h=>by cases h
 |_::_,[],h=>by cases h
 |a::l,b::m,h=>by
  simp only[List.map_cons,List.cons.injEq,D.int.injEq,true_and] at h;rw[qf h.2,show a=b from Int.ofNat.inj h.1]
theorem ConX.con {P:Program}{A:List TypeId}{f:FuncId}{ds:List D}{d:D} (h:ConX P A f ds d) (hf:f<LB):Con P A f ds d:=by
 cases h with
 |plain _ h=>exact h
 |lent=>exact absurd hf (gN _ _)
 |fresh=>exact absurd hf (gN _ _)
 |wide=>exact absurd hf (gN _ _)
theorem ConX.wid {P:Program}{A B:List TypeId}{c f:Nat}{ds:List D}{d:D} (h:ConX P A c (.tup (B.map fun T => .int .i64 (T:Nat))::ds) d) (hc:c=f+LB*(9+1)) (hf:f<LB):Con P B f ds d:=by
 generalize he:(D.tup (B.map fun T => .int .i64 (T:Nat))::ds)=es at h;cases h with
 |plain h1 _=>rw[hc] at h1;exact absurd h1 (gN _ _)
 |lent h1 hk h2 h3 h4 h5 =>
  have:=(f8 hf h1 hc).2;omega
 |fresh h1 h2 =>
  have:=(f8 hf h1 hc).2;omega
 |wide h1 h2 =>
  obtain⟨rfl,-⟩:=f8 hf h1 hc;simp only[List.cons.injEq,D.tup.injEq] at he;obtain⟨e1,rfl⟩:=he;rw[qf e1];exact h2
theorem ConX.new {P:Program}{A:List TypeId}{c f:Nat}{ds:List D}{T:TypeId}{sz:Nat}{l:List D} (h:ConX P A c ds (.list T sz l)) (hc:c=f+LB*(8+1)) (hf:f<LB):qe P A f ds T sz l:=by
 generalize hd:D.list T sz l=d at h;cases h with
 |plain h1 _=>rw[hc] at h1;exact absurd h1 (gN _ _)
 |lent=>cases hd
 |fresh h1 h2 =>
  rename_i f' T' sz' l1;obtain⟨rfl,-⟩:f'=f∧8=8:=f8 hf h1 hc;simp only[D.list.injEq] at hd;obtain⟨rfl,rfl,rfl⟩:=hd;exact h2
 |wide h1 h2 =>
  have:=(f8 hf h1 hc).2;omega
theorem ConX.inv {P:Program}{A:List TypeId}{c f k:Nat}{ds:List D}{r:D}{T:TypeId}{sz:Nat}{l':List D} (h:ConX P A c ds (.tup [r,.list T sz l'])) (hc:c=f+LB*(k+1)) (hf:f<LB) (hk:k<8) :
  ∃l,ds[k]? = some (.list T sz l)∧l'.length=l.length∧(l=[]→Con P A f ds (ee T sz r))∧(l≠[]→eA P A f k ds T sz l r l'):=by
 generalize hd:D.tup [r,.list T sz l']=d at h;cases h with
 |plain h1 _=>rw[hc] at h1;exact absurd h1 (gN _ _)
 |lent h1 hk' h2 h3 h4 h5 =>
  rename_i f' k' T' sz' l l1 r1;obtain⟨rfl,rfl⟩:f'=f∧k'=k:=f8 hf h1 hc;simp only[D.tup.injEq,List.cons.injEq,D.list.injEq,and_true] at hd;obtain⟨rfl,rfl,rfl,rfl⟩:=hd;exact⟨l,h2,h3,h4,h5⟩
 |fresh=>cases hd
 |wide h1 h2 =>
  have:=(f8 hf h1 hc).2;omega
theorem cx {P:Program}{A:List TypeId}{f:FuncId}{ds:List D}{d:D} (h:Con P A f ds d) (hf:f<LB:=by decide):ConX P A f ds d:=.plain hf h
theorem cxw {P:Program}{A B B':List TypeId}{f:FuncId}{ds:List D}{d:D} (h:Con P B' f ds d) (hB:B'.all (fun T=>B.contains T)=true:=by rfl) (hf:f<LB:=by decide):ConX P A (f+LB*(9+1)) (.tup (B.map fun T => .int .i64 (T:Nat))::ds) d:=
 .wide hf (h.mono fun T hT=>by rw[List.all_eq_true] at hB;simpa using hB T hT)
structure COp where
 dst:Option Nat
 op:AOp
 guard:Option (Nat×Bool)
abbrev o1 (d x:Nat):COp:=⟨some d,.mov (.t x),none⟩
abbrev o2 (d:Nat) (a:AOp):COp:=⟨some d,a,none⟩
abbrev o3 (a:AOp):COp:=⟨none,a,none⟩
abbrev o4 (d:Nat) (a:AOp) (g:Nat) (b:Bool):COp:=⟨some d,a,some (g,b)⟩
abbrev ki(n:Int):Opd:=.k (.p (.int .i64 n))
abbrev kb(b:Bool):Opd:=.k (.p (.bool b))
abbrev b1(d:Nat)(o:BinOp)(x y:Nat):COp:=⟨some d,.bin false o (.t x) (.t y),none⟩
abbrev b2(d:Nat)(o:BinOp)(x:Nat)(n:Int):COp:=⟨some d,.bin false o (.t x) (ki n),none⟩
abbrev b3(d:Nat)(o:BinOp)(x:Nat)(n:Opd):COp:=⟨some d,.bin false o (.t x) n,none⟩
abbrev b4(d:Nat)(a:Bool)(s x:Nat):COp:=⟨some d,.load a s (.t x),none⟩
abbrev b5(d x:Nat):COp:=⟨some d,.len (.t x),none⟩
abbrev b6(d a b:Nat)(c:Bool)(x:Nat):COp:=⟨some d,.fieldAddr a b c (.t x),none⟩
abbrev b7(d a x y:Nat):COp:=⟨some d,.indexAddr a (.t x) (.t y),none⟩
abbrev b8(s x y:Nat):COp:=⟨none,.store s (.t x) (.t y),none⟩
abbrev b9(d x n:Nat):COp:=⟨some d,.extract (.t x) n,none⟩
abbrev o5(d x g:Nat)(b:Bool):COp:=⟨some d,.mov (.t x),some (g,b)⟩
def St.put (s:St) (t:Option Nat) (v:AV):St:=match t with
 |some t=>⟨upd s.r t v,s.m⟩
 |none=>s
def aV (s:St):List Opd→Option (List D)
 |[]=>some []
 |x::l=>match (x.ev s.r).toD false s.m 20,aV s l with
  |some d,some ds=>some (d::ds)
  |_,_=>none
def df (s:St) (d:D):Nat→List Opd→Option (List D)
 |_,[]=>none
 |0,_::l=>match aV s l with
  |some ds=>some (d::ds)
  |none=>none
 |k+1,x::l=>match (x.ev s.r).toD false s.m 20,df s d k l with
  |some e,some es=>some (e::es)
  |_,_=>none
def eB (s:St) (k:Nat) (args:List Opd):AV:=match args[k]? with
 |some x=>x.ev s.r
 |none => .und
def l5 (d:Nat):AV→Nat
 |.slice i _ _=>i
 |_=>d
def au (G:FuncId→List D→D→Prop) (c:COp) (K:St→Prop) (s:St):Prop:=
 match c.op with
 |.call f args=>match aV s args with
  |some ds => ∃d,G f ds d∧K (s.put c.dst (.p d))
  |none=>False
 |.append T sz b x y=>match dk T sz b x y (c.dst.getD 0) s with
  |some (p,v,t)=>p=true∧K (t.put c.dst v)
  |none=>False
 |.appendF T sz b x y=>match dk T sz b x y (c.dst.getD 0) s with
  |some (p,v,t)=>p=true∧K ((cE (l5 (c.dst.getD 0) v) t).put c.dst v)
  |none=>False
 |.callL f k args=>match eB s k args with
  |.slice i 0 n=>match s.m i with
   |some ⟨T,sz,.row l,false⟩=>match df s (.list T sz l) k args with
    |some ds=>n=l.length∧∃r l',G (f+LB*(k+1)) ds (.tup [r,.list T sz l'])∧K ((⟨s.r,upd s.m i (some ⟨T,sz,.row l',false⟩)⟩:St).put c.dst (if l=[] then .p (ee T sz r) else fc i r))
    |none=>False
   |_=>False
  |.p (.list T sz [])=>match aV s args with
   |some ds => ∃r l',G (f+LB*(k+1)) ds (.tup [r,.list T sz l'])∧K (s.put c.dst (.p (ee T sz r)))
   |none=>False
  |.p (.list _ _ (_::_))=>match aV s args with
   |some ds => ∃d,G f ds d∧K (s.put c.dst (.p d))
   |none=>False
  |_=>False
 |.callv fs x args=>match (x.ev s.r).toD false s.m 20,aV s args with
  |some (.fn (.func f) a b),some ds=>fs.contains f=true∧∃d,G f (a++ds++b) d∧K (s.put c.dst (.p d))
  |_,_=>False
 |.callN f T args=>match aV s args with
  |some ds=>match s.m (c.dst.getD 0) with
   |none => ∃sz l,G (f+LB*(8+1)) ds (.list T sz l)∧K ((⟨s.r,upd s.m (c.dst.getD 0) (some ⟨T,sz,.row l,false⟩)⟩:St).put c.dst (.slice (c.dst.getD 0) 0 l.length))
   |some _=>False
  |none=>False
 |.callW f B args=>match aV s args with
  |some ds=>(∀id o,s.m id=some o→o.frz=true∨o.T ∉ B)∧∃d,G (f+LB*(9+1)) (.tup (B.map fun T => .int .i64 (T:Nat))::ds) d∧K (s.put c.dst (.p d))
  |none=>False
 |.isNil neg x=>match x.ev s.r with
  |.nils _ _=>K (s.put c.dst (.p (.bool (!neg))))
  |.p (.list _ _ l) => ∀b:Bool,(l≠[]→b=false)→K (s.put c.dst (.p (.bool (b != neg))))
  |_=>False
 |op=>match ev op (c.dst.getD 0) s with
  |some (p,v,t)=>p=true∧K (t.put c.dst v)
  |none=>False
def bF (G:FuncId→List D→D→Prop) (c:COp) (K:St→Prop) (s:St):Prop:=
 match c.guard with
 |none=>au G c K s
 |some (g,want)=>match s.r g with
  |.p (.bool b)=>if b=want then au G c K s else K (s.put c.dst (.p (.tup [])))
  |.p (.tup [])=>K (s.put c.dst (.p (.tup [])))
  |_=>False
def bl (G:FuncId→List D→D→Prop):List COp→(St→Prop)→St→Prop
 |[],K,s=>K s
 |c::l,K,s=>bF G c (bl G l K) s
def eC (P:Program) (f:FuncId):Bool:=match P.funcs[f]? with
 |some fn => fn.body.isSome && fn.name != "runtime.NumGoroutine" && decide (f < LB)
 |none=>false
def dq (OT:List TypeId):AOp→Bool
 |.alloc T _ _=>OT.contains T
 |.box T _ _=>OT.contains T
 |.buildSlice T _ _ _ _=>OT.contains T
 |.makeSlice T _ _ _ _ _=>OT.contains T
 |.appZ T _ _ _ _ _=>OT.contains T
 |.bytS T _=>OT.contains T
 |.append T _ _ _ _=>OT.contains T
 |.copyS T _ _ _=>OT.contains T
 |.buildSliceF T _ _ _ _=>OT.contains T
 |.buildSliceP T _ _ _ _=>OT.contains T
 |.copyF T _ _ _=>OT.contains T
 |_=>true
def qg (nt:Nat):Option Nat→Bool
 |some t=>decide (t<nt)
 |none=>true
def P1 (P:Program):AOp→Bool
 |.call f _=>eC P f
 |.callL f _ _=>eC P f
 |.callv fs _ _=>fs.all (eC P)
 |.callN f _ _=>eC P f
 |.callW f _ _=>eC P f
 |_=>true
def AOp.frz:AOp→AOp
 |.buildSlice T sz z n ps => .buildSliceF T sz z n ps
 |.append T sz b x y => .appendF T sz b x y
 |.copyS T sz b y => .copyF T sz b y
 |x=>x
def j4 (OT:List TypeId):Option Nat→Bool
 |some t=>OT.contains (t+2000000)
 |none=>false
def AOp.fz (b:Bool) (x:AOp):AOp:=if b then x.frz else x
def AOp.pl (b:Bool):AOp→AOp
 |.buildSlice T sz z n ps=>if b then .buildSliceP T sz z n ps else .buildSlice T sz z n ps
 |.load ag sz x=>if b then .loadP ag sz x else .load ag sz x
 |.indexAddr sz x i=>if b then .indexAddrP sz x i else .indexAddr sz x i
 |x=>x
def l6 (OT:List TypeId):Option Nat→Bool
 |some t=>OT.contains (t+90000000)
 |none=>false
def gO (b:Bool):Opd→Opd
 |.k (.nils T sz)=>if b then .k (.p (.nils T sz)) else .k (.nils T sz)
 |x=>x
def j5 (OT:List TypeId) (f:FuncId):Option Nat:=
 if OT.contains (4000000+8*f) then some 0 else if OT.contains (4000001+8*f) then some 1 else if OT.contains (4000002+8*f) then some 2 else none
def j6 (f:FuncId):List TypeId→Option TypeId
 |[]=>none
 |m::l=>if 6000000≤m∧(m-6000000) / 4096=f then some ((m-6000000) % 4096) else j6 f l
def dg (OT:List TypeId):List TypeId:=OT.filterMap fun m=>if 70000000≤m∧m<80000000 then some (m-70000000) else none
def AOp.wid (B:List TypeId):AOp→AOp
 |.call f args=>if B.isEmpty then .call f args else .callW f B args
 |x=>x
def AOp.lend (OT:List TypeId):AOp→AOp
 |.call f args=>match j5 OT f with
  |some k => .callL f k args
  |none=>match j6 f OT with
   |some T=>if OT.contains T then .callN f T (args.map (gO (OT.contains (80000000+f)))) else (AOp.call f args).wid (dg OT)
   |none=>(AOp.call f args).wid (dg OT)
 |.callv _ x args => .callv (OT.filterMap fun m=>if 5000000≤m∧m<6000000 then some (m-5000000) else none) x args
 |x=>x
def cop (P:Program) (nt:Nat) (OT:List TypeId) (ops:Array Oper) (o:Oper):Option COp:=
 match aop P o with
 |some ao =>
  if dq OT ao&&qg nt o.dst&&P1 P (ao.lend OT) then
   match o.guard with
   |none=>some ⟨o.dst,((ao.lend OT).fz (j4 OT o.dst)).pl (l6 OT o.dst),none⟩
   |some (j,want)=>match (ops[j]?).bind (·.dst) with
    |some g=>some ⟨o.dst,((ao.lend OT).fz (j4 OT o.dst)).pl (l6 OT o.dst),some (g,want)⟩
    |none=>none
  else none
 |none=>none
structure Ctx where
 P:Program
 A:List TypeId
 OT:List TypeId
 nt:Nat
 w0:World
 base:Bs
structure Ctx.Ok (C:Ctx):Prop where
 avoid:∀b,C.base.own b→∀c T fr,C.w0.heap[b]? = some (.cells c T fr)→T ∉ C.A
 apart:∀T∈C.OT,T ∉ C.A
 wide:∀b,C.base.own b→∀c T fr,C.w0.heap[b]? = some (.cells c T fr)→T ∉ dg C.OT
def Is (C:Ctx) (s:St) (a:Act) (w:World):Prop:=(∃loc,Rel C.w0 C.base C.nt loc s a w)∧∀id o,s.m id=some o→o.T∈C.OT
section
variable {C:Ctx}{loc:aU}{s t:St}{a:Act}{w:World}{o:Oper}{id:Nat}{d:AV}
theorem l7 {op:AOp}{p:Bool} (h:ev op id s=some (p,d,t)) (hO:dq C.OT op=true) (hs:∀id o,s.m id=some o→o.T∈C.OT):∀id o,t.m id=some o→o.T∈C.OT:=by
 have hupd:∀(i:Nat) (ob:AObj),ob.T∈C.OT→∀j q,upd s.m i (some ob) j=some q→q.T∈C.OT:=by
  intro i ob hob j q hq;by_cases e:j=i
  ·subst e;rw[aD] at hq;cases hq;exact hob
  ·rw[aA _ _ e] at hq;exact hs j q hq
 cases op<;>simp only[ev] at h
 case alloc T sz z =>
  simp only[dq,List.contains_iff_mem] at hO;split at h<;>simp only[Option.some.injEq,Prod.mk.injEq,reduceCtorEq] at h
  obtain⟨-,-,rfl⟩:=h;exact hupd _ _ hO
 case box T sz x =>
  simp only[dq,List.contains_iff_mem] at hO;split at h<;>try cases h
  split at h<;>simp only[Option.some.injEq,Prod.mk.injEq,reduceCtorEq] at h
  obtain⟨-,-,rfl⟩:=h;exact hupd _ _ hO
 case buildSlice T sz z n parts =>
  simp only[dq,List.contains_iff_mem] at hO;split at h<;>try cases h
  split at h<;>simp only[Option.some.injEq,Prod.mk.injEq,reduceCtorEq] at h
  obtain⟨-,-,rfl⟩:=h;exact hupd _ _ hO
 case buildSliceP T sz z n parts =>
  simp only[dq,List.contains_iff_mem] at hO;split at h<;>try cases h
  split at h<;>simp only[Option.some.injEq,Prod.mk.injEq,reduceCtorEq] at h
  obtain⟨-,-,rfl⟩:=h;exact hupd _ _ hO
 case buildSliceF T sz z n parts =>
  simp only[dq,List.contains_iff_mem] at hO;split at h<;>try cases h
  split at h<;>try cases h
  split at h<;>simp only[Option.some.injEq,Prod.mk.injEq,reduceCtorEq] at h
  obtain⟨-,-,rfl⟩:=h;exact hupd _ _ hO
 case appZ T sz bytes z l c =>
  simp only[dq,List.contains_iff_mem] at hO;split at h<;>try cases h
  split at h<;>try cases h
  split at h<;>simp only[Option.some.injEq,Prod.mk.injEq,reduceCtorEq] at h
  obtain⟨-,-,rfl⟩:=h;exact hupd _ _ hO
 case makeSlice T sz bytes z l c =>
  simp only[dq,List.contains_iff_mem] at hO;split at h<;>try cases h
  split at h<;>simp only[Option.some.injEq,Prod.mk.injEq,reduceCtorEq] at h
  obtain⟨-,-,rfl⟩:=h;exact hupd _ _ hO
 case bytS T x =>
  simp only[dq,List.contains_iff_mem] at hO;split at h<;>try cases h
  split at h<;>simp only[Option.some.injEq,Prod.mk.injEq,reduceCtorEq] at h
  obtain⟨-,-,rfl⟩:=h;exact hupd _ _ hO
 case copyS T sz bytes y =>
  simp only[dq,List.contains_iff_mem] at hO;split at h<;>simp only[Option.some.injEq,Prod.mk.injEq,reduceCtorEq] at h
  obtain⟨-,-,rfl⟩:=h;exact hupd _ _ hO
 case copyF T sz bytes y =>
  simp only[dq,List.contains_iff_mem] at hO;split at h<;>try cases h
  split at h<;>simp only[Option.some.injEq,Prod.mk.injEq,reduceCtorEq] at h
  obtain⟨-,-,rfl⟩:=h;exact hupd _ _ hO
 case store sz x v =>
  split at h
  case h_2=>cases h
  split at h
  ·rename_i hm;have ht:=hs _ _ hm;split at h
   case h_2=>cases h
   split at h
   case isFalse=>cases h
   split at h
   ·simp only[Option.some.injEq,Prod.mk.injEq] at h;obtain⟨-,-,rfl⟩:=h;exact hupd _ _ ht
   ·split at h<;>simp only[Option.some.injEq,Prod.mk.injEq,reduceCtorEq] at h
    obtain⟨-,-,rfl⟩:=h;exact hupd _ _ ht
  ·rename_i hm;have ht:=hs _ _ hm;split at h
   case isFalse=>cases h
   split at h
   ·simp only[Option.some.injEq,Prod.mk.injEq] at h;obtain⟨-,-,rfl⟩:=h;exact hupd _ _ ht
   ·split at h<;>simp only[Option.some.injEq,Prod.mk.injEq,reduceCtorEq] at h
    obtain⟨-,-,rfl⟩:=h;exact hupd _ _ ht
  ·rename_i hm;have ht:=hs _ _ hm;split at h
   case isFalse=>cases h
   split at h<;>simp only[Option.some.injEq,Prod.mk.injEq,reduceCtorEq] at h
   obtain⟨-,-,rfl⟩:=h;exact hupd _ _ ht
  ·cases h
 case clearS sz z x =>
  split at h
  case h_2=>cases h
  split at h
  case h_2=>cases h
  rename_i hm;have ht:=hs _ _ hm;split at h<;>simp only[Option.some.injEq,Prod.mk.injEq,reduceCtorEq] at h
  obtain⟨-,-,rfl⟩:=h;exact hupd _ _ ht
 case copyA x y =>
  split at h
  case h_2=>cases h
  split at h
  case h_2=>cases h
  rename_i hm;have ht:=hs _ _ hm;split at h<;>simp only[Option.some.injEq,Prod.mk.injEq,reduceCtorEq] at h
  obtain⟨-,-,rfl⟩:=h;exact hupd _ _ ht
 all_goals
  (repeat' (split at h))<;>simp only[Option.some.injEq,Prod.mk.injEq,reduceCtorEq,Option.map_eq_some_iff] at h <;>
   first
    |(obtain⟨-,-,rfl⟩:=h;exact hs)
    |(obtain⟨_,-,-,-,rfl⟩:=h;exact hs)
theorem P2 {T sz b:Nat}{x y:Opd}{p:Bool} (h:dk T sz b x y id s=some (p,d,t)) (hO:C.OT.contains T=true) (hs:∀id o,s.m id=some o→o.T∈C.OT):∀id o,t.m id=some o→o.T∈C.OT:=by
 simp only[List.contains_iff_mem] at hO;have hupd:∀(m:Mem),(∀id o,m id=some o→o.T∈C.OT)→∀(i:Nat) (ob:AObj),ob.T∈C.OT→∀j q,upd m i (some ob) j=some q→q.T∈C.OT:=by
  intro m hm i ob hob j q hq;by_cases e:j=i
  ·subst e;rw[aD] at hq;cases hq;exact hob
  ·rw[aA _ _ e] at hq;exact hm j q hq
 unfold dk at h;split at h
 case h_1=>cases h
 split at h
 ·split at h
  case h_2=>cases h
  split at h
  case isFalse=>cases h
  simp only[Option.some.injEq,Prod.mk.injEq] at h;obtain⟨-,-,rfl⟩:=h;exact hupd _ hs _ _ hO
 ·split at h
  case h_2=>cases h
  split at h
  case isFalse=>cases h
  simp only[Option.some.injEq,Prod.mk.injEq] at h;obtain⟨-,-,rfl⟩:=h;refine hupd _ (fun j o ho => ?_) _ _ hO;unfold cF at ho;simp only[Option.map_eq_some_iff] at ho;obtain⟨o',h1,rfl⟩:=ho;rw[(ix _ o').1];exact hs j o' h1
 ·cases h
theorem P3 {P:Program}{T sz b:Nat}{x y:Opd} (h:aop P o=some (.appendF T sz b x y)):False:=by
 cases hop:o.op<;>simp only[aop,hop] at h<;>((repeat' (split at h))<;>simp only[Option.some.injEq,reduceCtorEq] at h)<;>(rcases cQ h with⟨_,_,_,_,_,h⟩ | ⟨_,_,_,_,h⟩<;>cases h)
theorem P4 {P:Program}{f T:Nat}{args:List Opd} (h:aop P o=some (.callN f T args)):False:=by
 cases hop:o.op<;>simp only[aop,hop] at h<;>((repeat' (split at h))<;>simp only[Option.some.injEq,reduceCtorEq] at h)<;>(rcases cQ h with⟨_,_,_,_,_,h⟩ | ⟨_,_,_,_,h⟩<;>cases h)
theorem P5 {P:Program}{f:Nat}{B:List TypeId}{args:List Opd} (h:aop P o=some (.callW f B args)):False:=by
 cases hop:o.op<;>simp only[aop,hop] at h<;>((repeat' (split at h))<;>simp only[Option.some.injEq,reduceCtorEq] at h)<;>(rcases cQ h with⟨_,_,_,_,_,h⟩ | ⟨_,_,_,_,h⟩<;>cases h)
theorem P6 {P:Program}{f k:Nat}{args:List Opd} (h:aop P o=some (.callL f k args)):False:=by
 cases hop:o.op<;>simp only[aop,hop] at h<;>((repeat' (split at h))<;>simp only[Option.some.injEq,reduceCtorEq] at h)<;>(rcases cQ h with⟨_,_,_,_,_,h⟩ | ⟨_,_,_,_,h⟩<;>cases h)
theorem P7 {P:Program}{T sz b:Nat}{y:Opd} (h:aop P o=some (.copyF T sz b y)):False:=by
 cases hop:o.op<;>simp only[aop,hop] at h<;>((repeat' (split at h))<;>simp only[Option.some.injEq,reduceCtorEq] at h)<;>(rcases cQ h with⟨_,_,_,_,_,h⟩ | ⟨_,_,_,_,h⟩<;>cases h)
theorem P8 {P:Program}{ao:AOp} (h:aop P o=some ao) (hk:(∃T sz b x y,ao = .append T sz b x y)∨∃T sz b y,ao = .copyS T sz b y):∃c xx yy TT lz ag ti U W T sz b,o.op = .call c∧c.callee = .builtin .append∧c.args.toList=[xx,yy]∧c.argTypes.toList=[TT,TT]∧P.underlying TT=some (.slice T)∧ZOk P T lz ag sz∧P.info? T=some ti∧ti.bytes=b∧ao=gY T sz b (opd P U xx) (opd P W yy):=by
 cases hop:o.op<;>simp only[aop,hop] at h
 case call c =>
  split at h
  ·cases h;rcases hk with⟨_,_,_,_,_,h⟩ | ⟨_,_,_,_,h⟩<;>cases h
  ·cases h;rcases hk with⟨_,_,_,_,_,h⟩ | ⟨_,_,_,_,h⟩<;>cases h
  ·rename_i hcal;split at h
   ·split at h<;>cases h<;>(rcases hk with⟨_,_,_,_,_,h⟩ | ⟨_,_,_,_,h⟩<;>cases h)
   ·cases h
  ·rename_i hcal;split at h
   ·split at h<;>cases h<;>(rcases hk with⟨_,_,_,_,_,h⟩ | ⟨_,_,_,_,h⟩<;>cases h)
   ·cases h
  ·split at h<;>cases h;rcases hk with⟨_,_,_,_,_,h⟩ | ⟨_,_,_,_,h⟩<;>cases h
  ·split at h<;>cases h;rcases hk with⟨_,_,_,_,_,h⟩ | ⟨_,_,_,_,h⟩<;>cases h
  ·rename_i hcal;split at h
   case h_2=>cases h
   rename_i xx yy TT UU hx hT;split at h
   case h_3=>cases h
   case h_2 =>
    split at h
    ·cases h;rcases hk with⟨_,_,_,_,_,h⟩ | ⟨_,_,_,_,h⟩<;>cases h
    ·cases h
   rename_i e e' hu1 hu2;split at h
   case h_2=>cases h
   rename_i lz ag sz' ti hz hi;split at h
   case isFalse=>cases h
   rename_i hcc;simp only[Bool.and_eq_true,beq_iff_eq] at hcc;obtain⟨rfl,rfl⟩:=hcc;simp only[Option.some.injEq] at h;exact⟨c,xx,yy,TT,lz,ag,ti,_,_,_,_,_,rfl,hcal,hx,hT,hu1,fA hz,hi,rfl,h.symm⟩
  ·split at h
   ·split at h
    ·split at h
     ·cases h;rcases hk with⟨_,_,_,_,_,h⟩ | ⟨_,_,_,_,h⟩<;>cases h
     ·cases h
    ·cases h
   ·cases h
  ·split at h
   ·split at h
    ·split at h
     ·cases h;rcases hk with⟨_,_,_,_,_,h⟩ | ⟨_,_,_,_,h⟩<;>cases h
     ·cases h
    ·cases h
   ·cases h
  ·cases h
 all_goals ((repeat' (split at h))<;>simp only[Option.some.injEq,reduceCtorEq] at h<;>subst h<;>(rcases hk with⟨_,_,_,_,_,h⟩ | ⟨_,_,_,_,h⟩<;>cases h))
theorem P9 {P:Program}{x y:Opd} (h:aop P o=some (.copyA x y)):∃c xx yy T T2 E E2 ag U W,o.op = .call c∧c.callee = .builtin .copy∧c.args.toList=[xx,yy]∧c.argTypes.toList=[T,T2]∧P.underlying T=some (.slice E)∧bM P E ag 1∧P.underlying T2=some (.slice E2)∧x=opd P U xx∧y=opd P W yy:=by
 cases hop:o.op<;>simp only[aop,hop] at h
 case call c =>
  split at h
  ·cases h
  ·cases h
  ·split at h
   ·split at h<;>cases h
   ·cases h
  ·split at h
   ·split at h<;>cases h
   ·cases h
  ·split at h<;>cases h
  ·split at h<;>cases h
  ·split at h
   case h_2=>cases h
   split at h
   case h_3=>cases h
   case h_2=>split at h<;>cases h
   split at h
   case h_2=>cases h
   split at h
   case isFalse=>cases h
   simp only[Option.some.injEq] at h;rcases cQ h with⟨_,_,_,_,_,h⟩ | ⟨_,_,_,_,h⟩<;>cases h
  ·rename_i hcal;split at h
   case h_2=>cases h
   rename_i xx yy T T2 hx hT;split at h
   case h_2=>cases h
   rename_i e e2 hu hu2;split at h
   case h_2=>cases h
   rename_i ag htE;cases h;exact⟨c,xx,yy,T,T2,e,e2,ag,none,none,rfl,hcal,hx,hT,hu,dv htE,hu2,rfl,rfl⟩
  ·split at h
   ·split at h
    ·split at h<;>cases h
    ·cases h
   ·cases h
  ·cases h
 all_goals ((repeat' (split at h))<;>simp only[Option.some.injEq,reduceCtorEq] at h<;>(rcases cQ h with⟨_,_,_,_,_,h⟩ | ⟨_,_,_,_,h⟩<;>cases h))
theorem Qa {P:Program}{neg:Bool}{x:Opd} (h:aop P o=some (.isNil neg x)):∃op T xx Y e,o.op = .binOp op T xx (.const (.slice none 0 0)) Y∧op=(if neg then .neq else .eql)∧P.underlying T=some (.slice e)∧x=opd P none xx:=by
 cases hop:o.op<;>simp only[aop,hop] at h
 case binOp op T xx y Y =>
  split at h
  ·cases h
  ·cases h
  ·cases h
  ·split at h
   ·split at h<;>cases h
   ·cases h
  ·rename_i e hu;split at h
   ·cases h;exact⟨_,T,xx,Y,e,rfl,by simp,hu,rfl⟩
   ·cases h;exact⟨_,T,xx,Y,e,rfl,by simp,hu,rfl⟩
   ·cases h
  ·split at h
   ·split at h<;>cases h
   ·cases h
  ·cases h
 all_goals ((repeat' (split at h))<;>simp only[Option.some.injEq,reduceCtorEq] at h<;>(rcases cQ h with⟨_,_,_,_,_,h⟩ | ⟨_,_,_,_,h⟩<;>cases h))
theorem Qb {P:Program}{sz0:Nat}{z0:D}{x:Opd} (h:aop P o=some (.clearS sz0 z0 x)):∃c xx T E l ag U,o.op = .call c∧c.callee = .builtin .clear∧c.args.toList=[xx]∧c.argTypes.toList=[T]∧P.underlying T=some (.slice E)∧ZOk P E l ag sz0∧z0=(if ag then .agg l else l.headD default)∧x=opd P U xx:=by
 cases hop:o.op<;>simp only[aop,hop] at h
 case call c =>
  split at h
  ·cases h
  ·cases h
  ·split at h
   ·split at h<;>cases h
   ·cases h
  ·split at h
   ·split at h<;>cases h
   ·cases h
  ·split at h<;>cases h
  ·split at h<;>cases h
  ·split at h
   case h_2=>cases h
   split at h
   case h_3=>cases h
   case h_2=>split at h<;>cases h
   split at h
   case h_2=>cases h
   split at h
   case isFalse=>cases h
   simp only[Option.some.injEq] at h;rcases cQ h with⟨_,_,_,_,_,h⟩ | ⟨_,_,_,_,h⟩<;>cases h
  ·split at h
   ·split at h
    ·split at h<;>cases h
    ·cases h
   ·cases h
  ·rename_i hcal;split at h
   case h_2=>cases h
   rename_i xx T hx hT;split at h
   case h_2=>cases h
   rename_i e hu;split at h
   case h_2=>cases h
   rename_i l ag sz hz;simp only[Option.some.injEq,AOp.clearS.injEq] at h;obtain⟨rfl,rfl,rfl⟩:=h;exact⟨c,xx,T,e,l,ag,none,rfl,hcal,hx,hT,hu,fA hz,rfl,rfl⟩
  ·cases h
 all_goals ((repeat' (split at h))<;>simp only[Option.some.injEq,reduceCtorEq] at h<;>(rcases cQ h with⟨_,_,_,_,_,h⟩ | ⟨_,_,_,_,h⟩<;>cases h))
theorem Is.put (h:Is C s a w){t:Option Nat} (ht:∀i,t=some i→i<C.nt){v:Value} (hv:∀loc,Rel C.w0 C.base C.nt loc s a w→RV w (NB C.base s.m loc w) loc v d):Is C (s.put t d) (a.put t v) w:=by
 obtain⟨⟨loc,hr⟩,h2⟩:=h;cases t with
 |none=>exact⟨⟨loc,hr⟩,h2⟩
 |some i=>exact⟨⟨loc,hr.put (ht i rfl) (hv loc hr)⟩,h2⟩
theorem f9 (h:Rel C.w0 C.base C.nt loc s a w):∀(l:List (Operand×Option TypeId)) (ds:List D),aV s (l.map fun p=>opd C.P p.2 p.1)=some ds→l.length=ds.length∧∀(i:Nat) (e:D),ds[i]? = some e→∃x,l[i]? = some x∧V w (NB C.base s.m loc w) (a.eval x.1) e
 |[],ds,hd=>by
  simp only[List.map_nil,aV,Option.some.injEq] at hd;subst hd;exact⟨rfl,fun i e hi=>by simp at hi⟩
 |x::l,ds,hd=>by
  simp only[List.map_cons,aV] at hd;split at hd
  case h_2=>cases hd
  rename_i e ds' h1 h2;simp only[Option.some.injEq] at hd;subst hd;obtain⟨g1,g2⟩:=f9 h l ds' h2;refine⟨by simp[g1],fun i e' hi => ?_⟩
  match i,hi with
  |0,hi=>simp at hi;subst hi;exact⟨x,rfl,fE h h1 (h.opd (P:=C.P) x.2 x.1)⟩
  |i+1,hi=>simpa using g2 i e' (by simpa using hi)
theorem Qc {N:Nat→Prop}{loc:aU}{r:Nat→AV}{v:Value} (b:Bool){x:Opd} (h:RV w N loc v (x.ev r)):RV w N loc v ((gO b x).ev r):=by
 unfold gO;split
 ·split
  ·simp only[Opd.ev] at h ⊢;cases h;exact .p _ _ (.nils _ _)
  ·exact h
 ·exact h
theorem qh (h:Rel C.w0 C.base C.nt loc s a w) (b:Bool):∀(l:List (Operand×Option TypeId)) (ds:List D),aV s ((l.map fun p=>opd C.P p.2 p.1).map (gO b))=some ds→l.length=ds.length∧∀(i:Nat) (e:D),ds[i]? = some e→∃x,l[i]? = some x∧V w (NB C.base s.m loc w) (a.eval x.1) e
 |[],ds,hd=>by
  simp only[List.map_nil,aV,Option.some.injEq] at hd;subst hd;exact⟨rfl,fun i e hi=>by simp at hi⟩
 |x::l,ds,hd=>by
  simp only[List.map_cons,aV] at hd;split at hd
  case h_2=>cases hd
  rename_i e ds' h1 h2;simp only[Option.some.injEq] at hd;subst hd;obtain⟨g1,g2⟩:=qh h b l ds' h2;refine⟨by simp[g1],fun i e' hi => ?_⟩
  match i,hi with
  |0,hi=>simp at hi;subst hi;exact⟨x,rfl,fE h h1 (Qc b (h.opd (P:=C.P) x.2 x.1))⟩
  |i+1,hi=>simpa using g2 i e' (by simpa using hi)
theorem qi (h:Rel C.w0 C.base C.nt loc s a w) (d0:D):∀(k:Nat) (l:List (Operand×Option TypeId)) (ds:List D),df s d0 k (l.map fun p=>opd C.P p.2 p.1)=some ds →
  l.length=ds.length∧ds[k]? = some d0∧∀(i:Nat) (e:D),i≠k→ds[i]? = some e→∃x,l[i]? = some x∧V w (NB C.base s.m loc w) (a.eval x.1) e
 |k,[],ds,hd=>by cases k<;>simp[df] at hd
 |0,x::l,ds,hd=>by
  simp only[List.map_cons,df] at hd;split at hd
  case h_2=>cases hd
  rename_i ds' h2;simp only[Option.some.injEq] at hd;subst hd;obtain⟨g1,g2⟩:=f9 h l ds' h2;refine⟨by simp[g1],rfl,fun i e hi he => ?_⟩
  match i,hi,he with
  |i+1,_,he=>simpa using g2 i e (by simpa using he)
 |k+1,x::l,ds,hd=>by
  simp only[List.map_cons,df] at hd;split at hd
  case h_2=>cases hd
  rename_i e ds' h1 h2;simp only[Option.some.injEq] at hd;subst hd;obtain⟨g1,g2,g3⟩:=qi h d0 k l ds' h2;refine⟨by simp[g1],by simpa using g2,fun i e' hi he => ?_⟩
  match i,hi,he with
  |0,_,he=>simp at he;subst he;exact⟨x,rfl,fE h h1 (h.opd (P:=C.P) x.2 x.1)⟩
  |i+1,hi,he=>simpa using g3 i e' (by omega) (by simpa using he)
section
variable {w0:World}{base:Bs}{nt:Nat}
theorem Rel.frz0 (h:Rel w0 base nt loc s a w){i:Nat}{ob:AObj} (hi:i≠aQ) (hm:s.m i=some ob):Rel w0 base nt loc ⟨s.r,upd s.m i (some ⟨ob.T,ob.sz,ob.cont,true⟩)⟩ a w:=by
 have hother:∀j o,upd s.m i (some ⟨ob.T,ob.sz,ob.cont,true⟩) j=some o→∃o0,s.m j=some o0∧(o.frz=false→j≠i∧o0=o):=by
  intro j o ho;by_cases e:j=i
  ·subst e;rw[aD] at ho;cases ho;exact⟨ob,hm,fun hf=>by cases hf⟩
  ·rw[aA _ _ e] at ho;exact⟨o,ho,fun _=>⟨e,rfl⟩⟩
 have hN:∀b,NB base s.m loc w b→NB base (upd s.m i (some ⟨ob.T,ob.sz,ob.cont,true⟩)) loc w b:=by
  rintro b hbN;refine⟨hbN.1,hbN.2.1,?_⟩;rintro⟨j,o,Lj,h1,h2,h3,h4,h5⟩;obtain⟨o0,g1,g2⟩:=hother j o h1;obtain⟨-,rfl⟩:=g2 h2;exact hbN.2.2 ⟨j,o0,Lj,g1,h2,h3,h4,h5⟩
 refine⟨h.ext,h.defers,h.size,h.low,?_,fun t=>(h.tmps t).mono (fun _ _=>rfl) hN (fun _ _ h=>h),?_,?_,h.keepL.put fun e=>absurd e hi⟩
 ·intro j hj;dsimp only at hj;by_cases e:j=i
  ·subst e;rw[aD] at hj;cases hj
  ·rw[aA _ _ e] at hj;exact h.dom j hj
 ·intro j o ho;dsimp only at ho;by_cases e:j=i
  ·subst e;rw[aD] at ho;cases ho;obtain⟨L,hL,hok⟩:=h.objs j ob hm;refine⟨L,hL,hok.sz,hok.nil,fun hn => ?_⟩;obtain⟨c,fr,k1,k2,k3,k4,k5⟩:=hok.at_ hn;refine⟨c,fr,k1,k2,k3.mono (fun _ _=>rfl) hN (fun _ _ h=>h),(fun hf=>by cases hf),fun _ => ?_⟩;cases hf:ob.frz with
   |true=>exact hN _ (k5 hf)
   |false =>
    refine⟨h.obj_lt hm hL hn,fun hb => ?_,?_⟩
    ·have hlo:=h.low _ hb;rcases (k4 hf).1 with hge | ⟨L',hL',hbb⟩
     ·omega
     ·obtain⟨g1,g2,g3,o',g4,g5⟩:=h.keepL L' hL';exact hi (h.inj j aQ ob o' L L' hm g4 hf hL g1 hn g3 hbb.symm)
    ·rintro⟨j',o',L',h1,h2,h3,h4,h5⟩;obtain⟨o0,g1,g2⟩:=hother j' o' h1;exact (g2 h2).1 (h.inj j j' ob o0 L L' hm g1 hf hL h3 hn h4 h5.symm).symm
  ·rw[aA _ _ e] at ho;obtain⟨L,hL,hok⟩:=h.objs j o ho;refine⟨L,hL,hok.sz,hok.nil,fun hn => ?_⟩;obtain⟨c,fr,k1,k2,k3,k4,k5⟩:=hok.at_ hn;exact⟨c,fr,k1,k2,k3.mono (fun _ _=>rfl) hN (fun _ _ h=>h),k4,fun hf=>hN _ (k5 hf)⟩
 ·intro j j' o o' Lj Lj' ho ho' hf hLj hLj' hn hn' hbb;obtain⟨o0,g1,g2⟩:=hother j o ho;obtain⟨o0',g1',-⟩:=hother j' o' ho';obtain⟨-,rfl⟩:=g2 hf;exact h.inj j j' o0 o0' Lj Lj' g1 g1' hf hLj hLj' hn hn' hbb
end
theorem Is.frz (h:Is C s a w) (i:Nat):Is C (cE i s) a w:=by
 unfold cE;split
 ·exact h
 rename_i hne;split
 ·rename_i o ho;obtain⟨⟨loc,hr⟩,h2⟩:=h;refine⟨⟨loc,hr.frz0 hne ho⟩,fun j q hq => ?_⟩;dsimp only at hq;by_cases e:j=i
  ·subst e;rw[aD] at hq;cases hq;exact h2 j o ho
  ·rw[aA _ _ e] at hq;exact h2 j q hq
 ·exact h
theorem l8 (i:Nat) (s:St) (t:Option Nat) (v:AV):cE i (s.put t v)=(cE i s).put t v:=by
 cases t with
 |none=>rfl
 |some t =>
  unfold cE;simp only[St.put];split
  ·rfl
  ·cases s.m i<;>rfl
theorem qj {α:Type} (f:Nat→α) (i:Nat) (v u:α):upd (upd f i v) i u=upd f i u:=by
 funext j
 unfold upd;split<;>rfl
theorem qk (sz:Nat) (r:Nat→AV) (M:Mem):∀(ps:List (Nat×Opd)) (l q:List D),dC sz l r ps=some q→cD sz l r M ps=some q
 |[],_,_,h=>h
 |(i,x)::ps,l,q,h=>by
  simp only[dC] at h;simp only[cD];split at h
  ·rename_i d hd;rw[hd];split at h
   ·rename_i hc;simp only[AV.toD];rw[if_pos hc];exact qk sz r M ps _ q h
   ·cases h
  ·cases h
theorem Qd {G:FuncId→List D→D→Prop}{dst:Option Nat}{x:AOp}{g:Option (Nat×Bool)}{K:St→Prop}{s:St} (b:Bool) (h:au G ⟨dst,x.pl b,g⟩ K s):au G ⟨dst,x,g⟩ K s:=by
 cases x<;>try exact h
 case buildSlice T sz z n ps =>
  cases b
  ·exact h
  simp only[AOp.pl,if_true,au,ev] at h;simp only[au,ev];cases hm:s.m (dst.getD 0) with
  |some o=>rw[hm] at h;exact h.elim
  |none =>
   rw[hm] at h;simp only at h ⊢;cases hf:dC sz (List.replicate n z) s.r ps with
   |none=>rw[hf] at h;exact h.elim
   |some q =>
    rw[hf] at h;rw[qk sz s.r s.m ps _ q hf];exact h
 case load ag sz x =>
  cases b
  ·exact h
  simp only[AOp.pl,if_true,au,ev] at h;simp only[au,ev];cases hx:x.ev s.r with
  |p d =>
   rw[hx] at h;cases d with
   |ref e=>simp only at h ⊢;exact h
   |_=>exact h.elim
  |_=>rw[hx] at h;exact h.elim
 case indexAddr sz x i =>
  cases b
  ·exact h
  simp only[AOp.pl,if_true,au,ev] at h;simp only[au,ev];cases hx:x.ev s.r with
  |p d =>
   rw[hx] at h;cases hi:asI (i.ev s.r) with
   |none=>rw[hi] at h;cases d<;>exact h.elim
   |some n =>
    rw[hi] at h;cases d with
    |list T sz' t=>simp only at h ⊢;exact h
    |_=>exact h.elim
  |_=>rw[hx] at h;exact h.elim
theorem Qe {G:FuncId→List D→D→Prop}{dd:Option Nat}{ao:AOp}{g:Option (Nat×Bool)}{K:St→Prop} (b:Bool) (h:au G ⟨dd,ao.fz b,g⟩ K s):au G ⟨dd,ao,g⟩ (fun t => ∃u,(u=t∨∃i,u=cE i t)∧K u) s:=by
 have weak:∀(c:COp),au G c K s→au G c (fun t => ∃u,(u=t∨∃i,u=cE i t)∧K u) s:=by
  intro c hc;unfold au at hc ⊢;split at hc
  ·split at hc
   ·obtain⟨d,h1,h2⟩:=hc;exact⟨d,h1,_,.inl rfl,h2⟩
   ·exact hc.elim
  ·split at hc
   ·exact⟨hc.1,_,.inl rfl,hc.2⟩
   ·exact hc.elim
  ·split at hc
   ·exact⟨hc.1,_,.inl rfl,hc.2⟩
   ·exact hc.elim
  ·split at hc
   case h_4=>exact hc.elim
   case h_3 =>
    split at hc
    case h_2=>exact hc.elim
    obtain⟨r,h2,h3⟩:=hc;exact⟨r,h2,_,.inl rfl,h3⟩
   case h_2 =>
    split at hc
    case h_2=>exact hc.elim
    obtain⟨r,l',h2,h3⟩:=hc;exact⟨r,l',h2,_,.inl rfl,h3⟩
   split at hc
   case h_2=>exact hc.elim
   split at hc
   case h_2=>exact hc.elim
   obtain⟨h1,r,l',h2,h3⟩:=hc;exact⟨h1,r,l',h2,_,.inl rfl,h3⟩
  ·split at hc
   case h_2=>exact hc.elim
   obtain⟨h1,d,h2,h3⟩:=hc;exact⟨h1,d,h2,_,.inl rfl,h3⟩
  ·split at hc
   case h_2=>exact hc.elim
   split at hc
   case h_2=>exact hc.elim
   obtain⟨sz,l,h2,h3⟩:=hc;exact⟨sz,l,h2,_,.inl rfl,h3⟩
  ·split at hc
   case h_2=>exact hc.elim
   obtain⟨h1,d,h2,h3⟩:=hc;exact⟨h1,d,h2,_,.inl rfl,h3⟩
  ·split at hc
   ·exact⟨_,.inl rfl,hc⟩
   ·exact fun b hb=>⟨_,.inl rfl,hc b hb⟩
   ·exact hc.elim
  ·split at hc
   ·exact⟨hc.1,_,.inl rfl,hc.2⟩
   ·exact hc.elim
 cases b with
 |false=>exact weak _ h
 |true =>
  cases ao with
  |buildSlice T sz z n ps =>
   simp only[AOp.fz,AOp.frz,if_true,au,ev] at h ⊢;split at h
   case h_2=>exact h.elim
   rename_i p v t he;split at he
   case isTrue=>cases he
   rename_i hne;split at he
   case h_2=>cases he
   rename_i hid;(try rw[hid]);(try simp only);split at he
   case h_2=>cases he
   rename_i l hl;(try rw[hl]);(try simp only);simp only[Option.some.injEq,Prod.mk.injEq] at he;obtain⟨-,rfl,rfl⟩:=he;refine⟨by trivial,_,.inr ⟨dd.getD 0,rfl⟩,?_⟩;rw[l8];have:cE (dd.getD 0) ⟨s.r,upd s.m (dd.getD 0) (some ⟨T,sz,.row l,false⟩)⟩=⟨s.r,upd s.m (dd.getD 0) (some ⟨T,sz,.row l,true⟩)⟩:=by
    unfold cE;simp only[if_neg hne,aD,qj]
   rw[this];exact h.2
  |copyS T sz b y =>
   simp only[AOp.fz,AOp.frz,if_true,au,ev] at h ⊢;split at h
   case h_2=>exact h.elim
   rename_i p v t he;split at he
   case isTrue=>cases he
   rename_i hne;split at he
   case h_2=>cases he
   rename_i ys hid hys;simp only[Option.some.injEq,Prod.mk.injEq] at he;obtain⟨rfl,rfl,rfl⟩:=he;dsimp only;refine⟨h.1,_,.inr ⟨dd.getD 0,rfl⟩,?_⟩;rw[l8];have:cE (dd.getD 0) ⟨s.r,upd s.m (dd.getD 0) (some ⟨T,sz,.row ys,false⟩)⟩=⟨s.r,upd s.m (dd.getD 0) (some ⟨T,sz,.row ys,true⟩)⟩:=by
    unfold cE;simp only[if_neg hne,aD,qj]
   rw[this];exact h.2
  |append T sz b x y =>
   simp only[AOp.fz,AOp.frz,if_true,au] at h ⊢;split at h
   case h_2=>exact h.elim
   rename_i p v t he;refine⟨h.1,_,.inr ⟨l5 (dd.getD 0) v,rfl⟩,?_⟩;rw[l8];exact h.2
  |_=>exact weak _ h
theorem gP {P : Program}{f : FuncId} (hf : eC P f = true) : f < LB ∧ ∃fn, P.funcs[f]? = some fn ∧ ¬ fn.body = none ∧ fn.name ≠ "runtime.NumGoroutine" := by
 simp only[eC] at hf;split at hf
 ·rename_i fn hfn;simp only[Bool.and_eq_true,bne_iff_ne,ne_eq,decide_eq_true_eq] at hf;exact⟨hf.2,fn,hfn,fun hq=>by simp[hq] at hf,hf.1.2⟩
 ·cases hf
theorem Qf {OT:List TypeId}{f k:Nat} (h:j5 OT f=some k):k<8:=by
 unfold j5 at h;split at h
 ·cases h;omega
 ·split at h
  ·cases h;omega
  ·split at h
   ·cases h;omega
   ·cases h
theorem l9 (hrel:Rel C.w0 C.base C.nt loc s a w):∀b,(C.base.own b∨cG s.m loc b)→b<w.heap.size:=by
 rintro b (hb | ⟨i,ob,L,h1,h2,h3,h4,rfl⟩)
 ·exact Nat.lt_of_lt_of_le (hrel.low b hb) hrel.ext.size
 ·exact hrel.obj_lt h1 h3 h4
theorem ma (hC:C.Ok) (h:Is C s a w) (hrel:Rel C.w0 C.base C.nt loc s a w):∀b,(C.base.own b∨cG s.m loc b)→∀c T fr,w.heap[b]? = some (.cells c T fr)→T ∉ C.A:=by
 rintro b (hb | ⟨i,ob,L,h1,h2,h3,h4,rfl⟩) c' T fr hcell
 ·obtain⟨c0,-,h0⟩:=hrel.ext.lentT b c' T fr (hrel.low b hb) hcell;exact hC.avoid b hb c0 T fr h0
 ·obtain⟨L',hL',hok⟩:=hrel.objs i ob h1;rw[h3] at hL';cases hL';obtain⟨c'',fr',k1,_⟩:=hok.at_ h4;rw[k1] at hcell;injection hcell with hcell
  injection hcell with _ hT _
  rw[←hT];exact hC.apart _ (h.2 i ob h1)
theorem Qg (hC:C.Ok) (hrel:Rel C.w0 C.base C.nt loc s a w) (hm:∀id o,s.m id=some o→o.frz=true∨o.T ∉ dg C.OT):∀b,(C.base.own b∨cG s.m loc b)→∀c T fr,w.heap[b]? = some (.cells c T fr)→T ∉ dg C.OT:=by
 rintro b (hb | ⟨i,ob,L,h1,h2,h3,h4,rfl⟩) c' T fr hcell
 ·obtain⟨c0,-,h0⟩:=hrel.ext.lentT b c' T fr (hrel.low b hb) hcell;exact hC.wide b hb c0 T fr h0
 ·obtain⟨L',hL',hok⟩:=hrel.objs i ob h1;rw[h3] at hL';cases hL';obtain⟨c'',fr',k1,_⟩:=hok.at_ h4;rw[k1] at hcell;injection hcell with hcell
  injection hcell with _ hT _
  rw[←hT];exact (hm i ob h1).resolve_left (by rw[h2];simp)
theorem qm {B:List TypeId}{Q:Exit→Act→World→Prop}{R:Act→World→Prop} (h:Is C s a w) (hrel:Rel C.w0 C.base C.nt loc s a w) (hdst':∀k,o.dst=some k→k<C.nt){K:St→Prop}{f:FuncId}{vs:Array Value}{ds:List D}{d:D}
  (hk:∀t a' w',Is C t a' w'→K t→R a' w') (hrun:(execOp a.eval o).run C.P w = .ok (.enter f vs) w) (hcon:Con C.P B f ds d) (hav:∀b,(C.base.own b∨cG s.m loc b)→∀c T fr,w.heap[b]? = some (.cells c T fr)→T ∉ B) (hsz:vs.size=ds.length)
  (hV:∀(i:Nat) (e:D),ds[i]? = some e→V w (NB C.base s.m loc w) (vs.getD i undef) e) (hK:K (s.put o.dst (.p d))):o.wp C.P a w R Q:=by
 unfold Oper.wp;rw[hrun];have hcalls:=hcon (fun b=>C.base.own b∨cG s.m loc b) w vs (l9 hrel) hav hsz (fun i e hi=>(hV i e hi).mono (fun _ _=>rfl) fun b hb=>⟨hb.1,fun hh=>hh.elim hb.2.1 hb.2.2⟩);refine hcalls.mono fun e w' he => ?_
 obtain⟨v,rfl,hv,hext⟩:=he;have hrel':=hrel.later hext;refine hk _ _ _ ?_ hK;cases hd:o.dst with
 |none=>exact⟨⟨loc,hrel'⟩,h.2⟩
 |some k=>exact⟨⟨loc,hrel'.put (hdst' k hd) (.p _ _ (hv.mono (fun _ _=>rfl) fun b hb=>⟨hb.1,fun hh=>hb.2 (.inl hh),fun hh=>hb.2 (.inr hh)⟩))⟩,h.2⟩
theorem iK {Q:Exit→Act→World→Prop}{R:Act→World→Prop} (hC:C.Ok) (h:Is C s a w) (hrel:Rel C.w0 C.base C.nt loc s a w) (hdst':∀k,o.dst=some k→k<C.nt){K:St→Prop}{f:FuncId}{vs:Array Value}{ds:List D}{d:D}
  (hk:∀t a' w',Is C t a' w'→K t→R a' w') (hrun:(execOp a.eval o).run C.P w = .ok (.enter f vs) w) (hcon:Con C.P C.A f ds d) (hsz:vs.size=ds.length)
  (hV:∀(i:Nat) (e:D),ds[i]? = some e→V w (NB C.base s.m loc w) (vs.getD i undef) e) (hK:K (s.put o.dst (.p d))):o.wp C.P a w R Q:=
 qm h hrel hdst' hk hrun hcon (ma hC h hrel) hsz hV hK
theorem Qh {P:Program}{f:FuncId}{args:List Opd} (hao:aop P o=some (.call f args)):∃cl,o.op = .call cl∧cl.callee = .value (.func f)∧args=cl.args.toList.zipIdx.map fun (x,i)=>opd P cl.argTypes[i]? x:=by
 cases hop:o.op<;>simp only[aop,hop] at hao
 case call cl =>
  split at hao
  ·rename_i f' hcl;simp only[Option.some.injEq,AOp.call.injEq] at hao;obtain⟨rfl,rfl⟩:=hao;exact⟨cl,rfl,hcl,rfl⟩
  all_goals ((repeat' (split at hao))<;>simp only[Option.some.injEq,reduceCtorEq] at hao<;>(rcases cQ hao with⟨_,_,_,_,_,h⟩ | ⟨_,_,_,_,h⟩<;>cases h))
 all_goals ((repeat' (split at hao))<;>simp only[Option.some.injEq,reduceCtorEq] at hao<;>(rcases cQ hao with⟨_,_,_,_,_,h⟩ | ⟨_,_,_,_,h⟩<;>cases h))
theorem Qi {P:Program}{fs:List FuncId}{x:Opd}{args:List Opd} (hao:aop P o=some (.callv fs x args)):∃cl n,o.op = .call cl∧cl.callee = .value (.tmp n)∧x = .t n∧args=cl.args.toList.zipIdx.map fun (x,i)=>opd P cl.argTypes[i]? x:=by
 cases hop:o.op<;>simp only[aop,hop] at hao
 case call cl =>
  split at hao
  ·simp only[Option.some.injEq,reduceCtorEq] at hao
  ·rename_i n hcl;simp only[Option.some.injEq,AOp.callv.injEq] at hao;obtain⟨-,rfl,rfl⟩:=hao;exact⟨cl,n,rfl,hcl,rfl,rfl⟩
  all_goals ((repeat' (split at hao))<;>simp only[Option.some.injEq,reduceCtorEq] at hao<;>(rcases cQ hao with⟨_,_,_,_,_,h⟩ | ⟨_,_,_,_,h⟩<;>cases h))
 all_goals ((repeat' (split at hao))<;>simp only[Option.some.injEq,reduceCtorEq] at hao<;>(rcases cQ hao with⟨_,_,_,_,_,h⟩ | ⟨_,_,_,_,h⟩<;>cases h))
theorem fd (cl:Call) (i:Nat) (x:Operand×Option TypeId) (hx:(cl.args.toList.zipIdx.map fun p=>(p.1,cl.argTypes[p.2]?))[i]? = some x):(cl.args.map a.eval).getD i undef=a.eval x.1:=by
 have hx':cl.args[i]? = some x.1:=by
  simp only[List.getElem?_map,Option.map_eq_some_iff,List.getElem?_zipIdx] at hx;obtain⟨p,⟨q,hq,rfl⟩,rfl⟩:=hx;simpa using hq
 simp[hx']
theorem ge (P:Program) (cl:Call):(cl.args.toList.zipIdx.map fun (x,i)=>opd P cl.argTypes[i]? x)=(cl.args.toList.zipIdx.map fun p=>(p.1,cl.argTypes[p.2]?)).map fun p=>opd P p.2 p.1:=by
 rw[List.map_map];rfl
theorem Qj {Q:Exit→Act→World→Prop}{R:Act→World→Prop} (hC:C.Ok) (h:Is C s a w) (hrel:Rel C.w0 C.base C.nt loc s a w) (hdst':∀k,o.dst=some k→k<C.nt){K:St→Prop}{f:FuncId}{k:Nat}{vs:Array Value}{ds:List D}{T:TypeId}{sz i n:Nat}{l l':List D}{r:D}{v:Value}
  (hk:∀t a' w',Is C t a' w'→K t→R a' w') (hrun:(execOp a.eval o).run C.P w = .ok (.enter f vs) w) (hm:s.m i=some ⟨T,sz,.row l,false⟩) (hlp0:0<l.length) (e5:eA C.P C.A f k ds T sz l r l') (hsz:vs.size=ds.length)
  (hVo:∀(j:Nat) (e:D),j≠k→ds[j]? = some e→V w (NB C.base s.m loc w) (vs.getD j undef) e) (hargk:vs.getD k undef=v) (hrv:RV w (NB C.base s.m loc w) loc v (.slice i 0 n)) (hnl:n=l.length)
  (hK:K ((⟨s.r,upd s.m i (some ⟨T,sz,.row l',false⟩)⟩:St).put o.dst (fc i r))):o.wp C.P a w R Q:=by
 unfold Oper.wp;rw[hrun];cases hrv with
 |sliceEmp L _ _ p h1=>omega
 |slice L _ _ _ cap h1 h2 h3 h4 h5 =>
  obtain⟨L',hL',hok⟩:=hrel.objs i _ hm;rw[h1] at hL';cases hL';obtain⟨c,fr,k1,k2,k3,k4,-⟩:=hok.at_ h2;obtain⟨m1,m2,m3⟩:=k3;have k4:=k4 rfl;have hLs:L.sz=sz:=hok.sz;simp only at m1 m2 m3 k1;have hcalls:=e5 (fun b=>C.base.own b∨cG s.m loc b) w vs L.b L.o cap c fr (l9 hrel) (ma hC h hrel) hsz
   (fun j e hj he=>(hVo j e hj he).mono (fun _ _=>rfl) fun b hb=>⟨hb.1,fun hh=>hh.elim hb.2.1 hb.2.2⟩)
   (.inr ⟨i,_,L,hm,rfl,h1,h2,rfl⟩) (by rw[hargk,hnl,Nat.zero_mul,Nat.add_zero]) k1 (by omega) h4 (by rw[hLs] at h5;omega) (fun x hx=>k4.2 x (by omega))
   ⟨m1,m2,fun p e j q g1 g2=>⟨(m3 p e j q g1 g2).1,(m3 p e j q g1 g2).2.mono (fun _ _=>rfl) fun b hb=>⟨hb.1,fun hh=>hh.elim hb.2.1 hb.2.2⟩⟩⟩
  refine hcalls.mono fun e w' he => ?_
  obtain⟨v',c',rfl,q1,q2,q3,q4,q5⟩:=he;have hrel':=hrel.turn hm rfl h1 h2 q1 (by rintro b ⟨Lb,hLb,rfl⟩;cases hLb;rfl) k1 q2 q3 q4;refine hk _ _ _ ?_ hK;have htypes:∀id ob,upd s.m i (some ⟨T,sz,.row l',false⟩) id=some ob→ob.T∈C.OT:=fun id ob hob=>by
   by_cases e:id=i
   ·subst e;rw[aD] at hob;cases hob;exact (show T∈C.OT from h.2 id ⟨T,sz,.row l,false⟩ hm)
   ·rw[aA _ _ e] at hob;exact h.2 id ob hob
  cases hd:o.dst with
  |none=>exact⟨⟨loc,hrel'⟩,htypes⟩
  |some t =>
   refine⟨⟨loc,hrel'.put (hdst' t hd) ?_⟩,htypes⟩;unfold fc;unfold iJ at q5;split
   ·rcases q5 with⟨cap',rfl,z2,z3,z4⟩ | ⟨z0,p,rfl⟩
    ·have:=RV.slice (w:=w') (N:=NB C.base (upd s.m i (some ⟨T,sz,.row l',false⟩)) loc w') L i 0 _ cap' h1 h2 z2 z3 (by rw[hLs,←k2];omega)
     rwa[Nat.zero_mul,Nat.add_zero] at this
    ·rw[z0];exact .sliceEmp L i 0 p h1
   ·rename_i hne;split at q5
    ·exact absurd rfl (hne _)
    ·refine .p _ _ (q5.mono (fun _ _=>rfl) fun b hb=>⟨hb.1,fun hh=>hb.2 (.inl hh),fun hh=>hb.2 (.inr ?_)⟩);obtain⟨j,o',L',y1,y2,y3,y4,y5⟩:=hh;by_cases e:j=i
     ·subst e;exact⟨j,_,L',hm,rfl,y3,y4,y5⟩
     ·dsimp only at y1;rw[aA _ _ e] at y1;exact⟨j,o',L',y1,y2,y3,y4,y5⟩
theorem Qk (any:Bool) (M:Mem) (n:Nat) (d:D):(AV.p d).toD any M (n+1)=some d:=by simp only[AV.toD]
theorem qn {d:D}:∀(l:List Opd) (k:Nat) (ds:List D),aV s l=some ds→ds[k]? = some d→(eB s k l).toD false s.m 20=some d
 |[],k,ds,h,hd=>by
  simp only[aV,Option.some.injEq] at h;subst h;simp at hd
 |x::l,k,ds,h,hd=>by
  simp only[aV] at h;split at h
  case h_2=>cases h
  rename_i e es h1 h2;simp only[Option.some.injEq] at h;subst h;cases k with
  |zero =>
   simp only[List.getElem?_cons_zero,Option.some.injEq] at hd;subst hd;exact h1
  |succ k=>exact qn l k es h2 (by simpa using hd)
theorem Ql {Q:Exit→Act→World→Prop}{R:Act→World→Prop} (hC:C.Ok) (h:Is C s a w) (hrel:Rel C.w0 C.base C.nt loc s a w) (hdst':∀k,o.dst=some k→k<C.nt){K:St→Prop}{f:FuncId}{k:Nat}{cl:Call}{g:Option (Nat×Bool)}
  (hk:∀t a' w',Is C t a' w'→K t→R a' w') (hrun:(execOp a.eval o).run C.P w = .ok (.enter f (cl.args.map a.eval)) w) (hf6:f<LB)
  (hk8:k<8) (hs:au (ConX C.P C.A) ⟨o.dst,.callL f k (cl.args.toList.zipIdx.map fun (x,i)=>opd C.P cl.argTypes[i]? x),g⟩ K s):o.wp C.P a w R Q:=by
 simp only[au] at hs;split at hs
 case h_4=>exact hs.elim
 case h_3 =>
  split at hs
  case h_2=>exact hs.elim
  rename_i ds hds;obtain⟨d,hG,hK⟩:=hs;rw[ge] at hds;obtain⟨g1,g2⟩:=f9 hrel _ _ hds;exact iK hC h hrel hdst' hk hrun (hG.con hf6) (by simpa using g1) (fun i e hi=>by
   obtain⟨x,hx,hv⟩:=g2 i e hi;rw[fd cl i x hx];exact hv) hK
 case h_2 =>
  rename_i T sz hx;split at hs
  case h_2=>exact hs.elim
  rename_i ds hds;obtain⟨r,l',hG,hK⟩:=hs;rw[ge] at hds hx;obtain⟨g1,g2⟩:=f9 hrel _ _ hds;obtain⟨l1,e1,e3,e4,e5⟩:=hG.inv rfl hf6 hk8;have hl1:l1=[]:=by
   have hD:=qn _ k _ hds e1;rw[hx,Qk] at hD;simp only[Option.some.injEq,D.list.injEq,true_and] at hD;exact hD.symm
  exact iK hC h hrel hdst' hk hrun (e4 hl1) (by simpa using g1) (fun i e hi=>by
   obtain⟨x,hx,hv⟩:=g2 i e hi;rw[fd cl i x hx];exact hv) hK
 rename_i i n hx;split at hs
 case h_2=>exact hs.elim
 rename_i T sz l hm;split at hs
 case h_2=>exact hs.elim
 rename_i ds hds;obtain⟨hnl,r,l',hG,hK⟩:=hs;rw[ge] at hds hx;obtain⟨g1,g2,g3⟩:=qi hrel _ k _ _ hds;obtain⟨l1,e1,e3,e4,e5⟩:=hG.inv rfl hf6 hk8;rw[g2] at e1;simp only[Option.some.injEq,D.list.injEq,true_and] at e1;subst e1;obtain⟨x,hxk,hxv⟩:∃x,(cl.args.toList.zipIdx.map fun p=>(p.1,cl.argTypes[p.2]?))[k]? = some x∧(opd C.P x.2 x.1).ev s.r = .slice i 0 n:=by
  unfold eB at hx;rw[List.getElem?_map] at hx;cases hq:(cl.args.toList.zipIdx.map fun p=>(p.1,cl.argTypes[p.2]?))[k]? with
  |none=>rw[hq] at hx;cases hx
  |some x=>rw[hq] at hx;exact⟨x,rfl,hx⟩
 have hrv:=hrel.opd (P:=C.P) x.2 x.1;rw[hxv] at hrv;have hargk:=fd (a:=a) cl k x hxk;have hsz:(cl.args.map a.eval).size=ds.length:=by simpa using g1
 have hVo:∀(j:Nat) (e:D),j≠k→ds[j]? = some e→V w (NB C.base s.m loc w) ((cl.args.map a.eval).getD j undef) e:=fun j e hj he=>by
  obtain⟨y,hy,hv⟩:=g3 j e hj he;rw[fd cl j y hy];exact hv
 by_cases hl0:l=[]
 ·subst hl0;have hn0:n=0:=hnl;subst hn0;have hl':l'=[]:=List.eq_nil_of_length_eq_zero e3;subst hl';rw[if_pos rfl] at hK;have hsame:upd s.m i (some ⟨T,sz,.row [],false⟩)=s.m:=by
   funext j
   by_cases e:j=i
   ·subst e;rw[aD,hm]
   ·rw[aA _ _ e]
  rw[hsame] at hK;refine iK hC h hrel hdst' hk hrun (e4 rfl) hsz (fun j e he => ?_) hK;by_cases hj:j=k
  ·subst hj;rw[g2] at he;cases he;rw[hargk];generalize a.eval x.1=v at hrv;cases hrv with
   |slice L _ _ _ cap h1 h2 h3 h4 h5=>exact .empty _ _ _ _ h4
   |sliceEmp L _ _ p h1=>exact .empty _ _ _ _ (by omega)
  ·exact hVo j e hj he
 ·rw[if_neg hl0] at hK;exact Qj hC h hrel hdst' hk hrun hm (List.length_pos_iff.2 hl0) (e5 hl0) hsz hVo hargk hrv hnl hK
theorem Qn {Q:Exit→Act→World→Prop}{R:Act→World→Prop} (hC:C.Ok) (h:Is C s a w) (hrel:Rel C.w0 C.base C.nt loc s a w) (hdst':∀k,o.dst=some k→k<C.nt){K:St→Prop}{fs:List FuncId}{cl:Call}{n:Nat}{g:Option (Nat×Bool)}
  (hk:∀t a' w',Is C t a' w'→K t→R a' w') (hop:o.op = .call cl) (hclv:cl.callee = .value (.tmp n)) (hcal:fs.all (eC C.P)=true)
  (hs:au (ConX C.P C.A) ⟨o.dst,.callv fs (.t n) (cl.args.toList.zipIdx.map fun (x,i)=>opd C.P cl.argTypes[i]? x),g⟩ K s):o.wp C.P a w R Q:=by
 simp only[au] at hs;split at hs
 case h_2=>exact hs.elim
 rename_i f A B ds hfv hds;obtain⟨hfs,d,hG,hK⟩:=hs;simp only[List.all_eq_true] at hcal;obtain⟨hf6,fn,hff,hbn,hnm⟩:=gP (hcal f (by simpa using hfs));replace hG:=hG.con hf6;rw[ge] at hds;obtain⟨g1,g2⟩:=f9 hrel _ _ hds;have g1':cl.args.size=ds.length:=by simpa using g1
 have hV:=fE hrel hfv (hrel.tmps n);generalize hva:a.tmps.getD n undef=v at hV;cases hV with
 |fn _ xA yB _ _ z1 z2 z3 z4 =>
  have hrun:(execOp a.eval o).run C.P w = .ok (.enter f (xA++cl.args.map a.eval++yB)) w:=by
   have hev:a.eval (.tmp n) = .func (.func f) xA yB:=by simpa[Act.eval] using hva
   simp[execOp,hop,resolve,hclv,hev,Deferred.ofValue,invoke,callFunc,hff,hnm,hbn]
  refine iK hC h hrel hdst' hk hrun hG (by simp[z1,z2,g1']) (fun i e hi => ?_) hK;by_cases hi1:i<A.length
  ·rw[List.append_assoc,List.getElem?_append_left hi1] at hi;have:=z3 i e hi;rw[Array.getD_eq_getD_getElem?,Array.append_assoc,Array.getElem?_append_left (by omega),←Array.getD_eq_getD_getElem?];exact this
  ·by_cases hi2:i<A.length+ds.length
   ·rw[List.getElem?_append_left (by simp;omega),List.getElem?_append_right (by omega)] at hi;obtain⟨y,hy,hv⟩:=g2 _ e hi;rw[Array.getD_eq_getD_getElem?,Array.getElem?_append_left (by simp[z1];omega),Array.getElem?_append_right (by omega),z1,←Array.getD_eq_getD_getElem?,fd cl _ y hy];exact hv
   ·rw[List.getElem?_append_right (by simp;omega)] at hi;have:=z4 _ e hi;rw[Array.getD_eq_getD_getElem?,Array.getElem?_append_right (by simp[z1];omega),←Array.getD_eq_getD_getElem?];simpa[z1,g1'] using this
theorem Qo {Q:Exit→Act→World→Prop}{R:Act→World→Prop} (hC:C.Ok) (h:Is C s a w) (hrel:Rel C.w0 C.base C.nt loc s a w) (hdst':∀k,o.dst=some k→k<C.nt){K:St→Prop}{f:FuncId}{T:TypeId}{cl:Call}{g:Option (Nat×Bool)}{nb:Bool} (hT:C.OT.contains T=true)
  (hk:∀t a' w',Is C t a' w'→K t→R a' w') (hrun:(execOp a.eval o).run C.P w = .ok (.enter f (cl.args.map a.eval)) w) (hf6:f<LB)
  (hs:au (ConX C.P C.A) ⟨o.dst,.callN f T ((cl.args.toList.zipIdx.map fun (x,i)=>opd C.P cl.argTypes[i]? x).map (gO nb)),g⟩ K s):o.wp C.P a w R Q:=by
 simp only[au] at hs;split at hs
 case h_2=>exact hs.elim
 rename_i ds hds;split at hs
 case h_2=>exact hs.elim
 rename_i hid;obtain⟨sz,l,hG,hK⟩:=hs;have hcon:=hG.new rfl hf6;rw[ge] at hds;obtain⟨g1,g2⟩:=qh hrel nb _ _ hds;unfold Oper.wp;rw[hrun];have hcalls:=hcon (fun b=>C.base.own b∨cG s.m loc b) w (cl.args.map a.eval) (l9 hrel) (ma hC h hrel) (by simpa using g1) (fun i e hi=>by
  obtain⟨x,hx,hv⟩:=g2 i e hi;rw[fd cl i x hx];exact hv.mono (fun _ _=>rfl) fun b hb=>⟨hb.1,fun hh=>hh.elim hb.2.1 hb.2.2⟩)
 refine hcalls.mono fun e w' he => ?_
 obtain⟨v,L,rfl,hext,hn⟩:=he;have hrel':=hrel.adopt hext hid (T:=T) (sz:=sz) (l:=l) L hn.siz hn.nil hn.obj;have htypes:∀id ob,upd s.m (o.dst.getD 0) (some ⟨T,sz,.row l,false⟩) id=some ob→ob.T∈C.OT:=fun id ob hob=>by
  by_cases e:id=o.dst.getD 0
  ·subst e;rw[aD] at hob;cases hob;simpa using hT
  ·rw[aA _ _ e] at hob;exact h.2 id ob hob
 refine hk _ _ _ ?_ hK;cases hd:o.dst with
 |none=>rw[hd] at hrel' htypes;exact⟨⟨_,hrel'⟩,htypes⟩
 |some t =>
  rw[hd] at hrel' htypes;refine⟨⟨_,hrel'.put (hdst' t hd) ?_⟩,htypes⟩;rcases hn.val with⟨rfl,p,rfl⟩ | ⟨hnl,cap,rfl,z1,z2,z3⟩
  ·exact .sliceEmp L _ 0 p (aD _ _ _)
  ·have:=RV.slice (w:=w') (N:=NB C.base (upd s.m ((some t).getD 0) (some ⟨T,sz,.row l,false⟩)) (upd loc ((some t).getD 0) (some L)) w') (loc:=upd loc ((some t).getD 0) (some L)) L ((some t).getD 0) 0 l.length cap (aD loc _ _) hnl z1 z2 (by rw[hn.siz];omega)
   rwa[Nat.zero_mul,Nat.add_zero] at this
theorem Qp {Q:Exit→Act→World→Prop}{R:Act→World→Prop} (h:Is C s a w) (hrel:Rel C.w0 C.base C.nt loc s a w) (hdst':∀k,o.dst=some k→k<C.nt){K:St→Prop}{op:BinOp}{T Y e:TypeId}{x:Operand}{neg:Bool}{g:Option (Nat×Bool)}
  (hk:∀t a' w',Is C t a' w'→K t→R a' w') (hop:o.op = .binOp op T x (.const (.slice none 0 0)) Y) (hneg:op=if neg then .neq else .eql) (hu:C.P.underlying T=some (.slice e))
  (hs:au (ConX C.P C.A) ⟨o.dst,.isNil neg (opd C.P none x),g⟩ K s):o.wp C.P a w R Q:=by
 have hx:=hrel.opd (P:=C.P) none x;have fin:∀b:Bool,(execOp a.eval o).run C.P w = .ok (.value (.bool b)) w→K (s.put o.dst (.p (.bool b)))→o.wp C.P a w R Q:=by
  intro b hrun hK;unfold Oper.wp;rw[hrun];refine hk _ _ _ ?_ hK;cases hd:o.dst with
  |none=>exact h
  |some k=>exact⟨⟨loc,hrel.put (hdst' k hd) (.p _ _ (.bool _))⟩,h.2⟩
 have run:∀p len cap,a.eval x = .slice p len cap→(execOp a.eval o).run C.P w = .ok (.value (.bool (p.isNone != neg))) w:=by
  intro p len cap hv;have heq:(Op.equal T (.slice p len cap) (.slice none 0 0)).run C.P w = .ok p.isNone w:=by
   have hd:∀d:Nat,(Op.equalIn (d+1) T (.slice p len cap) (.slice none 0 0)).run C.P w = .ok p.isNone w:=by
    intro d;cases p<;>simp[Op.equalIn,run_underlying hu]
   exact hd 9999
  have hg:∀op,(eqGuard op T x (.const (.slice none 0 0)) (.slice p len cap) (.slice none 0 0)).run C.P w = .ok () w:=by
   intro op;cases op<;>rfl
  have h1:(binOp .eql T (.slice p len cap) (.slice none 0 0)).run C.P w = .ok (.bool p.isNone) w:=by
   have:binOp .eql T (.slice p len cap) (.slice none 0 0)=(do pure (.bool (← Op.equal T (.slice p len cap) (.slice none 0 0)))):=rfl;rw[this];simp only[Sem.run_bind,heq,Result.andThen_ok,Sem.run_pure]
  have h2:(binOp .neq T (.slice p len cap) (.slice none 0 0)).run C.P w = .ok (.bool (!p.isNone)) w:=by
   have:binOp .neq T (.slice p len cap) (.slice none 0 0)=(do pure (.bool (!(← Op.equal T (.slice p len cap) (.slice none 0 0))))):=rfl;rw[this];simp only[Sem.run_bind,heq,Result.andThen_ok,Sem.run_pure]
  have hev:a.eval (.const (.slice none 0 0)) = .slice none 0 0:=rfl;subst hneg;simp only[execOp,hop,hv,hev];refine eo ?_;simp only[Sem.run_bind,hg,Result.andThen_ok];cases neg with
  |true=>simp only[if_true];rw[h2];cases p<;>rfl
  |false=>simp only[Bool.false_eq_true,if_false];rw[h1];cases p<;>rfl
 simp only[au] at hs;split at hs
 ·rename_i T' sz hX;rw[hX] at hx;generalize hxv:a.eval x=v at hx;cases hx;have:=run _ _ _ hxv;exact fin _ this (by cases neg<;>exact hs)
 ·rename_i T' sz l hX;rw[hX] at hx;have hx:=hx.inv;generalize hxv:a.eval x=v at hx;cases hx with
  |empty p cap=>exact fin _ (run _ _ _ hxv) (hs _ (fun hne=>absurd rfl hne))
  |list b o0 cap=>exact fin _ (run _ _ _ hxv) (hs _ (fun _=>rfl))
 ·exact hs.elim
theorem qo {ops:Array Oper}{Q:Exit→Act→World→Prop}{i:Nat}{c:COp} (hC:C.Ok) (ho:ops[i]? = some o) (hc:cop C.P C.nt C.OT ops o=some c) (h:Is C s a w){K:St→Prop}{R:Act→World→Prop}
  (hk:∀t a' w',Is C t a' w'→K t→R a' w') (hg:bF (ConX C.P C.A) c K s):wpOp C.P ops Q i R a w:=by
 unfold cop at hc;split at hc
 case h_2=>cases hc
 rename_i ao hao;split at hc
 case isFalse=>cases hc
 rename_i hok;simp only[Bool.and_eq_true] at hok;obtain⟨⟨hty,hdst⟩,hcal⟩:=hok;have hdst':∀k,o.dst=some k→k<C.nt:=by intro k hk;rw[hk] at hdst;simpa[qg] using hdst
 have core:∀K:St→Prop,(∀t a' w',Is C t a' w'→K t→R a' w')→au (ConX C.P C.A) ⟨o.dst,ao.lend C.OT,c.guard⟩ K s→o.wp C.P a w R Q:=by
  intro K hk hs;obtain⟨loc,hrel⟩:=h.1;by_cases hcall:∃f args,ao = .call f args
  ·obtain⟨f,args,rfl⟩:=hcall;obtain⟨cl,hop,hcl,rfl⟩:=Qh hao;have hrun:eC C.P f=true→(execOp a.eval o).run C.P w = .ok (.enter f (cl.args.map a.eval)) w:=by
    intro hf;obtain⟨_,fn,hf,hbn,hnm⟩:=gP hf;simp[execOp,hop,resolve,hcl,Deferred.ofValue,invoke,callFunc,Act.eval,hf,hnm,hbn]
   simp only[AOp.lend] at hs hcal;cases hlp:j5 C.OT f with
   |none =>
    rw[hlp] at hs hcal;by_cases hnt:∃T,j6 f C.OT=some T∧C.OT.contains T=true
    ·obtain⟨T,hnt1,hnt2⟩:=hnt;simp only[hnt1,hnt2,if_true] at hs hcal;exact Qo hC h hrel hdst' hnt2 hk (hrun hcal) (gP hcal).1 hs
    have hno:∀args:List Opd,(match j6 f C.OT with
     |some T=>if C.OT.contains T=true then AOp.callN f T (args.map (gO (C.OT.contains (80000000+f)))) else (AOp.call f args).wid (dg C.OT)
     |none=>(AOp.call f args).wid (dg C.OT))=(AOp.call f args).wid (dg C.OT):=by
     intro args;split
     ·rename_i T hT;rw[if_neg fun e=>hnt ⟨T,hT,e⟩]
     ·rfl
    simp only[hno] at hs hcal;by_cases hwe:(dg C.OT).isEmpty=true
    case neg =>
     simp only[AOp.wid,hwe] at hs hcal;simp only[Bool.false_eq_true,if_false,au] at hs hcal;split at hs
     case h_2=>exact hs.elim
     rename_i ds hds;obtain⟨haw,d,hG,hK⟩:=hs;have hcon:=hG.wid rfl (gP hcal).1;rw[ge] at hds;obtain⟨g1,g2⟩:=f9 hrel _ _ hds;exact qm h hrel hdst' hk (hrun hcal) hcon (Qg hC hrel haw) (by simpa using g1) (fun i e hi=>by
      obtain⟨x,hx,hv⟩:=g2 i e hi;rw[fd cl i x hx];exact hv) hK
    simp only[AOp.wid,hwe,if_true] at hs hcal;simp only[au] at hs;split at hs
    case h_2=>exact hs.elim
    rename_i ds hds;obtain⟨d,hcon,hK⟩:=hs;replace hcon:=hcon.con (gP hcal).1;rw[ge] at hds;obtain⟨g1,g2⟩:=f9 hrel _ _ hds;exact iK hC h hrel hdst' hk (hrun hcal) hcon (by simpa using g1) (fun i e hi=>by
     obtain⟨x,hx,hv⟩:=g2 i e hi;rw[fd cl i x hx];exact hv) hK
   |some k =>
    rw[hlp] at hs hcal;exact Ql hC h hrel hdst' hk (hrun hcal) (gP hcal).1 (Qf hlp) hs
  ·by_cases hcv:∃fs x args,ao = .callv fs x args
   ·obtain⟨fs,x,args,rfl⟩:=hcv;obtain⟨cl,n,hop,hclv,rfl,rfl⟩:=Qi hao;exact Qn hC h hrel hdst' hk hop hclv hcal hs
   by_cases hin:∃neg x,ao = .isNil neg x
   ·obtain⟨neg,x,rfl⟩:=hin;obtain⟨op,T,xx,Y,e,q1,q2,q3,rfl⟩:=Qa hao;exact Qp h hrel hdst' hk q1 q2 q3 hs
   have hlend:ao.lend C.OT=ao:=by
    cases ao<;>first | rfl | exact absurd ⟨_,_,rfl⟩ hcall | exact absurd ⟨_,_,_,rfl⟩ hcv
   rw[hlend] at hs;unfold Oper.wp;have hs':∃v t,((ev ao (o.dst.getD 0) s=some (true,v,t)∧∀T sz b y,ao≠.copyS T sz b y)∨∃T sz b x y,(ao = .append T sz b x y∨(ao = .copyS T sz b y∧x = .k (.nils T sz)))∧dk T sz b x y (o.dst.getD 0) s=some (true,v,t))∧K (t.put o.dst v):=by
    cases ao<;>simp only[au] at hs<;>first | (exact absurd ⟨_,_,rfl⟩ hcall) | skip
    case appendF T sz b x y=>exact (P3 hao).elim
    case callL f k args=>exact (P6 hao).elim
    case callN f T args=>exact (P4 hao).elim
    case callW f B args=>exact (P5 hao).elim
    case isNil neg x=>exact absurd ⟨_,_,rfl⟩ hin
    case copyF T sz b y=>exact (P7 hao).elim
    case copyS T sz b y =>
     split at hs
     case h_2=>exact hs.elim
     rename_i p v t hev;refine⟨v,t,.inr ⟨T,sz,b,.k (.nils T sz),y,.inr ⟨rfl,rfl⟩,?_⟩,hs.2⟩;simp only[ev] at hev;split at hev
     case h_2=>cases hev
     rename_i ys hid hys;simp only[Option.some.injEq,Prod.mk.injEq] at hev;obtain⟨h1,h2,h3⟩:=hev;subst h2 h3;unfold dk;simp only[hys];simp only[Opd.ev,hid,if_true];rw[h1,hs.1]
    case callv fs x args=>exact absurd ⟨_,_,_,rfl⟩ hcv
    case append T sz b x y =>
     split at hs
     ·rename_i p v t hev;exact⟨v,t,.inr ⟨T,sz,b,x,y,.inl rfl,by rw[hev,hs.1]⟩,hs.2⟩
     ·exact hs.elim
    all_goals
     split at hs
     ·rename_i p v t hev;exact⟨v,t,.inl ⟨by rw[hev,hs.1],by simp⟩,hs.2⟩
     ·exact hs.elim
   obtain⟨v,t,hev,hK⟩:=hs';have hgood:aK C.P C.w0 C.base C.nt o a w t v∧∀id o,t.m id=some o→o.T∈C.OT:=by
    rcases hev with⟨hev,hnc⟩ | ⟨T,sz,b,x,y,hap,hev⟩
    ·by_cases hcp:∃x y,ao = .copyA x y
     ·obtain⟨x,y,rfl⟩:=hcp;obtain⟨c,xx,yy,T,T2,E,E2,ag,U,W,q1,q2,q3,q4,q5,q6,q7,rfl,rfl⟩:=P9 hao;exact⟨yj hrel q1 q2 q3 q4 q5 q6 q7 hev,l7 hev hty h.2⟩
     ·by_cases hcl:∃sz z x,ao = .clearS sz z x
      ·obtain⟨sz,z,x,rfl⟩:=hcl;obtain⟨c,xx,T,E,l,ag,U,q1,q2,q3,q4,q5,q6,rfl,rfl⟩:=Qb hao;exact⟨yk hrel q1 q2 q3 q4 q5 q6 hev,l7 hev hty h.2⟩
      ·exact⟨sim (P:=C.P) hrel hao hnc (fun x y e=>hcp ⟨x,y,e⟩) (fun sz z x e=>hcl ⟨sz,z,x,e⟩) hev,l7 hev hty h.2⟩
    ·obtain⟨c,xx,yy,TT,lz,ag,ti,U,W,T',sz',b',q1,q2,q3,q4,q5,q6,q7,q8,q9⟩:=P8 hao (hap.imp (fun e=>⟨_,_,_,_,_,e⟩) (fun e=>⟨_,_,_,_,e.1⟩));have hTT:C.OT.contains T=true:=by
      rcases hap with e | ⟨e,-⟩<;>subst e<;>exact hty
     have hpar:T'=T∧sz'=sz∧b'=b∧x=opd C.P U xx∧y=opd C.P W yy:=by
      rcases rg T' sz' b' (opd C.P U xx) (opd C.P W yy) with e1 | ⟨e1,e2⟩<;>rw[e1] at q9<;>rcases hap with e | ⟨e,e3⟩<;>rw[e] at q9
      ·cases q9;exact⟨rfl,rfl,rfl,rfl,rfl⟩
      ·cases q9
      ·cases q9
      ·cases q9;exact⟨rfl,rfl,rfl,by rw[e2,e3],rfl⟩
     obtain⟨rfl,rfl,rfl,rfl,rfl⟩:=hpar;exact⟨FX hrel q1 q2 q3 q4 q5 q6 q7 q8 hev,P2 hev hTT h.2⟩
   obtain⟨⟨x,w',loc',hrun,hrel',hrv⟩,htypes⟩:=hgood;have his:Is C t a w':=⟨⟨loc',hrel'⟩,htypes⟩
   have hput:Is C (t.put o.dst v) (a.put o.dst x) w':=by
    cases hd:o.dst with
    |none=>exact his
    |some k=>exact⟨⟨loc',hrel'.put (hdst' k hd) hrv⟩,his.2⟩
   rcases hrun with hrun | ⟨hrun,rfl⟩
   ·rw[hrun];exact hk _ _ _ hput hK
   ·rw[hrun];exact hk _ _ _ hput hK
 have hwp:au (ConX C.P C.A) c K s→c.dst=o.dst→c.op=((ao.lend C.OT).fz (j4 C.OT o.dst)).pl (l6 C.OT o.dst)→o.wp C.P a w R Q:=by
  intro h1 h2 h3;refine core (fun t => ∃u,(u=t∨∃i,u=cE i t)∧K u) (fun t a' w' ht hk'=>by
   obtain⟨u,hu | ⟨i,hu⟩,hK⟩:=hk'
   ·subst hu;exact hk _ _ _ ht hK
   ·subst hu;exact hk _ _ _ (ht.frz _) hK) (Qe (j4 C.OT o.dst) ?_)
  obtain⟨dst,op,g⟩:=c;simp only at h2 h3;subst h2;subst h3;exact Qd _ h1
 unfold wpOp;simp only[ho];split at hc
 ·rename_i hg0;simp only[Option.some.injEq] at hc;subst hc;have hw:Region.wanted o (yielded ops a.tmps)=true:=by unfold Region.wanted;rw[hg0]
  rw[hw,if_pos rfl];exact .inl (hwp hg rfl rfl)
 ·rename_i j want hg0;split at hc
  case h_2=>cases hc
  rename_i g hg1;simp only[Option.some.injEq] at hc;subst hc;simp only[bF] at hg;split at hg
  case h_3=>exact hg.elim
  case h_2 =>
   rename_i hb;obtain⟨loc,hrel⟩:=h.1;have hy:yielded ops a.tmps j=none:=by
    have:=hrel.tmps g;rw[hb] at this;have:=this.inv;unfold yielded;rw[hg1];simp only[Option.bind_some];rw[Array.getD_eq_getD_getElem?] at this;cases hq:a.tmps[g]? with
    |none=>rfl
    |some v=>rw[hq] at this;simp only[Option.getD_some] at this;cases this;rfl
   have hw:Region.wanted o (yielded ops a.tmps)=false:=by
    unfold Region.wanted;rw[hg0];simp only[hy];cases want<;>rfl
   rw[hw,if_neg (by simp)];exact hk _ _ _ (h.put hdst' (fun _ _ => .p _ _ (.tup #[] [] rfl (fun i d hd=>by simp at hd)))) hg
  rename_i b hb;obtain⟨loc,hrel⟩:=h.1;have hy:yielded ops a.tmps j=some b:=by
   have:=hrel.tmps g;rw[hb] at this;have:=this.inv;unfold yielded;rw[hg1];simp only[Option.bind_some];rw[Array.getD_eq_getD_getElem?] at this;cases hq:a.tmps[g]? with
   |none=>rw[hq] at this;simp[undef] at this;cases this
   |some v=>rw[hq] at this;simp only[Option.getD_some] at this;cases this;rfl
  have hw:Region.wanted o (yielded ops a.tmps)=(b == want):=by
   unfold Region.wanted;rw[hg0];simp only[hy];cases b<;>cases want<;>rfl
  rw[hw];split at hg
  ·rename_i hbw;subst hbw;simp only[BEq.rfl,if_true];exact .inl (hwp hg rfl rfl)
  ·rename_i hbw;rw[if_neg (by simpa using hbw)];exact hk _ _ _ (h.put hdst' (fun _ _ => .p _ _ (.tup #[] [] rfl (fun i d hd=>by simp at hd)))) hg
end
end Go.Proofs.Ytdchbabgopglcaa.M
