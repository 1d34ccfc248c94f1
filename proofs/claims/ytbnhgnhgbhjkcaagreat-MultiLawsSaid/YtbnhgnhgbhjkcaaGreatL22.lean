/- Lemmas. -/
import Derived.Test.YtbnhgnhgbhjkcaaGreatL21
import Derived.ChangeArms
import Derived.OpenShut
set_option linter.defProp false
set_option linter.unusedVariables false
namespace Go.Proofs.YtbnhgnhgbhjkcaaGreat.M
open Go.RowKit
def ar:List (Nat×AV)→Nat→AV
 |[],_ => .und
 |(i,v)::l,t=>if t=i then v else ar l t
def ay:List (Nat×AObj)→Mem
 |[],_=>none
 |(i,v)::l,t=>if t=i then some v else ay l t
def fL (t:Nat) (v:AV):List (Nat×AV)→List (Nat×AV)
 |[]=>[(t,v)]
 |(i,u)::l=>if i=t then (t,v)::l else (i,u)::fL t v l
def eR (t:Nat) (v:AObj):List (Nat×AObj)→List (Nat×AObj)
 |[]=>[(t,v)]
 |(i,u)::l=>if i=t then (t,v)::l else (i,u)::eR t v l
def sel (r:Nat→AV):List Nat→List (Nat×AV)
 |[]=>[]
 |t::l=>(t,r t)::sel r l
theorem eS (t:Nat):ar [] t = .und:=rfl
theorem dv (i:Nat) (v:AV) (l:List (Nat×AV)) (t:Nat):ar ((i,v)::l) t=if t=i then v else ar l t:=rfl
theorem l7 (t:Nat):ay [] t=none:=rfl
theorem fN (i:Nat) (v:AObj) (l:List (Nat×AObj)) (t:Nat):ay ((i,v)::l) t=if t=i then some v else ay l t:=rfl
theorem vH (t:Nat) (v:AV):fL t v []=[(t,v)]:=rfl
theorem vI (t:Nat) (v:AV) (i:Nat) (u:AV) (l:List (Nat×AV)):fL t v ((i,u)::l)=if i=t then (t,v)::l else (i,u)::fL t v l:=rfl
theorem vJ (t:Nat) (v:AObj):eR t v []=[(t,v)]:=rfl
theorem vK (t:Nat) (v:AObj) (i:Nat) (u:AObj) (l:List (Nat×AObj)):eR t v ((i,u)::l)=if i=t then (t,v)::l else (i,u)::eR t v l:=rfl
theorem zbs (r:Nat→AV):sel r []=[]:=rfl
theorem vL (r:Nat→AV) (t:Nat) (l:List Nat):sel r (t::l)=(t,r t)::sel r l:=rfl
theorem i6 (t:Nat) (v:AV):∀(l:List (Nat×AV)),upd (ar l) t v=ar (fL t v l)
 |[]=>by funext j;simp only[upd,vH,dv,eS]
 |(i,u)::l=>by
  funext j
  have ih:=congrFun (i6 t v l) j;simp only[upd] at ih;simp only[upd,vI,dv];by_cases hit:i=t
  ·subst hit;rw[if_pos rfl,dv];split
   ·rfl
   ·rfl
  ·rw[if_neg hit,dv,←ih];by_cases hj:j=t
   ·subst hj;rw[if_pos rfl,if_neg (fun e=>hit e.symm),if_pos rfl]
   ·rw[if_neg hj,if_neg hj]
theorem jV (t:Nat) (v:AObj):∀(l:List (Nat×AObj)),upd (ay l) t (some v)=ay (eR t v l)
 |[]=>by funext j;simp only[upd,vJ,fN,l7]
 |(i,u)::l=>by
  funext j
  have ih:=congrFun (jV t v l) j;simp only[upd] at ih;simp only[upd,vK,fN];by_cases hit:i=t
  ·subst hit;rw[if_pos rfl,fN];split
   ·rfl
   ·rfl
  ·rw[if_neg hit,fN,←ih];by_cases hj:j=t
   ·subst hj;rw[if_pos rfl,if_neg (fun e=>hit e.symm),if_pos rfl]
   ·rw[if_neg hj,if_neg hj]
theorem i7 {r:Nat→AV}:∀(ts:List Nat) (t:Nat),ar (sel r ts) t = .und∨ar (sel r ts) t=r t
 |[],_ => .inl rfl
 |i::ts,t=>by
  rw[vL,dv];split
  ·rename_i e;subst e;exact .inr rfl
  ·exact i7 ts t
section
variable {s t:St}{r:Nat→AV}{m:Mem}{OT:List TypeId}
theorem Sub.und {r':Nat→AV} (h:∀t,r' t = .und∨r' t=r t):Sub OT ⟨r,m⟩ ⟨r',m⟩:=by
 rintro C a w-⟨⟨loc,hr⟩,h2⟩;refine⟨⟨loc,hr.ext,hr.defers,hr.size,hr.low,hr.dom,fun t => ?_,hr.objs,hr.inj,hr.keepL⟩,h2⟩;rcases h t with e | e<;>simp only[e]
 ·exact .und _
 ·exact hr.tmps t
theorem Sub.nil {T sz:Nat} (i id:Nat) (hi:r i = .nils T sz) (hm:m id=none) (hT:T∈OT):Sub OT ⟨r,m⟩ ⟨upd r i (.slice id 0 0),upd m id (some ⟨T,sz,.row [],false⟩)⟩:=by
 rintro C a w rfl ⟨⟨loc,hr⟩,h2⟩;have h':=hr.allocNil hm T sz;refine⟨⟨_,h'.ext,h'.defers,h'.size,h'.low,h'.dom,fun t => ?_,h'.objs,h'.inj,h'.keepL⟩,fun j o ho => ?_⟩
 ·by_cases e:t=i
  ·subst e;have hv:RV w (NB C.base m loc w) loc (a.tmps.getD t undef) (r t):=hr.tmps t;rw[hi] at hv;simp only[aE];generalize a.tmps.getD t undef=v at hv;cases hv with
   |nils=>exact .sliceEmp _ id 0 none (aE _ _ _)
  ·simp only[aC _ _ e];exact h'.tmps t
 ·by_cases e:j=id
  ·subst e;simp only[aE,Option.some.injEq] at ho;subst ho;exact hT
  ·simp only[aC _ _ e] at ho;exact h2 j o ho
theorem keep (ts:List Nat){R:St→Prop} (h:R ⟨ar (sel r ts),m⟩):∃u,Sub OT ⟨r,m⟩ u∧R u:=⟨_,Sub.und (i7 ts),h⟩
theorem bw (a:D):bx [a]=⟨ar [(0,.p a)],ay []⟩:=by
 unfold bx;congr 1;funext t
 match t with
 |0=>rfl
 |t+1=>simp[dv,eS]
theorem aB (a b:D):bx [a,b]=⟨ar [(0,.p a),(1,.p b)],ay []⟩:=by
 unfold bx;congr 1;funext t
 match t with
 |0 | 1=>rfl
 |t+2=>simp[dv,eS]
theorem bU (a b c:D):bx [a,b,c]=⟨ar [(0,.p a),(1,.p b),(2,.p c)],ay []⟩:=by
 unfold bx;congr 1;funext t
 match t with
 |0 | 1 | 2=>rfl
 |t+3=>simp[dv,eS]
theorem ed (a b c d:D):bx [a,b,c,d]=⟨ar [(0,.p a),(1,.p b),(2,.p c),(3,.p d)],ay []⟩:=by
 unfold bx;congr 1;funext t
 match t with
 |0 | 1 | 2 | 3=>rfl
 |t+4=>simp[dv,eS]
theorem zbt (b:Bool):D.cells (.bool b)=[.bool b]:=rfl
theorem zbu (b:Bool):D.one (.bool b)=true:=rfl
theorem zbv (b:Bool):D.isAgg (.bool b)=false:=rfl
theorem zbw (k:IntKind) (n:Int):D.cells (.int k n)=[.int k n]:=rfl
theorem zbx (k:IntKind) (n:Int):D.one (.int k n)=true:=rfl
theorem zby (k:IntKind) (n:Int):D.isAgg (.int k n)=false:=rfl
theorem zbz (s:List UInt8):D.cells (.str s)=[.str s]:=rfl
theorem zbA (s:List UInt8):D.one (.str s)=true:=rfl
theorem zbB (s:List UInt8):D.isAgg (.str s)=false:=rfl
theorem zbC (T:TypeId) (sz:Nat) (l:List D):D.cells (.list T sz l)=[.list T sz l]:=rfl
theorem zbD (T:TypeId) (sz:Nat) (l:List D):D.one (.list T sz l)=true:=rfl
theorem zbE (T:TypeId) (sz:Nat) (l:List D):D.isAgg (.list T sz l)=false:=rfl
theorem zbF :D.cells .nilp=[.nilp]:=rfl
theorem zbG :D.one .nilp=true:=rfl
theorem zbH :D.isAgg .nilp=false:=rfl
theorem zbI (d:D):D.cells (.ref d)=[.ref d]:=rfl
theorem zbJ (d:D):D.one (.ref d)=true:=rfl
theorem zbK (d:D):D.isAgg (.ref d)=false:=rfl
theorem zbL (f:Fn) (x y:List D):D.cells (.fn f x y)=[.fn f x y]:=rfl
theorem zbM (f:Fn) (x y:List D):D.one (.fn f x y)=true:=rfl
theorem zbN (f:Fn) (x y:List D):D.isAgg (.fn f x y)=false:=rfl
theorem zbO (l:List D):D.cells (.agg l)=l:=rfl
theorem zbP (l:List D):D.one (.agg l)=false:=rfl
theorem zbQ (l:List D):D.isAgg (.agg l)=true:=rfl
theorem zbR (d:D):AV.cells (.p d)=d.cells.map AV.p:=rfl
theorem zbS (d:D):AV.one (.p d)=d.one:=rfl
theorem zbT (d:D):AV.isAgg (.p d)=some d.isAgg:=rfl
theorem zbU (l:List AV):AV.cells (.agg l)=l:=rfl
theorem zbV (l:List AV):AV.isAgg (.agg l)=some true:=rfl
theorem zbW (l:List AV):AV.one (.agg l)=false:=rfl
theorem zbX (i o n:Nat):AV.cells (.slice i o n)=[.slice i o n]:=rfl
theorem zbY (i o n:Nat):AV.one (.slice i o n)=true:=rfl
theorem zbZ (i o n:Nat):AV.isAgg (.slice i o n)=some false:=rfl
theorem zb0 (i j o:Nat):AV.cells (.ptr i j o)=[.ptr i j o]:=rfl
theorem zb1 (i j o:Nat):AV.one (.ptr i j o)=true:=rfl
theorem zb2 (i j o:Nat):AV.isAgg (.ptr i j o)=some false:=rfl
theorem zb3 (T:TypeId) (sz:Nat):AV.cells (.nils T sz)=[.nils T sz]:=rfl
theorem zb4 (T:TypeId) (sz:Nat):AV.one (.nils T sz)=true:=rfl
theorem zb5 (T:TypeId) (sz:Nat):AV.isAgg (.nils T sz)=some false:=rfl
theorem zb6:bx []=⟨ar [],ay []⟩:=rfl
theorem pD (G:FuncId→List D→D→Prop) (K:St→Prop):∀(l l':List COp) (s:St),bN G (l++l') K s=bN G l (bN G l' K) s
 |[],_,_=>rfl
 |c::l,l',s=>by
  have:(fun t=>bN G (l++l') K t)=bN G l (bN G l' K):=funext fun t=>pD G K l l' t
  show bP G c (fun t=>bN G (l++l') K t) s=bP G c (bN G l (bN G l' K)) s
  rw[this]
theorem Sub.to (ts:List Nat){r':Nat→AV} (h:ar (sel r ts)=r'):Sub OT ⟨r,m⟩ ⟨r',m⟩:=by subst h;exact Sub.und (i7 ts)
theorem g9 {OT:List TypeId}{G:FuncId→List D→D→Prop}:∀{cc:CC}{Q Q':AExit→St→Prop}{s:St},(∀e t,Q e t→Q' e t)→cw OT G cc Q s→cw OT G cc Q' s
 |.skip,_,_,_,h,k=>h _ _ k
 |.ops _ l,_,_,_,h,k=>⟨k.1,uz l _ k.2 fun _ ht=>h _ _ ht⟩
 |.seq a b,Q,Q',s,h,k=>by
  refine g9 (cc:=a) (fun e t ht => ?_) k;cases e with
  |normal=>obtain⟨u,h1,h2⟩:=ht;exact⟨u,h1,g9 h h2⟩
  |exit id=>exact h _ _ ht
  |ret=>exact h _ _ ht
 |.cond x a b,Q,Q',s,h,k=>by
  simp only[cw] at k ⊢;split at k
  ·exact⟨fun e=>g9 h (k.1 e),fun e=>g9 h (k.2 e)⟩
  ·exact k.elim
 |.block id a,Q,Q',s,h,k=>by
  refine g9 (cc:=a) (fun e t ht => ?_) k;cases e with
  |normal=>exact h _ _ ht
  |exit j =>
   simp only at ht ⊢;split
   ·rw[if_pos ‹_›] at ht;exact h _ _ ht
   ·rw[if_neg ‹_›] at ht;exact h _ _ ht
  |ret=>exact h _ _ ht
 |.loop a,Q,Q',s,h,k=>fun R hR=>k R fun t ht=>hR t (g9 (fun e u hu=>by
  cases e with
  |normal=>exact hu
  |exit id=>exact h _ _ hu
  |ret=>exact h _ _ hu) ht)
 |.exit id,_,_,_,h,k=>h _ _ k
 |.ret,_,_,_,h,k=>h _ _ k
 |.stuck,_,_,_,_,k=>k.elim
theorem aL {G:FuncId→List D→D→Prop}{a:CC}{Q:AExit→St→Prop}{s:St}{ι:Type} (p:ι→Prop) (I:ι→St) (μ:ι→Nat) (i0:ι) (h0:p i0) (hs:Sub OT s (I i0))
  (round:∀i,p i→cw OT G a (fun e t=>match e with
   |.normal => ∃j,p j∧Sub OT t (I j)∧μ j<μ i
   |e=>Q e t) (I i)):cw OT G (.loop a) Q s:=fun R hR=>by
 have key:∀n i,μ i=n→p i→R (I i):=by
  intro n;induction n using Nat.strongRecOn with
  |_ n ih =>
   intro i hn hp;refine hR _ (g9 ?_ (round i hp));intro e t h;cases e with
   |normal =>
    obtain⟨j,h1,h2,h3⟩:=h;exact⟨_,h2,ih _ (hn ▸ h3) j rfl h1⟩
   |exit id=>exact h
   |ret=>exact h
 exact⟨_,hs,key _ i0 rfl h0⟩
theorem zb7 (l:List Int) (i:Nat):(l.map (D.int .i64)).getD i default=D.int .i64 (l.getD i 0):=by
 rw[List.getD_eq_getElem?_getD,List.getD_eq_getElem?_getD,List.getElem?_map];cases l[i]?<;>rfl
theorem zb8 (l:List Int) (i:Nat) (x:Int):(l.map (D.int .i64)).set i (D.int .i64 x)=(l.set i x).map (D.int .i64):=List.map_set.symm
theorem zb9 (n:Nat) (x:Int):List.replicate n (D.int .i64 x)=(List.replicate n x).map (D.int .i64):=List.map_replicate.symm
theorem zca (l:List Int) (n:Nat):(l.map (D.int .i64)).take n=(l.take n).map (D.int .i64):=List.map_take.symm
theorem zcb (l:List Int) (n:Nat):(l.map (D.int .i64)).drop n=(l.drop n).map (D.int .i64):=List.map_drop.symm
theorem zcc (l m:List Int):l.map (D.int .i64)++m.map (D.int .i64)=(l++m).map (D.int .i64):=List.map_append.symm
theorem zcd:((0:Nat):Int)=0:=rfl
theorem zce (n:Nat):((n:Int)+1).toNat=n+1:=by omega
theorem zcf (n:Nat):((n+1:Nat):Int)=(n:Int)+1:=rfl
end
def CV (w:World) (N:Nat→Prop) (cs:List Value) (l:List D):Prop:=cs.length=l.length∧(∀d∈l,d.one=true)∧∀i d,l[i]? = some d→V w N (cs.getD i undef) d
def bn (P:Program) (t:TypeId):Bool:=match P.underlying t with
 |some (.struct _)=>true
 |_=>false
inductive TyC (P:Program):TypeId→List D→Prop where
 |bool (t:TypeId) (b:Bool):P.underlying t=some .bool→TyC P t [.bool b]
 |int (t:TypeId) (k:IntKind) (n:Int):P.underlying t=some (.int k)→(Lit.int k n).wf=true→TyC P t [.int k n]
 |str (t:TypeId) (s:List UInt8):P.underlying t=some .string→s.length≤maxLen→TyC P t [.str s]
 |slice (t e:TypeId) (l:List D):P.underlying t=some (.slice e)→l.length≤maxLen→(∀d∈l,TyC P e d.cells)→(∀d∈l,d.cells.length=P.cellsOf e∧(∀q∈d.cells,q.one=true)∧d.isAgg=bn P e)→TyC P t [.list (e+1000000) (P.cellsOf e) l]
 |struct (t:TypeId) (fs:Array Field) (l:List D):P.underlying t=some (.struct fs)→l.length=P.cellsOf t→(∀f∈fs.toList,TyC P f.type ((l.drop f.offset).take (P.cellsOf f.type)))→TyC P t l
def fX (P:Program):Nat→List Field→Nat→Bool
 |o,[],e=>o == e
 |o,f::fs,e=>f.offset == o&&fX P (o+P.cellsOf f.type) fs e
theorem sR {P:Program}:∀{fs:List Field}{o e:Nat},fX P o fs e=true→o≤e
 |[],o,e,h=>by simp[fX] at h;omega
 |f::fs,o,e,h=>by
  simp only[fX,Bool.and_eq_true] at h;have:=sR h.2;omega
def kY (P:Program) (S:List TypeId):Bool:=S.all fun t=>decide (0<P.cellsOf t)&&match P.underlying t with
 |some .bool=>true
 |some (.int _)=>true
 |some .string=>true
 |some (.slice e)=>S.contains e
 |some (.struct fs)=>fs.toList.all (fun f=>S.contains f.type)&&fX P 0 fs.toList (P.cellsOf t)
 |_=>false
theorem CV.append {w:World}{N:Nat→Prop}{cs ds:List Value}{l m:List D} (h:CV w N cs l) (k:CV w N ds m):CV w N (cs++ds) (l++m):=by
 refine⟨by simp[h.1,k.1],fun d hd => ?_,fun i d hd => ?_⟩
 ·rcases List.mem_append.1 hd with hd | hd
  ·exact h.2.1 d hd
  ·exact k.2.1 d hd
 ·have hl:=h.1;rcases Nat.lt_or_ge i l.length with hi | hi
  ·rw[List.getElem?_append_left hi] at hd;have:=h.2.2 i d hd;rw[List.getD_eq_getElem?_getD,List.getElem?_append_left (by omega),←List.getD_eq_getElem?_getD];exact this
  ·rw[List.getElem?_append_right hi] at hd;have:=k.2.2 _ d hd;rw[List.getD_eq_getElem?_getD,List.getElem?_append_right (by omega),hl,←List.getD_eq_getElem?_getD];exact this
section
variable {H:Type}{enc:TypeId×Value→H}{P:Program}{w:World}{spare:Nat→Bool}{held:Bool}{N:Nat→Prop}
theorem Vf {a:Addr}{n:Nat}{cs:List Value} (h:w.cells? 0 a n=some cs):cs.length=n∧∀i,i<n→w.cell? (a.add i)=some (cs.getD i undef):=by
 unfold World.cells? at h;rw[if_pos (Nat.zero_le _)] at h;have hl:=mapM_some_length h;rw[List.length_range] at hl;refine⟨hl,fun i hi => ?_⟩;have:=mapM_some_get h i i (by simp[hi]);rw[this];simp[show i<cs.length by omega]
theorem Vg {a:Addr}{v:Value} (h:w.cell? (a.add 0)=some v):∃b o,a=⟨b,o,none⟩:=by
 obtain⟨b,o,s⟩:=a;cases s with
 |none=>exact⟨b,o,rfl⟩
 |some x =>
  exfalso
  unfold Addr.add World.cell? at h;rw[if_pos rfl] at h;split at h
  ·simp at h
  ·cases h
theorem Vh {a:Addr}:(a.add 0)=a:=by unfold Addr.add;rw[if_pos rfl]
theorem sS {b o:Nat}{v:Value} (h:w.cell? ⟨b,o,none⟩=some v):∃c T fr,w.heap[b]? = some (.cells c T fr)∧o<c.size∧c.getD o undef=v:=by
 unfold World.cell? at h;split at h
 ·rename_i c T fr hb;simp only[Option.isSome_none,Bool.false_eq_true,if_false] at h;obtain⟨h1,h2⟩:=Array.getElem?_eq_some_iff.1 h;exact⟨c,T,fr,hb,h1,by simp[h1,h2]⟩
 ·cases h
end
def fin (d:Option Nat) (K:St→Prop):Option (Bool×AV×St)→Prop
 |some (p,v,t)=>p=true∧K (t.put d v)
 |none=>False
theorem xn (d:Option Nat) (K:St→Prop) (p:Bool) (v:AV) (t:St):fin d K (some (p,v,t))=(p=true∧K (t.put d v)):=rfl
theorem xo (d:Option Nat) (K:St→Prop):fin d K none=False:=rfl
theorem xp (G:FuncId→List D→D→Prop) (d:Option Nat) (f:FuncId) (args:List Opd) (g:Option (Nat×Bool)) (K:St→Prop) (s:St):step G ⟨d,.call f args,g⟩ K s=(match bf s args with
  |some ds => ∃e,G f ds e∧K (s.put d (.p e))
  |none=>False):=rfl
theorem xq (G:FuncId→List D→D→Prop) (d:Option Nat) (T sz b:Nat) (x y:Opd) (g:Option (Nat×Bool)) (K:St→Prop) (s:St):step G ⟨d,.append T sz b x y,g⟩ K s=fin d K (d8 T sz b x y (d.getD 0) s):=rfl
theorem xr (G:FuncId→List D→D→Prop) (d:Option Nat) (o:AOp) (K:St→Prop) (s:St):bP G ⟨d,o,none⟩ K s=step G ⟨d,o,none⟩ K s:=rfl
theorem xt (G:FuncId→List D→D→Prop) (d:Option Nat) (o:AOp) (i:Nat) (b:Bool) (K:St→Prop) (s:St):bP G ⟨d,o,some (i,b)⟩ K s=(match s.r i with
  |.p (.bool c)=>if c=b then step G ⟨d,o,some (i,b)⟩ K s else K (s.put d (.p (.tup [])))
  |.p (.tup [])=>K (s.put d (.p (.tup [])))
  |_=>False):=rfl
theorem xu (r:Nat→AV) (n:Nat):Opd.ev r (.t n)=r n:=rfl
theorem xw (r:Nat→AV) (v:AV):Opd.ev r (.k v)=v:=rfl
theorem xy (k:IntKind) (n:Int):asI (.p (.int k n))=some n:=rfl
theorem qd (any:Bool) (M:Mem) (d:D):AV.toD any M 20 (.p d)=some d:=rfl
theorem xz (any:Bool) (M:Mem) (T:TypeId) (sz:Nat):AV.toD any M 20 (.nils T sz)=some (.list T sz []):=rfl
theorem xC (any:Bool) (M:Mem) (id off len:Nat):AV.toD any M 20 (.slice id off len)=(match M id with
  |some o=>match o.cont with
   |.row l=>if (o.frz||any)&&decide (off+len≤l.length) then some (.list o.T o.sz ((l.drop off).take len)) else none
   |_=>none
  |none=>none):=rfl
theorem xD (s:St):bf s []=some []:=rfl
theorem xE (s:St) (x:Opd) (l:List Opd):bf s (x::l)=(match (x.ev s.r).toD false s.m 20,bf s l with
  |some d,some ds=>some (d::ds)
  |_,_=>none):=rfl
theorem xF (G:FuncId→List D→D→Prop) (dd:Option Nat) (x:Opd) (g:Option (Nat×Bool)) (K:St→Prop) (s:St):step G ⟨dd,.mov x,g⟩ K s=fin dd K (ev (.mov x) (dd.getD 0) s):=rfl
theorem xG (x:Opd) (id:Nat) (s:St):ev (.mov x) id s=(some (true,x.ev s.r,s)):=rfl
theorem xH (G:FuncId→List D→D→Prop) (dd:Option Nat) (x:Opd) (g:Option (Nat×Bool)) (K:St→Prop) (s:St):step G ⟨dd,.nilCheck x,g⟩ K s=fin dd K (ev (.nilCheck x) (dd.getD 0) s):=rfl
theorem xI (x:Opd) (id:Nat) (s:St):ev (.nilCheck x) id s=(match x.ev s.r with
  |.ptr i j o=>some (true,.ptr i j o,s)
  |.p (.ref d)=>some (true,.p (.ref d),s)
  |_=>none):=rfl
theorem xJ (G:FuncId→List D→D→Prop) (dd:Option Nat) (c:Opd) (a:Opd) (b:Opd) (g:Option (Nat×Bool)) (K:St→Prop) (s:St):step G ⟨dd,.pick c a b,g⟩ K s=fin dd K (ev (.pick c a b) (dd.getD 0) s):=rfl
theorem xK (c:Opd) (a:Opd) (b:Opd) (id:Nat) (s:St):ev (.pick c a b) id s=(match c.ev s.r with
  |.p (.bool true)=>some (true,a.ev s.r,s)
  |.p (.bool false)=>some (true,b.ev s.r,s)
  |_=>none):=rfl
theorem xL (G:FuncId→List D→D→Prop) (dd:Option Nat) (T:Nat) (sz:Nat) (z:AV) (g:Option (Nat×Bool)) (K:St→Prop) (s:St):step G ⟨dd,.alloc T sz z,g⟩ K s=fin dd K (ev (.alloc T sz z) (dd.getD 0) s):=rfl
theorem xM (T:Nat) (sz:Nat) (z:AV) (id:Nat) (s:St):ev (.alloc T sz z) id s=(match s.m id with
  |none=>some (true,.ptr id 0 0,⟨s.r,upd s.m id (some ⟨T,sz,.box z,false⟩)⟩)
  |some _=>none):=rfl
theorem xN (G:FuncId→List D→D→Prop) (dd:Option Nat) (T:Nat) (sz:Nat) (x:Opd) (g:Option (Nat×Bool)) (K:St→Prop) (s:St):step G ⟨dd,.box T sz x,g⟩ K s=fin dd K (ev (.box T sz x) (dd.getD 0) s):=rfl
theorem xO (T:Nat) (sz:Nat) (x:Opd) (id:Nat) (s:St):ev (.box T sz x) id s=(match s.m id with
  |none=>if (x.ev s.r).cells.length=sz∧(x.ev s.r).cells.all AV.one=true then some (true,.ptr id 0 0,⟨s.r,upd s.m id (some ⟨T,sz,.box (x.ev s.r),false⟩)⟩) else none
  |some _=>none):=rfl
theorem xP (G:FuncId→List D→D→Prop) (dd:Option Nat) (z:List AV) (parts:List (Nat×Nat×Opd)) (g:Option (Nat×Bool)) (K:St→Prop) (s:St):step G ⟨dd,.build z parts,g⟩ K s=fin dd K (ev (.build z parts) (dd.getD 0) s):=rfl
theorem xQ (z:List AV) (parts:List (Nat×Nat×Opd)) (id:Nat) (s:St):ev (.build z parts) id s=(match cJ z s.r parts with
  |some l=>some (true,AV.mk l,s)
  |none=>none):=rfl
theorem xS (G:FuncId→List D→D→Prop) (dd:Option Nat) (T:Nat) (sz:Nat) (z:D) (n:Nat) (parts:List (Nat×Opd)) (g:Option (Nat×Bool)) (K:St→Prop) (s:St):step G ⟨dd,.buildSlice T sz z n parts,g⟩ K s=fin dd K (ev (.buildSlice T sz z n parts) (dd.getD 0) s):=rfl
theorem xT (T:Nat) (sz:Nat) (z:D) (n:Nat) (parts:List (Nat×Opd)) (id:Nat) (s:St):ev (.buildSlice T sz z n parts) id s=(match s.m id with
  |none=>match cX sz (List.replicate n z) s.r s.m parts with
   |some l=>some (true,.slice id 0 n,⟨s.r,upd s.m id (some ⟨T,sz,.row l,false⟩)⟩)
   |none=>none
  |some _=>none):=rfl
theorem xU (G:FuncId→List D→D→Prop) (dd:Option Nat) (ag:Bool) (sz:Nat) (x:Opd) (g:Option (Nat×Bool)) (K:St→Prop) (s:St):step G ⟨dd,.load ag sz x,g⟩ K s=fin dd K (ev (.load ag sz x) (dd.getD 0) s):=rfl
theorem xV (ag:Bool) (sz:Nat) (x:Opd) (id:Nat) (s:St):ev (.load ag sz x) id s=(match x.ev s.r with
  |.ptr i j off=>match s.m i with
   |some ⟨_,osz,.row l,_⟩=>match (AV.p (l.getD j default)).get off sz osz ag with
    |some v=>some (decide (j<l.length),v,s)
    |none=>none
   |some ⟨_,osz,.box v,_⟩=>if j=0 then match v.get off sz osz ag with
    |some u=>some (true,u,s)
    |none=>none else none
   |_=>none
  |.p (.ref d)=>if d.isAgg=ag then some (decide (d.cells.length=sz∧0<sz),.p d,s) else none
  |_=>none):=rfl
theorem xW (G:FuncId→List D→D→Prop) (dd:Option Nat) (sz:Nat) (x:Opd) (v:Opd) (g:Option (Nat×Bool)) (K:St→Prop) (s:St):step G ⟨dd,.store sz x v,g⟩ K s=fin dd K (ev (.store sz x v) (dd.getD 0) s):=rfl
theorem xX (sz:Nat) (x:Opd) (v:Opd) (id:Nat) (s:St):ev (.store sz x v) id s=(match x.ev s.r with
  |.ptr i j off=>match s.m i with
   |some ⟨T,osz,.row l,false⟩=>match (v.ev s.r).toD false s.m 20 with
    |some d=>if d.cells.length=sz∧d.cells.all D.one=true then
      (
       if off=0∧sz=osz then some (decide (j<l.length),.und,⟨s.r,upd s.m i (some ⟨T,osz,.row (l.set j d),false⟩)⟩)
       else if off+sz≤osz then some (decide (j<l.length),.und,⟨s.r,upd s.m i (some ⟨T,osz,.row (l.set j (.agg ((l.getD j default).cells.take off++d.cells++(l.getD j default).cells.drop (off+sz)))),false⟩)⟩) else none) else none
    |none=>none
   |some ⟨T,osz,.box u,false⟩=>if (v.ev s.r).cells.length=sz∧(v.ev s.r).cells.all AV.one=true∧j=0 then
     (
      if off=0∧sz=osz then some (true,.und,⟨s.r,upd s.m i (some ⟨T,osz,.box (v.ev s.r),false⟩)⟩)
      else if off+sz≤osz then some (true,.und,⟨s.r,upd s.m i (some ⟨T,osz,.box (AV.mk (u.cells.take off++(v.ev s.r).cells++u.cells.drop (off+sz))),false⟩)⟩) else none) else none
   |some ⟨T,osz,.junk,false⟩=>if (v.ev s.r).cells.length=sz∧(v.ev s.r).cells.all AV.one=true∧j=0 then
     (if off=0∧sz=osz then some (true,.und,⟨s.r,upd s.m i (some ⟨T,osz,.box (v.ev s.r),false⟩)⟩) else none) else none
   |_=>none
  |_=>none):=rfl
theorem xY (G:FuncId→List D→D→Prop) (dd:Option Nat) (bo:Bool) (op:BinOp) (x:Opd) (y:Opd) (g:Option (Nat×Bool)) (K:St→Prop) (s:St):step G ⟨dd,.bin bo op x y,g⟩ K s=fin dd K (ev (.bin bo op x y) (dd.getD 0) s):=rfl
theorem xZ (bo:Bool) (op:BinOp) (x:Opd) (y:Opd) (id:Nat) (s:St):ev (.bin bo op x y) id s=(match x.ev s.r,y.ev s.r with
  |.p a,.p b=>if a.isBool=bo then match aP op a b with
   |some (c,d)=>some (c,.p d,s)
   |none=>none else none
  |_,_=>none):=rfl
theorem x7 (G:FuncId→List D→D→Prop) (dd:Option Nat) (n:Nat) (neg:Bool) (x:Opd) (y:Opd) (g:Option (Nat×Bool)) (K:St→Prop) (s:St):step G ⟨dd,.eqs n neg x y,g⟩ K s=fin dd K (ev (.eqs n neg x y) (dd.getD 0) s):=rfl
theorem x8 (n:Nat) (neg:Bool) (x:Opd) (y:Opd) (id:Nat) (s:St):ev (.eqs n neg x y) id s=(match x.ev s.r,y.ev s.r with
  |.p (.agg a),.p (.agg b)=>match aQ a,aQ b with
   |some (k,l),some (k',m)=>if k=k'∧k.length=n then some (true,.p (.bool (if neg then !decide (l=m) else decide (l=m))),s) else none
   |_,_=>none
  |_,_=>none):=rfl
theorem x9 (G:FuncId→List D→D→Prop) (dd:Option Nat) (op:UnOp) (x:Opd) (g:Option (Nat×Bool)) (K:St→Prop) (s:St):step G ⟨dd,.un op x,g⟩ K s=fin dd K (ev (.un op x) (dd.getD 0) s):=rfl
theorem ya (op:UnOp) (x:Opd) (id:Nat) (s:St):ev (.un op x) id s=(match x.ev s.r with
  |.p a=>match unD op a with
   |some (c,d)=>some (c,.p d,s)
   |none=>none
  |_=>none):=rfl
theorem yb (G:FuncId→List D→D→Prop) (dd:Option Nat) (k:IntKind) (x:Opd) (g:Option (Nat×Bool)) (K:St→Prop) (s:St):step G ⟨dd,.conv k x,g⟩ K s=fin dd K (ev (.conv k x) (dd.getD 0) s):=rfl
theorem yc (k:IntKind) (x:Opd) (id:Nat) (s:St):ev (.conv k x) id s=(match x.ev s.r with
  |.p (.int _ n)=>some (inK k n,.p (.int k n),s)
  |_=>none):=rfl
theorem yd (G:FuncId→List D→D→Prop) (dd:Option Nat) (T:Nat) (sz:Nat) (bytes:Nat) (z:D) (l:Opd) (c:Opd) (g:Option (Nat×Bool)) (K:St→Prop) (s:St):step G ⟨dd,.makeSlice T sz bytes z l c,g⟩ K s=fin dd K (ev (.makeSlice T sz bytes z l c) (dd.getD 0) s):=rfl
theorem ye (T:Nat) (sz:Nat) (bytes:Nat) (z:D) (l:Opd) (c:Opd) (id:Nat) (s:St):ev (.makeSlice T sz bytes z l c) id s=(match s.m id with
  |none=>match asI (l.ev s.r),asI (c.ev s.r) with
   |some n,some m=>some (decide (0≤n∧n=m∧bytes*n≤281474976710656∧n≤9223372036854775807),.slice id 0 n.toNat,⟨s.r,upd s.m id (some ⟨T,sz,.row (List.replicate n.toNat z),false⟩)⟩)
   |_,_=>none
  |some _=>none):=rfl
theorem yf (G:FuncId→List D→D→Prop) (dd:Option Nat) (x:Opd) (lo:Option Opd) (hi:Option Opd) (g:Option (Nat×Bool)) (K:St→Prop) (s:St):step G ⟨dd,.sliceS x lo hi,g⟩ K s=fin dd K (ev (.sliceS x lo hi) (dd.getD 0) s):=rfl
theorem yg (x:Opd) (lo:Option Opd) (hi:Option Opd) (id:Nat) (s:St):ev (.sliceS x lo hi) id s=(match x.ev s.r with
  |.p (.str t)=>match cd s.r t.length lo hi none with
   |some (c,l,h)=>some (c,.p (.str ((t.drop l).take (h-l))),s)
   |none=>none
  |_=>none):=rfl
theorem yh (G:FuncId→List D→D→Prop) (dd:Option Nat) (sz:Nat) (x:Opd) (lo:Option Opd) (hi:Option Opd) (mx:Option Opd) (g:Option (Nat×Bool)) (K:St→Prop) (s:St):step G ⟨dd,.slice sz x lo hi mx,g⟩ K s=fin dd K (ev (.slice sz x lo hi mx) (dd.getD 0) s):=rfl
theorem yi (sz:Nat) (x:Opd) (lo:Option Opd) (hi:Option Opd) (mx:Option Opd) (id:Nat) (s:St):ev (.slice sz x lo hi mx) id s=(match x.ev s.r with
  |.p (.list T sz' t)=>if sz=sz' then match cd s.r t.length lo hi mx with
   |some (c,l,h)=>some (c,.p (.list T sz ((t.drop l).take (h-l))),s)
   |none=>none else none
  |.slice i off len=>match s.m i with
   |some o=>if o.sz=sz then match cd s.r len lo hi mx with
    |some (c,l,h)=>some (c,.slice i (off+l) (h-l),s)
    |none=>none else none
   |none=>none
  |.nils T sz=>match cd s.r 0 lo hi mx with
   |some (c,_,_)=>some (c,.nils T sz,s)
   |none=>none
  |.p (.nils T sz)=>match cd s.r 0 lo hi mx with
   |some (c,_,_)=>some (c,.nils T sz,s)
   |none=>none
  |.arr i off len=>if sz=1 then match cd s.r len lo hi mx with
   |some (c,l,h)=>some (c,.arr i (off+l) (h-l),s)
   |none=>none else none
  |_=>none):=rfl
theorem yj (G:FuncId→List D→D→Prop) (dd:Option Nat) (off:Nat) (sz:Nat) (ag:Bool) (x:Opd) (g:Option (Nat×Bool)) (K:St→Prop) (s:St):step G ⟨dd,.fieldAddr off sz ag x,g⟩ K s=fin dd K (ev (.fieldAddr off sz ag x) (dd.getD 0) s):=rfl
theorem yk (off:Nat) (sz:Nat) (ag:Bool) (x:Opd) (id:Nat) (s:St):ev (.fieldAddr off sz ag x) id s=(match x.ev s.r with
  |.ptr i j o=>some (true,.ptr i j (o+off),s)
  |.p (.ref d)=>match d.part off sz ag with
   |some e=>some (true,.p (.ref e),s)
   |none=>none
  |_=>none):=rfl
theorem yl (G:FuncId→List D→D→Prop) (dd:Option Nat) (off:Nat) (sz:Nat) (ag:Bool) (x:Opd) (g:Option (Nat×Bool)) (K:St→Prop) (s:St):step G ⟨dd,.field off sz ag x,g⟩ K s=fin dd K (ev (.field off sz ag x) (dd.getD 0) s):=rfl
theorem ym (off:Nat) (sz:Nat) (ag:Bool) (x:Opd) (id:Nat) (s:St):ev (.field off sz ag x) id s=(if (x.ev s.r).isAgg=some true then match (x.ev s.r).part off sz ag with
  |some v=>some (true,v,s)
  |none=>none else none):=rfl
theorem yn (G:FuncId→List D→D→Prop) (dd:Option Nat) (sz:Nat) (x:Opd) (i:Opd) (g:Option (Nat×Bool)) (K:St→Prop) (s:St):step G ⟨dd,.indexAddr sz x i,g⟩ K s=fin dd K (ev (.indexAddr sz x i) (dd.getD 0) s):=rfl
theorem yo (sz:Nat) (x:Opd) (i:Opd) (id:Nat) (s:St):ev (.indexAddr sz x i) id s=(match x.ev s.r,asI (i.ev s.r) with
  |.p (.list _ sz' t),some n=>if sz=sz' then some (decide (0≤n∧n<t.length),.p (.ref (t.getD n.toNat default)),s) else none
  |.slice j off len,some n=>match s.m j with
   |some o=>if o.sz=sz then some (decide (0≤n∧n<len),.ptr j (off+n.toNat) 0,s) else none
   |none=>none
  |.arr j off len,some n=>if sz=1 then some (decide (0≤n∧n<len),.ptr j 0 (off+n.toNat),s) else none
  |_,_=>none):=rfl
theorem yp (G:FuncId→List D→D→Prop) (dd:Option Nat) (x:Opd) (i:Opd) (g:Option (Nat×Bool)) (K:St→Prop) (s:St):step G ⟨dd,.index x i,g⟩ K s=fin dd K (ev (.index x i) (dd.getD 0) s):=rfl
theorem yq (x:Opd) (i:Opd) (id:Nat) (s:St):ev (.index x i) id s=(match x.ev s.r,asI (i.ev s.r) with
  |.p (.str t),some n=>some (decide (0≤n∧n<t.length),.p (.int .u8 ((t.getD n.toNat 0).toNat:Int)),s)
  |_,_=>none):=rfl
theorem yr (G:FuncId→List D→D→Prop) (dd:Option Nat) (x:Opd) (i:Nat) (g:Option (Nat×Bool)) (K:St→Prop) (s:St):step G ⟨dd,.extract x i,g⟩ K s=fin dd K (ev (.extract x i) (dd.getD 0) s):=rfl
theorem yt (x:Opd) (i:Nat) (id:Nat) (s:St):ev (.extract x i) id s=(match x.ev s.r with
  |.p (.tup l)=>(l[i]?).map fun d=>(true,.p d,s)
  |.tup l=>(l[i]?).map fun d=>(true,d,s)
  |_=>none):=rfl
theorem yu (G:FuncId→List D→D→Prop) (dd:Option Nat) (mx:Bool) (x y:Opd) (g:Option (Nat×Bool)) (K:St→Prop) (s:St):step G ⟨dd,.mm mx x y,g⟩ K s=fin dd K (ev (.mm mx x y) (dd.getD 0) s):=rfl
theorem yv (mx:Bool) (x y:Opd) (id:Nat) (s:St):ev (.mm mx x y) id s=(match x.ev s.r,y.ev s.r with
  |.p (.int k p),.p (.int k' q)=>if k=k' then some (true,.p (.int k (if mx then (if q > p then q else p) else (if q<p then q else p))),s) else none
  |_,_=>none):=rfl
theorem yw (G:FuncId→List D→D→Prop) (dd:Option Nat) (x:Opd) (g:Option (Nat×Bool)) (K:St→Prop) (s:St):step G ⟨dd,.lenS x,g⟩ K s=fin dd K (ev (.lenS x) (dd.getD 0) s):=rfl
theorem yx (x:Opd) (id:Nat) (s:St):ev (.lenS x) id s=(match x.ev s.r with
  |.p (.str t)=>some (true,.p (.int .i64 t.length),s)
  |_=>none):=rfl
theorem yz (G:FuncId→List D→D→Prop) (dd:Option Nat) (x:Opd) (g:Option (Nat×Bool)) (K:St→Prop) (s:St):step G ⟨dd,.len x,g⟩ K s=fin dd K (ev (.len x) (dd.getD 0) s):=rfl
theorem yA (x:Opd) (id:Nat) (s:St):ev (.len x) id s=(match x.ev s.r with
  |.p (.nils _ _)=>some (true,.p (.int .i64 (0:Nat)),s)
  |.p (.list _ _ t)=>some (true,.p (.int .i64 t.length),s)
  |.slice _ _ n=>some (true,.p (.int .i64 n),s)
  |.nils _ _=>some (true,.p (.int .i64 0),s)
  |.arr _ _ n=>some (true,.p (.int .i64 n),s)
  |_=>none):=rfl
def cs0:=an @pD (an @xn (an @xo (an @xp (an @xq (an @xr (an @xt (an @xu (an @xw (an @xy (an @qd (an @xz (an @xC (an @xD (an @xE (an @xF (an @xG (an @xH (an @xI (an @xJ (an @xK (an @xL (an @xM (an @xN (an @xO (an @xP (an @xQ (an @xS (an @xT (@xU)))))))))))))))))))))))))))))
def cs1:=an @xV (an @xW (an @xX (an @xY (an @xZ (an @x7 (an @x8 (an @x9 (an @ya (an @yb (an @yc (an @yd (an @ye (an @yf (an @yg (an @yh (an @yi (an @yj (an @yk (an @yl (an @ym (an @yn (an @yo (an @yp (an @yq (an @yr (an @yt (an @yu (an @yv (an @yw (an @yx (@yz)))))))))))))))))))))))))))))))
def cs2:=an @yA (an @List.all_nil.{0} (an @true_and (an @i6 (an @jV (an @vH (an @vI (an @vJ (an @vK (an @zbs (an @vL (an @dv (an @eS (an @fN (an @l7 (an @Option.getD_some.{0} (an @eq_self.{1} (an @decide_true (an @decide_false (an @Bool.not_true (an @Bool.not_false (an @Bool.false_eq_true (an @Bool.true_eq_false (an @zbt (an @zbu (an @zbv (an @zbw (an @zbx (an @zby (@zbz)))))))))))))))))))))))))))))
def cs3:=an @zbA (an @zbB (an @zbC (an @zbD (an @zbE (an @zbF (an @zbG (an @zbH (an @zbI (an @zbJ (an @zbK (an @zbL (an @zbM (an @zbN (an @zbO (an @zbP (an @zbQ (an @zbR (an @zbS (an @zbT (an @zbU (an @zbV (an @zbW (an @zbX (an @zbY (an @zbZ (an @zb0 (an @zb1 (an @zb2 (@zb3)))))))))))))))))))))))))))))
def cs4:=an @zb4 (an @zb5 (an @decide_eq_true_eq (an @Bool.and_eq_true (an @and_true (an @List.length_map.{0,0} (an @List.map_cons.{0,0} (an @List.map_nil.{0,0} (an @zb7 (an @zb8 (an @zb9 (an @zca (an @zcb (an @zcc (an @zcf (an @Int.add_sub_cancel (an @Int.toNat_natCast (an @List.length_set.{0} (an @List.length_replicate.{0} (an @true_implies (an @false_implies (an @List.length_cons.{0} (an @List.length_nil.{0} (an @Nat.zero_add (an @Nat.lt_add_one (an @ne_eq.{1} (an @not_true_eq_false (an @not_false_eq_true (an @Nat.add_zero (@Nat.sub_zero)))))))))))))))))))))))))))))
def cs5:=an @List.drop_zero.{0} (an @List.take_length.{0} (an @Int.toNat_zero (an @zce (an @zcd (an @List.all_cons.{0} (an @List.append_nil.{0} (an @List.nil_append.{0} (an @List.cons_append.{0} (an @List.take_zero.{0} (an @List.take_nil.{0} (an @List.take_succ_cons.{0} (an @List.drop_succ_cons.{0} (an @List.drop_nil.{0} (an @Bool.and_self (an @and_self (an @List.getElem?_cons_zero.{0} (an @List.getElem?_cons_succ.{0} (an @Option.map_some.{0,0} (an @Nat.le_refl (an @Option.some.injEq.{0} (an @Bool.and_true (an @Bool.true_and (an @if_true.{1} (an @if_false.{1} (@Option.map_none.{0,0})))))))))))))))))))))))))
end Go.Proofs.YtbnhgnhgbhjkcaaGreat.M
