/- Lemmas. -/
import Derived.Test.YtdchbabgopglcaaC18
import Derived.SizedLaws
import Derived.ChangeArms
import Derived.OpenShut
set_option linter.defProp false
set_option linter.unusedVariables false
namespace Go.Proofs.Ytdchbabgopglcaa.M
open Go.RowKit
def fin (d:Option Nat) (K:St→Prop):Option (Bool×AV×St)→Prop
 |some (p,v,t)=>p=true∧K (t.put d v)
 |none=>False
theorem RX (d:Option Nat) (K:St→Prop) (p:Bool) (v:AV) (t:St):fin d K (some (p,v,t))=(p=true∧K (t.put d v)):=rfl
theorem RY (d:Option Nat) (K:St→Prop):fin d K none=False:=rfl
theorem RZ (G:FuncId→List D→D→Prop) (d:Option Nat) (f:FuncId) (args:List Opd) (g:Option (Nat×Bool)) (K:St→Prop) (s:St):au G ⟨d,.call f args,g⟩ K s=(match aV s args with
  |some ds => ∃e,G f ds e∧K (s.put d (.p e))
  |none=>False):=rfl
theorem R0 (G:FuncId→List D→D→Prop) (d:Option Nat) (T sz b:Nat) (x y:Opd) (g:Option (Nat×Bool)) (K:St→Prop) (s:St):au G ⟨d,.append T sz b x y,g⟩ K s=fin d K (dk T sz b x y (d.getD 0) s):=rfl
theorem R1 (G:FuncId→List D→D→Prop) (d:Option Nat) (o:AOp) (K:St→Prop) (s:St):bF G ⟨d,o,none⟩ K s=au G ⟨d,o,none⟩ K s:=rfl
theorem R2 (G:FuncId→List D→D→Prop) (d:Option Nat) (o:AOp) (i:Nat) (b:Bool) (K:St→Prop) (s:St):bF G ⟨d,o,some (i,b)⟩ K s=(match s.r i with
  |.p (.bool c)=>if c=b then au G ⟨d,o,some (i,b)⟩ K s else K (s.put d (.p (.tup [])))
  |.p (.tup [])=>K (s.put d (.p (.tup [])))
  |_=>False):=rfl
theorem R3 (r:Nat→AV) (n:Nat):Opd.ev r (.t n)=r n:=rfl
theorem R4 (r:Nat→AV) (v:AV):Opd.ev r (.k v)=v:=rfl
theorem R5 (k:IntKind) (n:Int):asI (.p (.int k n))=some n:=rfl
theorem rm (any:Bool) (M:Mem) (d:D):AV.toD any M 20 (.p d)=some d:=rfl
theorem R6 (any:Bool) (M:Mem) (T:TypeId) (sz:Nat):AV.toD any M 20 (.nils T sz)=some (.list T sz []):=rfl
theorem R7 (any:Bool) (M:Mem) (id off len:Nat):AV.toD any M 20 (.slice id off len)=(match M id with
  |some o=>match o.cont with
   |.row l=>if (o.frz||any)&&decide (off+len≤l.length) then some (.list o.T o.sz ((l.drop off).take len)) else none
   |_=>none
  |none=>none):=rfl
theorem R8 (s:St):aV s []=some []:=rfl
theorem R9 (s:St) (x:Opd) (l:List Opd):aV s (x::l)=(match (x.ev s.r).toD false s.m 20,aV s l with
  |some d,some ds=>some (d::ds)
  |_,_=>none):=rfl
theorem Sa (G:FuncId→List D→D→Prop) (dd:Option Nat) (x:Opd) (g:Option (Nat×Bool)) (K:St→Prop) (s:St):au G ⟨dd,.mov x,g⟩ K s=fin dd K (ev (.mov x) (dd.getD 0) s):=rfl
theorem Sb (x:Opd) (id:Nat) (s:St):ev (.mov x) id s=(some (true,x.ev s.r,s)):=rfl
theorem Sc (G:FuncId→List D→D→Prop) (dd:Option Nat) (x:Opd) (g:Option (Nat×Bool)) (K:St→Prop) (s:St):au G ⟨dd,.nilCheck x,g⟩ K s=fin dd K (ev (.nilCheck x) (dd.getD 0) s):=rfl
theorem Sd (x:Opd) (id:Nat) (s:St):ev (.nilCheck x) id s=(match x.ev s.r with
  |.ptr i j o=>some (true,.ptr i j o,s)
  |.p (.ref d)=>some (true,.p (.ref d),s)
  |_=>none):=rfl
theorem Se (G:FuncId→List D→D→Prop) (dd:Option Nat) (c:Opd) (a:Opd) (b:Opd) (g:Option (Nat×Bool)) (K:St→Prop) (s:St):au G ⟨dd,.pick c a b,g⟩ K s=fin dd K (ev (.pick c a b) (dd.getD 0) s):=rfl
theorem Sf (c:Opd) (a:Opd) (b:Opd) (id:Nat) (s:St):ev (.pick c a b) id s=(match c.ev s.r with
  |.p (.bool true)=>some (true,a.ev s.r,s)
  |.p (.bool false)=>some (true,b.ev s.r,s)
  |_=>none):=rfl
theorem Sg (G:FuncId→List D→D→Prop) (dd:Option Nat) (T:Nat) (sz:Nat) (z:AV) (g:Option (Nat×Bool)) (K:St→Prop) (s:St):au G ⟨dd,.alloc T sz z,g⟩ K s=fin dd K (ev (.alloc T sz z) (dd.getD 0) s):=rfl
theorem Sh (T:Nat) (sz:Nat) (z:AV) (id:Nat) (s:St):ev (.alloc T sz z) id s=(match s.m id with
  |none=>some (true,.ptr id 0 0,⟨s.r,upd s.m id (some ⟨T,sz,.box z,false⟩)⟩)
  |some _=>none):=rfl
theorem Si (G:FuncId→List D→D→Prop) (dd:Option Nat) (T:Nat) (sz:Nat) (x:Opd) (g:Option (Nat×Bool)) (K:St→Prop) (s:St):au G ⟨dd,.box T sz x,g⟩ K s=fin dd K (ev (.box T sz x) (dd.getD 0) s):=rfl
theorem Sj (T:Nat) (sz:Nat) (x:Opd) (id:Nat) (s:St):ev (.box T sz x) id s=(match s.m id with
  |none=>if (x.ev s.r).cells.length=sz∧(x.ev s.r).cells.all AV.one=true then some (true,.ptr id 0 0,⟨s.r,upd s.m id (some ⟨T,sz,.box (x.ev s.r),false⟩)⟩) else none
  |some _=>none):=rfl
theorem Sk (G:FuncId→List D→D→Prop) (dd:Option Nat) (z:List AV) (parts:List (Nat×Nat×Opd)) (g:Option (Nat×Bool)) (K:St→Prop) (s:St):au G ⟨dd,.build z parts,g⟩ K s=fin dd K (ev (.build z parts) (dd.getD 0) s):=rfl
theorem Sn (z:List AV) (parts:List (Nat×Nat×Opd)) (id:Nat) (s:St):ev (.build z parts) id s=(match cZ z s.r parts with
  |some l=>some (true,AV.mk l,s)
  |none=>none):=rfl
theorem So (G:FuncId→List D→D→Prop) (dd:Option Nat) (T:Nat) (sz:Nat) (z:D) (n:Nat) (parts:List (Nat×Opd)) (g:Option (Nat×Bool)) (K:St→Prop) (s:St):au G ⟨dd,.buildSlice T sz z n parts,g⟩ K s=fin dd K (ev (.buildSlice T sz z n parts) (dd.getD 0) s):=rfl
theorem Sp (T:Nat) (sz:Nat) (z:D) (n:Nat) (parts:List (Nat×Opd)) (id:Nat) (s:St):ev (.buildSlice T sz z n parts) id s=(match s.m id with
  |none=>match cD sz (List.replicate n z) s.r s.m parts with
   |some l=>some (true,.slice id 0 n,⟨s.r,upd s.m id (some ⟨T,sz,.row l,false⟩)⟩)
   |none=>none
  |some _=>none):=rfl
theorem Sq (G:FuncId→List D→D→Prop) (dd:Option Nat) (ag:Bool) (sz:Nat) (x:Opd) (g:Option (Nat×Bool)) (K:St→Prop) (s:St):au G ⟨dd,.load ag sz x,g⟩ K s=fin dd K (ev (.load ag sz x) (dd.getD 0) s):=rfl
theorem Sr (ag:Bool) (sz:Nat) (x:Opd) (id:Nat) (s:St):ev (.load ag sz x) id s=(match x.ev s.r with
  |.ptr i j off=>match s.m i with
   |some ⟨_,osz,.row l,_⟩=>match (AV.p (l.getD j default)).get off sz osz ag with
    |some v=>some (decide (j<l.length),v,s)
    |none=>none
   |some ⟨_,osz,.box v,_⟩=>if j=0 then match v.get off sz osz ag with
    |some u=>some (true,u,s)
    |none=>none else none
   |_=>none
  |.p (.ref d)=>if d.isAgg=ag then some (decide (d.cells.length=sz∧0<sz),.p d,s) else none
  |_=>none):=rfl
theorem Ss (G:FuncId→List D→D→Prop) (dd:Option Nat) (sz:Nat) (x:Opd) (v:Opd) (g:Option (Nat×Bool)) (K:St→Prop) (s:St):au G ⟨dd,.store sz x v,g⟩ K s=fin dd K (ev (.store sz x v) (dd.getD 0) s):=rfl
theorem Su (sz:Nat) (x:Opd) (v:Opd) (id:Nat) (s:St):ev (.store sz x v) id s=(match x.ev s.r with
  |.ptr i j off=>match s.m i with
   |some ⟨T,osz,.row l,false⟩=>match (v.ev s.r).toD false s.m 20 with
    |some d=>if d.cells.length=sz∧d.cells.all D.one=true then
      (
       if off=0∧sz=osz then some (decide (j<l.length),.und,⟨s.r,upd s.m i (some ⟨T,osz,.row (l.set j d),false⟩)⟩)
       else if off+sz≤osz then some (decide (j<l.length),.und,⟨s.r,upd s.m i (some ⟨T,osz,.row (l.set j (.agg ((l.getD j default).cells.take off++d.cells++(l.getD j default).cells.drop (off+sz)))),false⟩)⟩) else none) else none
    |none=>none
   |some ⟨T,osz,.box u,false⟩=>if (v.ev s.r).cells.length=sz∧(v.ev s.r).cells.all AV.one=true∧j=0 then
     (
      if off=0∧sz=osz then some (true,.und,⟨s.r,upd s.m i (some ⟨T,osz,.box (v.ev s.r),false⟩)⟩)
      else if off+sz≤osz then some (true,.und,⟨s.r,upd s.m i (some ⟨T,osz,.box (AV.mkS (v.ev s.r) (u.cells.take off++(v.ev s.r).cells++u.cells.drop (off+sz))),false⟩)⟩) else none) else none
   |some ⟨T,osz,.junk,false⟩=>if (v.ev s.r).cells.length=sz∧(v.ev s.r).cells.all AV.one=true∧j=0 then
     (if off=0∧sz=osz then some (true,.und,⟨s.r,upd s.m i (some ⟨T,osz,.box (v.ev s.r),false⟩)⟩) else none) else none
   |_=>none
  |_=>none):=rfl
theorem Sv (G:FuncId→List D→D→Prop) (dd:Option Nat) (bo:Bool) (op:BinOp) (x:Opd) (y:Opd) (g:Option (Nat×Bool)) (K:St→Prop) (s:St):au G ⟨dd,.bin bo op x y,g⟩ K s=fin dd K (ev (.bin bo op x y) (dd.getD 0) s):=rfl
theorem Sw (bo:Bool) (op:BinOp) (x:Opd) (y:Opd) (id:Nat) (s:St):ev (.bin bo op x y) id s=(match x.ev s.r,y.ev s.r with
  |.p a,.p b=>if a.isBool=bo then match aL op a b with
   |some (c,d)=>some (c,.p d,s)
   |none=>none else none
  |_,_=>none):=rfl
theorem Sx (G:FuncId→List D→D→Prop) (dd:Option Nat) (n:Nat) (neg:Bool) (x:Opd) (y:Opd) (g:Option (Nat×Bool)) (K:St→Prop) (s:St):au G ⟨dd,.eqs n neg x y,g⟩ K s=fin dd K (ev (.eqs n neg x y) (dd.getD 0) s):=rfl
theorem Sy (n:Nat) (neg:Bool) (x:Opd) (y:Opd) (id:Nat) (s:St):ev (.eqs n neg x y) id s=(match x.ev s.r,y.ev s.r with
  |.p (.agg a),.p (.agg b)=>match dW a,dW b with
   |some (k,l),some (k',m)=>if k=k'∧k.length=n then some (true,.p (.bool (if neg then !decide (l=m) else decide (l=m))),s) else none
   |_,_=>none
  |_,_=>none):=rfl
theorem SA (G:FuncId→List D→D→Prop) (dd:Option Nat) (op:UnOp) (x:Opd) (g:Option (Nat×Bool)) (K:St→Prop) (s:St):au G ⟨dd,.un op x,g⟩ K s=fin dd K (ev (.un op x) (dd.getD 0) s):=rfl
theorem SB (op:UnOp) (x:Opd) (id:Nat) (s:St):ev (.un op x) id s=(match x.ev s.r with
  |.p a=>match unD op a with
   |some (c,d)=>some (c,.p d,s)
   |none=>none
  |_=>none):=rfl
theorem SC (G:FuncId→List D→D→Prop) (dd:Option Nat) (k:IntKind) (x:Opd) (g:Option (Nat×Bool)) (K:St→Prop) (s:St):au G ⟨dd,.conv k x,g⟩ K s=fin dd K (ev (.conv k x) (dd.getD 0) s):=rfl
theorem SD (k:IntKind) (x:Opd) (id:Nat) (s:St):ev (.conv k x) id s=(match x.ev s.r with
  |.p (.int _ n)=>some (inK k n,.p (.int k n),s)
  |_=>none):=rfl
theorem SE (G:FuncId→List D→D→Prop) (dd:Option Nat) (T:Nat) (sz:Nat) (bytes:Nat) (z:D) (l:Opd) (c:Opd) (g:Option (Nat×Bool)) (K:St→Prop) (s:St):au G ⟨dd,.makeSlice T sz bytes z l c,g⟩ K s=fin dd K (ev (.makeSlice T sz bytes z l c) (dd.getD 0) s):=rfl
theorem SF (T:Nat) (sz:Nat) (bytes:Nat) (z:D) (l:Opd) (c:Opd) (id:Nat) (s:St):ev (.makeSlice T sz bytes z l c) id s=(match s.m id with
  |none=>match asI (l.ev s.r),asI (c.ev s.r) with
   |some n,some m=>some (decide (0≤n∧n=m∧bytes*n≤281474976710656∧n≤9223372036854775807),.slice id 0 n.toNat,⟨s.r,upd s.m id (some ⟨T,sz,.row (List.replicate n.toNat z),false⟩)⟩)
   |_,_=>none
  |some _=>none):=rfl
theorem SG (G:FuncId→List D→D→Prop) (dd:Option Nat) (x:Opd) (lo:Option Opd) (hi:Option Opd) (g:Option (Nat×Bool)) (K:St→Prop) (s:St):au G ⟨dd,.sliceS x lo hi,g⟩ K s=fin dd K (ev (.sliceS x lo hi) (dd.getD 0) s):=rfl
theorem SH (x:Opd) (lo:Option Opd) (hi:Option Opd) (id:Nat) (s:St):ev (.sliceS x lo hi) id s=(match x.ev s.r with
  |.p (.str t)=>match bL s.r t.length lo hi none with
   |some (c,l,h)=>some (c,.p (.str ((t.drop l).take (h-l))),s)
   |none=>none
  |_=>none):=rfl
theorem SI (G:FuncId→List D→D→Prop) (dd:Option Nat) (sz:Nat) (x:Opd) (lo:Option Opd) (hi:Option Opd) (mx:Option Opd) (g:Option (Nat×Bool)) (K:St→Prop) (s:St):au G ⟨dd,.slice sz x lo hi mx,g⟩ K s=fin dd K (ev (.slice sz x lo hi mx) (dd.getD 0) s):=rfl
theorem SJ (sz:Nat) (x:Opd) (lo:Option Opd) (hi:Option Opd) (mx:Option Opd) (id:Nat) (s:St):ev (.slice sz x lo hi mx) id s=(match x.ev s.r with
  |.p (.list T sz' t)=>if sz=sz' then match bL s.r t.length lo hi mx with
   |some (c,l,h)=>some (c,.p (.list T sz ((t.drop l).take (h-l))),s)
   |none=>none else none
  |.slice i off len=>match s.m i with
   |some o=>if o.sz=sz then match bL s.r len lo hi mx with
    |some (c,l,h)=>some (c,.slice i (off+l) (h-l),s)
    |none=>none else none
   |none=>none
  |.nils T sz=>match bL s.r 0 lo hi mx with
   |some (c,_,_)=>some (c,.nils T sz,s)
   |none=>none
  |.p (.nils T sz)=>match bL s.r 0 lo hi mx with
   |some (c,_,_)=>some (c,.nils T sz,s)
   |none=>none
  |.arr i off len=>if sz=1 then match bL s.r len lo hi mx with
   |some (c,l,h)=>some (c,.arr i (off+l) (h-l),s)
   |none=>none else none
  |_=>none):=rfl
theorem SK (G:FuncId→List D→D→Prop) (dd:Option Nat) (off:Nat) (sz:Nat) (ag:Bool) (x:Opd) (g:Option (Nat×Bool)) (K:St→Prop) (s:St):au G ⟨dd,.fieldAddr off sz ag x,g⟩ K s=fin dd K (ev (.fieldAddr off sz ag x) (dd.getD 0) s):=rfl
theorem SL (off:Nat) (sz:Nat) (ag:Bool) (x:Opd) (id:Nat) (s:St):ev (.fieldAddr off sz ag x) id s=(match x.ev s.r with
  |.ptr i j o=>some (true,.ptr i j (o+off),s)
  |.p (.ref d)=>match d.part off sz ag with
   |some e=>some (true,.p (.ref e),s)
   |none=>none
  |_=>none):=rfl
theorem SM (G:FuncId→List D→D→Prop) (dd:Option Nat) (off:Nat) (sz:Nat) (ag:Bool) (x:Opd) (g:Option (Nat×Bool)) (K:St→Prop) (s:St):au G ⟨dd,.field off sz ag x,g⟩ K s=fin dd K (ev (.field off sz ag x) (dd.getD 0) s):=rfl
theorem SN (off:Nat) (sz:Nat) (ag:Bool) (x:Opd) (id:Nat) (s:St):ev (.field off sz ag x) id s=(if (x.ev s.r).isAgg=some true then match (x.ev s.r).part off sz ag with
  |some v=>some (true,v,s)
  |none=>none else none):=rfl
theorem SO (G:FuncId→List D→D→Prop) (dd:Option Nat) (sz:Nat) (x:Opd) (i:Opd) (g:Option (Nat×Bool)) (K:St→Prop) (s:St):au G ⟨dd,.indexAddr sz x i,g⟩ K s=fin dd K (ev (.indexAddr sz x i) (dd.getD 0) s):=rfl
theorem SP (sz:Nat) (x:Opd) (i:Opd) (id:Nat) (s:St):ev (.indexAddr sz x i) id s=(match x.ev s.r,asI (i.ev s.r) with
  |.p (.list _ sz' t),some n=>if sz=sz' then some (decide (0≤n∧n<t.length),.p (.ref (t.getD n.toNat default)),s) else none
  |.slice j off len,some n=>match s.m j with
   |some o=>if o.sz=sz then some (decide (0≤n∧n<len),.ptr j (off+n.toNat) 0,s) else none
   |none=>none
  |.arr j off len,some n=>if sz=1 then some (decide (0≤n∧n<len),.ptr j 0 (off+n.toNat),s) else none
  |_,_=>none):=rfl
theorem SQ (G:FuncId→List D→D→Prop) (dd:Option Nat) (x:Opd) (i:Opd) (g:Option (Nat×Bool)) (K:St→Prop) (s:St):au G ⟨dd,.index x i,g⟩ K s=fin dd K (ev (.index x i) (dd.getD 0) s):=rfl
theorem SR (x:Opd) (i:Opd) (id:Nat) (s:St):ev (.index x i) id s=(match x.ev s.r,asI (i.ev s.r) with
  |.p (.str t),some n=>some (decide (0≤n∧n<t.length),.p (.int .u8 ((t.getD n.toNat 0).toNat:Int)),s)
  |_,_=>none):=rfl
theorem SS (G:FuncId→List D→D→Prop) (dd:Option Nat) (x:Opd) (i:Nat) (g:Option (Nat×Bool)) (K:St→Prop) (s:St):au G ⟨dd,.extract x i,g⟩ K s=fin dd K (ev (.extract x i) (dd.getD 0) s):=rfl
theorem ST (x:Opd) (i:Nat) (id:Nat) (s:St):ev (.extract x i) id s=(match x.ev s.r with
  |.p (.tup l)=>(l[i]?).map fun d=>(true,.p d,s)
  |.tup l=>(l[i]?).map fun d=>(true,d,s)
  |_=>none):=rfl
theorem SU (G:FuncId→List D→D→Prop) (dd:Option Nat) (mx:Bool) (x y:Opd) (g:Option (Nat×Bool)) (K:St→Prop) (s:St):au G ⟨dd,.mm mx x y,g⟩ K s=fin dd K (ev (.mm mx x y) (dd.getD 0) s):=rfl
theorem SW (mx:Bool) (x y:Opd) (id:Nat) (s:St):ev (.mm mx x y) id s=(match x.ev s.r,y.ev s.r with
  |.p (.int k p),.p (.int k' q)=>if k=k' then some (true,.p (.int k (if mx then (if q > p then q else p) else (if q<p then q else p))),s) else none
  |_,_=>none):=rfl
theorem SX (G:FuncId→List D→D→Prop) (dd:Option Nat) (x:Opd) (g:Option (Nat×Bool)) (K:St→Prop) (s:St):au G ⟨dd,.lenS x,g⟩ K s=fin dd K (ev (.lenS x) (dd.getD 0) s):=rfl
theorem SY (x:Opd) (id:Nat) (s:St):ev (.lenS x) id s=(match x.ev s.r with
  |.p (.str t)=>some (true,.p (.int .i64 t.length),s)
  |_=>none):=rfl
theorem SZ (G:FuncId→List D→D→Prop) (dd:Option Nat) (x:Opd) (g:Option (Nat×Bool)) (K:St→Prop) (s:St):au G ⟨dd,.len x,g⟩ K s=fin dd K (ev (.len x) (dd.getD 0) s):=rfl
theorem S0 (x:Opd) (id:Nat) (s:St):ev (.len x) id s=(match x.ev s.r with
  |.p (.nils _ _)=>some (true,.p (.int .i64 (0:Nat)),s)
  |.p (.list _ _ t)=>some (true,.p (.int .i64 t.length),s)
  |.slice _ _ n=>some (true,.p (.int .i64 n),s)
  |.nils _ _=>some (true,.p (.int .i64 0),s)
  |.arr _ _ n=>some (true,.p (.int .i64 n),s)
  |_=>none):=rfl
def cs0:=an @kB (an @RX (an @RY (an @RZ (an @R0 (an @R1 (an @R2 (an @R3 (an @R4 (an @R5 (an @rm (an @R6 (an @R7 (an @R8 (an @R9 (an @Sa (an @Sb (an @Sc (an @Sd (an @Se (an @Sf (an @Sg (an @Sh (an @Si (an @Sj (an @Sk (an @Sn (an @So (an @Sp (@Sq)))))))))))))))))))))))))))))
def cs1:=an @Sr (an @Ss (an @Su (an @Sv (an @Sw (an @Sx (an @Sy (an @SA (an @SB (an @SC (an @SD (an @SE (an @SF (an @SG (an @SH (an @SI (an @SJ (an @SK (an @SL (an @SM (an @SN (an @SO (an @SP (an @SQ (an @SR (an @SS (an @ST (an @SU (an @SW (an @SX (an @SY (@SZ)))))))))))))))))))))))))))))))
def cs2:=an @S0 (an @List.all_nil.{0} (an @true_and (an @jc (an @eM (an @mU (an @mV (an @mW (an @mX (an @rL (an @mY (an @dw (an @fF (an @en (an @jb (an @Option.getD_some.{0} (an @eq_self.{1} (an @decide_true (an @decide_false (an @Bool.not_true (an @Bool.not_false (an @Bool.false_eq_true (an @Bool.true_eq_false (an @rM (an @rN (an @rO (an @rP (an @rQ (an @rR (@rS)))))))))))))))))))))))))))))
def cs3:=an @rT (an @rU (an @rV (an @rW (an @rX (an @rY (an @rZ (an @r4 (an @r5 (an @r6 (an @r7 (an @r8 (an @r9 (an @sd (an @se (an @sf (an @si (an @sj (an @sk (an @sq (an @ss (an @su (an @sw (an @sy (an @sA (an @sB (an @sC (an @sD (an @sE (@sF)))))))))))))))))))))))))))))
def cs4:=an @sG (an @sH (an @decide_eq_true_eq (an @Bool.and_eq_true (an @and_true (an @List.length_map.{0,0} (an @List.map_cons.{0,0} (an @List.map_nil.{0,0} (an @sI (an @sJ (an @sK (an @sL (an @sM (an @sN (an @sQ (an @Int.add_sub_cancel (an @Int.toNat_natCast (an @List.length_set.{0} (an @List.length_replicate.{0} (an @true_implies (an @false_implies (an @List.length_cons.{0} (an @List.length_nil.{0} (an @Nat.zero_add (an @Nat.lt_add_one (an @ne_eq.{1} (an @not_true_eq_false (an @not_false_eq_true (an @Nat.add_zero (@Nat.sub_zero)))))))))))))))))))))))))))))
def cs5:=an @List.drop_zero.{0} (an @List.take_length.{0} (an @Int.toNat_zero (an @sP (an @sO (an @List.all_cons.{0} (an @List.append_nil.{0} (an @List.nil_append.{0} (an @List.cons_append.{0} (an @List.take_zero.{0} (an @List.take_nil.{0} (an @List.take_succ_cons.{0} (an @List.drop_succ_cons.{0} (an @List.drop_nil.{0} (an @Bool.and_self (an @and_self (an @List.getElem?_cons_zero.{0} (an @List.getElem?_cons_succ.{0} (an @Option.map_some.{0,0} (an @Nat.le_refl (an @Option.some.injEq.{0} (an @Bool.and_true (an @Bool.true_and (an @if_true.{1} (an @if_false.{1} (@Option.map_none.{0,0})))))))))))))))))))))))))
inductive TyW (P:Program):TypeId→List D→Prop where
 |bool (t:TypeId) (b:Bool):P.underlying t=some .bool→TyW P t [.bool b]
 |int (t:TypeId) (k:IntKind) (n:Int):P.underlying t=some (.int k)→(Lit.int k n).wf=true→TyW P t [.int k n]
 |str (t:TypeId) (s:List UInt8):P.underlying t=some .string→s.length≤reachBytes→TyW P t [.str s]
 |slice (t e:TypeId) (l:List D):P.underlying t=some (.slice e)→l.length*P.bytesOf e≤reachBytes→(∀d∈l,TyW P e d.cells)→(∀d∈l,d.cells.length=P.cellsOf e∧(∀q∈d.cells,q.one=true)∧d.isAgg=a7 P e)→TyW P t [.list (e+1000000) (P.cellsOf e) l]
 |struct (t:TypeId) (fs:Array Field) (l:List D):P.underlying t=some (.struct fs)→l.length=P.cellsOf t→(∀f∈fs.toList,TyW P f.type ((l.drop f.offset).take (P.cellsOf f.type)))→TyW P t l
section
variable {H:Type}{enc:TypeId×Value→H}{P:Program}{w:World}{spare:Nat→Bool}{held:Bool}{N:Nat→Prop}
theorem pQ {H:Type}{P:Program}{e:TypeId}:∀{ds:List (DataW H)}{d:DataW H},d∈ds→∀n∈d.weights P e,n∈DataW.weightsAll P e ds
 |d0::ds,d,hd,n,hn=>by
  simp only[DataW.weightsAll,List.mem_append];rcases List.mem_cons.1 hd with rfl | hd
  ·exact .inl hn
  ·exact .inr (pQ hd n hn)
theorem pR {t e:TypeId}{δ:D} (hu:P.underlying t=some (.slice e)) (h:TyW P t δ.cells) (hg:δ.isAgg=a7 P t):∃l:List D,δ = .list (e+1000000) (P.cellsOf e) l∧l.length*P.bytesOf e≤reachBytes∧(∀d∈l,TyW P e d.cells)∧(∀d∈l,d.cells.length=P.cellsOf e∧(∀q∈d.cells,q.one=true)∧d.isAgg=a7 P e):=by
 have hs:a7 P t=false:=by simp[a7,hu]
 rw[hs] at hg;have hcc:δ.cells=[δ]:=by cases δ<;>first | rfl | (simp[D.isAgg] at hg)
 rw[hcc] at h;generalize he:[δ]=m at h;cases h with
 |slice t e' l hu' h1 h2 h3 =>
  rw[hu] at hu';cases hu';injection he with he
  exact⟨l,he,h1,h2,h3⟩
 |bool t b hu'=>rw[hu] at hu';cases hu'
 |int t k n hu'=>rw[hu] at hu';cases hu'
 |str t s hu'=>rw[hu] at hu';cases hu'
 |struct t fs l hu'=>rw[hu] at hu';cases hu'
theorem Nm {t:TypeId}{δ:D} (hu:P.underlying t=some .string) (h:TyW P t δ.cells) (hg:δ.isAgg=a7 P t):∃s:List UInt8,δ = .str s∧s.length≤reachBytes:=by
 have hs:a7 P t=false:=by simp[a7,hu]
 rw[hs] at hg;have hcc:δ.cells=[δ]:=by cases δ<;>first | rfl | (simp[D.isAgg] at hg)
 rw[hcc] at h;generalize he:[δ]=m at h;cases h with
 |str t s hu' h1=>injection he with he;exact⟨s,he,h1⟩
 |bool t b hu'=>rw[hu] at hu';cases hu'
 |int t k n hu'=>rw[hu] at hu';cases hu'
 |slice t e l hu'=>rw[hu] at hu';cases hu'
 |struct t fs l hu'=>rw[hu] at hu';cases hu'
theorem pS {t:TypeId}{k:IntKind}{δ:D} (hu:P.underlying t=some (.int k)) (h:TyW P t δ.cells) (hg:δ.isAgg=a7 P t):∃n:Int,δ = .int k n∧(Lit.int k n).wf=true:=by
 have hs:a7 P t=false:=by simp[a7,hu]
 rw[hs] at hg;have hcc:δ.cells=[δ]:=by cases δ<;>first | rfl | (simp[D.isAgg] at hg)
 rw[hcc] at h;generalize he:[δ]=m at h;cases h with
 |int t k n hu' h1=>rw[hu] at hu';cases hu';injection he with he;exact⟨n,he,h1⟩
 |bool t b hu'=>rw[hu] at hu';cases hu'
 |str t s hu'=>rw[hu] at hu';cases hu'
 |slice t e l hu'=>rw[hu] at hu';cases hu'
 |struct t fs l hu'=>rw[hu] at hu';cases hu'
theorem Nn {t e:TypeId}{k:IntKind}{δ:D} (hu:P.underlying t=some (.slice e)) (he:P.underlying e=some (.int k)) (hc:P.cellsOf e=1) (h:TyW P t δ.cells) (hg:δ.isAgg=a7 P t):∃l:List Int,δ = .list (e+1000000) 1 (l.map (.int k))∧l.length*P.bytesOf e≤reachBytes:=by
 obtain⟨l,rfl,h1,h2,h3⟩:=pR hu h hg;have:∃m:List Int,l=m.map (.int k):=by
  clear h hg h1;induction l with
  |nil=>exact⟨[],rfl⟩
  |cons d l ih =>
   obtain⟨m,rfl⟩:=ih (fun d hd=>h2 d (by simp[hd])) (fun d hd=>h3 d (by simp[hd]));obtain⟨s,rfl,hs⟩:=pS he (h2 d (by simp)) (h3 d (by simp)).2.2;exact⟨s::m,rfl⟩
 obtain⟨m,rfl⟩:=this;exact⟨m,by rw[hc],by simpa using h1⟩
end
theorem D6 (k:IntKind) (a b:Int):aL .add (.int k a) (.int k b)=some (inK k (a+b),.int k (a+b)):=by simp[aL]
theorem D7 (k:IntKind) (a b:Int):aL .sub (.int k a) (.int k b)=some (inK k (a-b),.int k (a-b)):=by simp[aL]
theorem D8 (k:IntKind) (a b:Int):aL .mul (.int k a) (.int k b)=some (inK k (a*b),.int k (a*b)):=by simp[aL]
theorem D9 (k:IntKind) (a b:Int):aL .quo (.int k a) (.int k b)=some (decide (b≠0)&&inK k (a.tdiv b),.int k (a.tdiv b)):=by simp[aL]
theorem Ea (k:IntKind) (a b:Int):aL .rem (.int k a) (.int k b)=some (decide (b≠0),.int k (a.tmod b)):=by simp[aL]
theorem Eb (k:IntKind) (a b:Int):aL .eql (.int k a) (.int k b)=some (true,.bool (decide (a=b))):=by simp[aL]
theorem Ec (k:IntKind) (a b:Int):aL .neq (.int k a) (.int k b)=some (true,.bool (!decide (a=b))):=by simp[aL]
theorem Ed (k:IntKind) (a b:Int):aL .lss (.int k a) (.int k b)=some (true,.bool (decide (a<b))):=by simp[aL]
theorem Ee (k:IntKind) (a b:Int):aL .leq (.int k a) (.int k b)=some (true,.bool (decide (a≤b))):=by simp[aL]
theorem Ef (k:IntKind) (a b:Int):aL .gtr (.int k a) (.int k b)=some (true,.bool (decide (b<a))):=by simp[aL]
theorem Eg (k:IntKind) (a b:Int):aL .geq (.int k a) (.int k b)=some (true,.bool (decide (b≤a))):=by simp[aL]
theorem Eh (a b:List UInt8):aL .add (.str a) (.str b)=some (decide (a.length+b.length≤9223372036854775807),.str (a++b)):=rfl
theorem Ei (a b:List UInt8):aL .eql (.str a) (.str b)=some (true,.bool (decide (a=b))):=rfl
theorem Ej (a b:List UInt8):aL .neq (.str a) (.str b)=some (true,.bool (!decide (a=b))):=rfl
theorem Ek (a b:Bool):aL .eql (.bool a) (.bool b)=some (true,.bool (a == b)):=rfl
theorem El (a b:Bool):aL .neq (.bool a) (.bool b)=some (true,.bool (!(a == b))):=rfl
theorem Em (a:Bool):unD .not (.bool a)=some (true,.bool (!a)):=rfl
theorem En (k:IntKind) (a:Int):unD .neg (.int k a)=some (inK k (-a),.int k (-a)):=rfl
theorem Eo (n:Int):inK .i64 n=decide (-9223372036854775808≤n∧n≤9223372036854775807):=rfl
theorem Ep (n:Int):inK .u8 n=decide (0≤n∧n≤255):=rfl
theorem Eq (k:IntKind) (n:Int):D.isBool (.int k n)=false:=rfl
theorem Er (s:List UInt8):D.isBool (.str s)=false:=rfl
theorem Es (b:Bool):D.isBool (.bool b)=true:=rfl
theorem Et (d:D) (l:List AV):AV.mkS (.p d) l=AV.mk l:=rfl
theorem Eu (d:List AV) (l:List AV):AV.mkS (.agg d) l=AV.mk l:=rfl
theorem Ev (i j o:Nat) (l:List AV):AV.mkS (.ptr i j o) l=AV.mk l:=rfl
theorem Ew (i o n:Nat) (l:List AV):AV.mkS (.slice i o n) l=AV.mk l:=rfl
theorem Ex (T s:Nat) (l:List AV):AV.mkS (.nils T s) l = .agg l:=rfl
def cs6:=an @Et (an @Eu (an @Ev (an @Ew (an @Ex (an @D6 (an @D7 (an @D8 (an @D9 (an @Ea (an @Eb (an @Ec (an @Ed (an @Ee (an @Ef (an @Eg (an @Eh (an @Ei (an @Ej (an @Ek (an @El (an @Em (an @En (an @Eo (an @Ep (an @Eq (an @Er (@Es)))))))))))))))))))))))))))
def fgR (i:Nat):List (Nat×AV)→List (Nat×AV)
 |[]=>[]
 |(j,v)::l=>(j,v.forget i)::fgR i l
def fgM (i:Nat):List (Nat×AObj)→List (Nat×AObj)
 |[]=>[]
 |(j,v)::l=>(j,v.forget i)::fgM i l
theorem og (i:Nat):fgR i []=[]:=rfl
theorem oh (i j:Nat) (v:AV) (l:List (Nat×AV)):fgR i ((j,v)::l)=(j,v.forget i)::fgR i l:=rfl
theorem oi (i:Nat):fgM i []=[]:=rfl
theorem ol (i j:Nat) (v:AObj) (l:List (Nat×AObj)):fgM i ((j,v)::l)=(j,v.forget i)::fgM i l:=rfl
theorem om (i:Nat):AV.forget i .und = .und:=by unfold AV.forget;rfl
theorem oo (i:Nat) (d:D):AV.forget i (.p d) = .p d:=by unfold AV.forget;rfl
theorem Ey (i T sz:Nat):AV.forget i (.nils T sz) = .nils T sz:=by unfold AV.forget;rfl
theorem Ez (i j o n:Nat):AV.forget i (.slice j o n)=if j=i then .und else .slice j o n:=by unfold AV.forget;rfl
theorem EA (i j k o:Nat):AV.forget i (.ptr j k o)=if j=i then .und else .ptr j k o:=by unfold AV.forget;rfl
theorem EB (i:Nat) (l:List AV):AV.forget i (.agg l) = .agg (l.map (forget1 i)):=by unfold AV.forget;rfl
theorem of_row (i T sz:Nat) (l:List D) (f:Bool):AObj.forget i ⟨T,sz,.row l,f⟩=⟨T,sz,.row l,f⟩:=rfl
theorem EC (i T sz:Nat) (f:Bool):AObj.forget i ⟨T,sz,.junk,f⟩=⟨T,sz,.junk,f⟩:=rfl
theorem ED (i T sz:Nat) (d:D) (f:Bool):AObj.forget i ⟨T,sz,.box (.p d),f⟩=⟨T,sz,.box (.p d),f⟩:=by simp only[AObj.forget,oo]
theorem oq (i:Nat):∀(l:List (Nat×AV)),eX i (av l)=av (fgR i l)
 |[]=>by funext j;simp only[eX,og,fF,om]
 |(k,u)::l=>by
  funext j
  have ih:=congrFun (oq i l) j;simp only[eX] at ih;simp only[eX,oh,dw];split
  ·rfl
  ·exact ih
theorem ot (i:Nat):∀(l:List (Nat×AObj)),cF i (az l)=az (fgM i l)
 |[]=>by funext j;simp only[cF,oi,jb,Option.map_none]
 |(k,u)::l=>by
  funext j
  have ih:=congrFun (ot i l) j;simp only[cF] at ih;simp only[cF,ol,en];split
  ·rfl
  ·exact ih
section
variable {w0:World}{base:Bs}{nt:Nat}{loc:aU}{s:St}{a:Act}{w:World}{OT:List TypeId}
theorem Rel.freeze (h:Rel w0 base nt loc s a w){i:Nat}{ob:AObj} (hi:i≠aQ) (hm:s.m i=some ob):Rel w0 base nt loc ⟨s.r,upd s.m i (some ⟨ob.T,ob.sz,ob.cont,true⟩)⟩ a w:=h.frz0 hi hm
theorem Sub.freeze {i:Nat}{r:Nat→AV}{m:Mem}{ob:AObj} (hi:i≠aQ) (hm:m i=some ob):Sub OT ⟨r,m⟩ ⟨r,upd m i (some ⟨ob.T,ob.sz,ob.cont,true⟩)⟩:=by
 rintro C a w rfl ⟨⟨loc,hr⟩,h2⟩;refine⟨⟨_,hr.freeze hi hm⟩,fun j o ho => ?_⟩;dsimp only at ho;by_cases e:j=i
 ·subst e;rw[aD] at ho;cases ho;exact h2 j ob hm
 ·rw[aA _ _ e] at ho;exact h2 j o ho
theorem eS (i:Nat) (ob:AObj) (ts:List Nat){r:Nat→AV}{m:Mem}{R:St→Prop} (hm:m i=some ob) (h:R ⟨av (sel r ts),upd m i (some ⟨ob.T,ob.sz,ob.cont,true⟩)⟩) (hi:i≠aQ:=by decide):∃u,Sub OT ⟨r,m⟩ u∧R u:=⟨_,(Sub.freeze hi hm).tr (Sub.und (jd ts)),h⟩
end
end Go.Proofs.Ytdchbabgopglcaa.M
