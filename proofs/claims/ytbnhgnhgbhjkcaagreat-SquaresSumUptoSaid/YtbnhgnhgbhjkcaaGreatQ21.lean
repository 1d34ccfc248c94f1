/- Lemmas. -/
import Derived.Test.YtbnhgnhgbhjkcaaGreatQ20
import Derived.SizedLaws
import Derived.ChangeArms
import Derived.OpenShut
set_option linter.defProp false
set_option linter.unusedVariables false
namespace Go.Proofs.YtbnhgnhgbhjkcaaGreat.M
set_option linter.unusedSimpArgs false
open Go.RowKit
def fin (d:Option Nat) (K:St→Prop):Option (Bool×AV×St)→Prop
 |some (p,v,t)=>p=true∧K (t.put d v)
 |none=>False
theorem xB (d:Option Nat) (K:St→Prop) (p:Bool) (v:AV) (t:St):fin d K (some (p,v,t))=(p=true∧K (t.put d v)):=rfl
theorem xC (d:Option Nat) (K:St→Prop):fin d K none=False:=rfl
theorem xD (G:FuncId→List D→D→Prop) (d:Option Nat) (f:FuncId) (args:List Opd) (g:Option (Nat×Bool)) (K:St→Prop) (s:St):step G ⟨d,.call f args,g⟩ K s=(match a7 s args with
  |some ds => ∃e,G f ds e∧K (s.put d (.p e))
  |none=>False):=rfl
theorem xE (G:FuncId→List D→D→Prop) (d:Option Nat) (T sz b:Nat) (x y:Opd) (g:Option (Nat×Bool)) (K:St→Prop) (s:St):step G ⟨d,.append T sz b x y,g⟩ K s=fin d K (di T sz b x y (d.getD 0) s):=rfl
theorem xF (G:FuncId→List D→D→Prop) (d:Option Nat) (o:AOp) (K:St→Prop) (s:St):bK G ⟨d,o,none⟩ K s=step G ⟨d,o,none⟩ K s:=rfl
theorem xG (G:FuncId→List D→D→Prop) (d:Option Nat) (o:AOp) (i:Nat) (b:Bool) (K:St→Prop) (s:St):bK G ⟨d,o,some (i,b)⟩ K s=(match s.r i with
  |.p (.bool c)=>if c=b then step G ⟨d,o,some (i,b)⟩ K s else K (s.put d (.p (.tup [])))
  |.p (.tup [])=>K (s.put d (.p (.tup [])))
  |_=>False):=rfl
theorem xH (r:Nat→AV) (n:Nat):Opd.ev r (.t n)=r n:=rfl
theorem xI (r:Nat→AV) (v:AV):Opd.ev r (.k v)=v:=rfl
theorem xJ (k:IntKind) (n:Int):asI (.p (.int k n))=some n:=rfl
theorem qt (any:Bool) (M:Mem) (d:D):AV.toD any M 20 (.p d)=some d:=rfl
theorem xK (any:Bool) (M:Mem) (T:TypeId) (sz:Nat):AV.toD any M 20 (.nils T sz)=some (.list T sz []):=rfl
theorem xL (any:Bool) (M:Mem) (id off len:Nat):AV.toD any M 20 (.slice id off len)=(match M id with
  |some o=>match o.cont with
   |.row l=>if (o.frz||any)&&decide (off+len≤l.length) then some (.list o.T o.sz ((l.drop off).take len)) else none
   |_=>none
  |none=>none):=rfl
theorem xM (s:St):a7 s []=some []:=rfl
theorem xN (s:St) (x:Opd) (l:List Opd):a7 s (x::l)=(match (x.ev s.r).toD false s.m 20,a7 s l with
  |some d,some ds=>some (d::ds)
  |_,_=>none):=rfl
theorem xO (G:FuncId→List D→D→Prop) (dd:Option Nat) (x:Opd) (g:Option (Nat×Bool)) (K:St→Prop) (s:St):step G ⟨dd,.mov x,g⟩ K s=fin dd K (ev (.mov x) (dd.getD 0) s):=rfl
theorem xP (x:Opd) (id:Nat) (s:St):ev (.mov x) id s=(some (true,x.ev s.r,s)):=rfl
theorem xQ (G:FuncId→List D→D→Prop) (dd:Option Nat) (x:Opd) (g:Option (Nat×Bool)) (K:St→Prop) (s:St):step G ⟨dd,.nilCheck x,g⟩ K s=fin dd K (ev (.nilCheck x) (dd.getD 0) s):=rfl
theorem xR (x:Opd) (id:Nat) (s:St):ev (.nilCheck x) id s=(match x.ev s.r with
  |.ptr i j o=>some (true,.ptr i j o,s)
  |.p (.ref d)=>some (true,.p (.ref d),s)
  |_=>none):=rfl
theorem xS (G:FuncId→List D→D→Prop) (dd:Option Nat) (c:Opd) (a:Opd) (b:Opd) (g:Option (Nat×Bool)) (K:St→Prop) (s:St):step G ⟨dd,.pick c a b,g⟩ K s=fin dd K (ev (.pick c a b) (dd.getD 0) s):=rfl
theorem xT (c:Opd) (a:Opd) (b:Opd) (id:Nat) (s:St):ev (.pick c a b) id s=(match c.ev s.r with
  |.p (.bool true)=>some (true,a.ev s.r,s)
  |.p (.bool false)=>some (true,b.ev s.r,s)
  |_=>none):=rfl
theorem xU (G:FuncId→List D→D→Prop) (dd:Option Nat) (T:Nat) (sz:Nat) (z:AV) (g:Option (Nat×Bool)) (K:St→Prop) (s:St):step G ⟨dd,.alloc T sz z,g⟩ K s=fin dd K (ev (.alloc T sz z) (dd.getD 0) s):=rfl
theorem xV (T:Nat) (sz:Nat) (z:AV) (id:Nat) (s:St):ev (.alloc T sz z) id s=(match s.m id with
  |none=>some (true,.ptr id 0 0,⟨s.r,upd s.m id (some ⟨T,sz,.box z,false⟩)⟩)
  |some _=>none):=rfl
theorem xW (G:FuncId→List D→D→Prop) (dd:Option Nat) (T:Nat) (sz:Nat) (x:Opd) (g:Option (Nat×Bool)) (K:St→Prop) (s:St):step G ⟨dd,.box T sz x,g⟩ K s=fin dd K (ev (.box T sz x) (dd.getD 0) s):=rfl
theorem xX (T:Nat) (sz:Nat) (x:Opd) (id:Nat) (s:St):ev (.box T sz x) id s=(match s.m id with
  |none=>if (x.ev s.r).cells.length=sz∧(x.ev s.r).cells.all AV.one=true then some (true,.ptr id 0 0,⟨s.r,upd s.m id (some ⟨T,sz,.box (x.ev s.r),false⟩)⟩) else none
  |some _=>none):=rfl
theorem xY (G:FuncId→List D→D→Prop) (dd:Option Nat) (z:List AV) (parts:List (Nat×Nat×Opd)) (g:Option (Nat×Bool)) (K:St→Prop) (s:St):step G ⟨dd,.build z parts,g⟩ K s=fin dd K (ev (.build z parts) (dd.getD 0) s):=rfl
theorem xZ (z:List AV) (parts:List (Nat×Nat×Opd)) (id:Nat) (s:St):ev (.build z parts) id s=(match cJ z s.r parts with
  |some l=>some (true,AV.mk l,s)
  |none=>none):=rfl
theorem x5 (G:FuncId→List D→D→Prop) (dd:Option Nat) (T:Nat) (sz:Nat) (z:D) (n:Nat) (parts:List (Nat×Opd)) (g:Option (Nat×Bool)) (K:St→Prop) (s:St):step G ⟨dd,.buildSlice T sz z n parts,g⟩ K s=fin dd K (ev (.buildSlice T sz z n parts) (dd.getD 0) s):=rfl
theorem x6 (T:Nat) (sz:Nat) (z:D) (n:Nat) (parts:List (Nat×Opd)) (id:Nat) (s:St):ev (.buildSlice T sz z n parts) id s=(match s.m id with
  |none=>match cX sz (List.replicate n z) s.r s.m parts with
   |some l=>some (true,.slice id 0 n,⟨s.r,upd s.m id (some ⟨T,sz,.row l,false⟩)⟩)
   |none=>none
  |some _=>none):=rfl
theorem x7 (G:FuncId→List D→D→Prop) (dd:Option Nat) (ag:Bool) (sz:Nat) (x:Opd) (g:Option (Nat×Bool)) (K:St→Prop) (s:St):step G ⟨dd,.load ag sz x,g⟩ K s=fin dd K (ev (.load ag sz x) (dd.getD 0) s):=rfl
theorem x8 (ag:Bool) (sz:Nat) (x:Opd) (id:Nat) (s:St):ev (.load ag sz x) id s=(match x.ev s.r with
  |.ptr i j off=>match s.m i with
   |some ⟨_,osz,.row l,_⟩=>match (AV.p (l.getD j default)).get off sz osz ag with
    |some v=>some (decide (j<l.length),v,s)
    |none=>none
   |some ⟨_,osz,.box v,_⟩=>if j=0 then match v.get off sz osz ag with
    |some u=>some (true,u,s)
    |none=>none else none
   |_=>none
  |.p (.ref d)=>if d.isAgg=ag then some (decide (d.cells.length=sz∧0<sz),.p d,s) else none
  |_=>none):=rfl
theorem x9 (G:FuncId→List D→D→Prop) (dd:Option Nat) (sz:Nat) (x:Opd) (v:Opd) (g:Option (Nat×Bool)) (K:St→Prop) (s:St):step G ⟨dd,.store sz x v,g⟩ K s=fin dd K (ev (.store sz x v) (dd.getD 0) s):=rfl
theorem ya (sz:Nat) (x:Opd) (v:Opd) (id:Nat) (s:St):ev (.store sz x v) id s=(match x.ev s.r with
  |.ptr i j off=>match s.m i with
   |some ⟨T,osz,.row l,false⟩=>match (v.ev s.r).toD false s.m 20 with
    |some d=>if d.cells.length=sz∧d.cells.all D.one=true then
      (
       if off=0∧sz=osz then some (decide (j<l.length),.und,⟨s.r,upd s.m i (some ⟨T,osz,.row (l.set j d),false⟩)⟩)
       else if off+sz≤osz then some (decide (j<l.length),.und,⟨s.r,upd s.m i (some ⟨T,osz,.row (l.set j (.agg ((l.getD j default).cells.take off++d.cells++(l.getD j default).cells.drop (off+sz)))),false⟩)⟩) else none) else none
    |none=>none
   |some ⟨T,osz,.box u,false⟩=>if (v.ev s.r).cells.length=sz∧(v.ev s.r).cells.all AV.one=true∧j=0 then
     (
      if off=0∧sz=osz then some (true,.und,⟨s.r,upd s.m i (some ⟨T,osz,.box (v.ev s.r),false⟩)⟩)
      else if off+sz≤osz then some (true,.und,⟨s.r,upd s.m i (some ⟨T,osz,.box (AV.mk (u.cells.take off++(v.ev s.r).cells++u.cells.drop (off+sz))),false⟩)⟩) else none) else none
   |some ⟨T,osz,.junk,false⟩=>if (v.ev s.r).cells.length=sz∧(v.ev s.r).cells.all AV.one=true∧j=0 then
     (if off=0∧sz=osz then some (true,.und,⟨s.r,upd s.m i (some ⟨T,osz,.box (v.ev s.r),false⟩)⟩) else none) else none
   |_=>none
  |_=>none):=rfl
theorem yb (G:FuncId→List D→D→Prop) (dd:Option Nat) (bo:Bool) (op:BinOp) (x:Opd) (y:Opd) (g:Option (Nat×Bool)) (K:St→Prop) (s:St):step G ⟨dd,.bin bo op x y,g⟩ K s=fin dd K (ev (.bin bo op x y) (dd.getD 0) s):=rfl
theorem yc (bo:Bool) (op:BinOp) (x:Opd) (y:Opd) (id:Nat) (s:St):ev (.bin bo op x y) id s=(match x.ev s.r,y.ev s.r with
  |.p a,.p b=>if a.isBool=bo then match aO op a b with
   |some (c,d)=>some (c,.p d,s)
   |none=>none else none
  |_,_=>none):=rfl
theorem yd (G:FuncId→List D→D→Prop) (dd:Option Nat) (n:Nat) (neg:Bool) (x:Opd) (y:Opd) (g:Option (Nat×Bool)) (K:St→Prop) (s:St):step G ⟨dd,.eqs n neg x y,g⟩ K s=fin dd K (ev (.eqs n neg x y) (dd.getD 0) s):=rfl
theorem ye (n:Nat) (neg:Bool) (x:Opd) (y:Opd) (id:Nat) (s:St):ev (.eqs n neg x y) id s=(match x.ev s.r,y.ev s.r with
  |.p (.agg a),.p (.agg b)=>match aV a,aV b with
   |some (k,l),some (k',m)=>if k=k'∧k.length=n then some (true,.p (.bool (if neg then !decide (l=m) else decide (l=m))),s) else none
   |_,_=>none
  |_,_=>none):=rfl
theorem yf (G:FuncId→List D→D→Prop) (dd:Option Nat) (op:UnOp) (x:Opd) (g:Option (Nat×Bool)) (K:St→Prop) (s:St):step G ⟨dd,.un op x,g⟩ K s=fin dd K (ev (.un op x) (dd.getD 0) s):=rfl
theorem yg (op:UnOp) (x:Opd) (id:Nat) (s:St):ev (.un op x) id s=(match x.ev s.r with
  |.p a=>match unD op a with
   |some (c,d)=>some (c,.p d,s)
   |none=>none
  |_=>none):=rfl
theorem yh (G:FuncId→List D→D→Prop) (dd:Option Nat) (k:IntKind) (x:Opd) (g:Option (Nat×Bool)) (K:St→Prop) (s:St):step G ⟨dd,.conv k x,g⟩ K s=fin dd K (ev (.conv k x) (dd.getD 0) s):=rfl
theorem yi (k:IntKind) (x:Opd) (id:Nat) (s:St):ev (.conv k x) id s=(match x.ev s.r with
  |.p (.int _ n)=>some (inK k n,.p (.int k n),s)
  |_=>none):=rfl
theorem yj (G:FuncId→List D→D→Prop) (dd:Option Nat) (T:Nat) (sz:Nat) (bytes:Nat) (z:D) (l:Opd) (c:Opd) (g:Option (Nat×Bool)) (K:St→Prop) (s:St):step G ⟨dd,.makeSlice T sz bytes z l c,g⟩ K s=fin dd K (ev (.makeSlice T sz bytes z l c) (dd.getD 0) s):=rfl
theorem yk (T:Nat) (sz:Nat) (bytes:Nat) (z:D) (l:Opd) (c:Opd) (id:Nat) (s:St):ev (.makeSlice T sz bytes z l c) id s=(match s.m id with
  |none=>match asI (l.ev s.r),asI (c.ev s.r) with
   |some n,some m=>some (decide (0≤n∧n=m∧bytes*n≤281474976710656∧n≤9223372036854775807),.slice id 0 n.toNat,⟨s.r,upd s.m id (some ⟨T,sz,.row (List.replicate n.toNat z),false⟩)⟩)
   |_,_=>none
  |some _=>none):=rfl
theorem yl (G:FuncId→List D→D→Prop) (dd:Option Nat) (x:Opd) (lo:Option Opd) (hi:Option Opd) (g:Option (Nat×Bool)) (K:St→Prop) (s:St):step G ⟨dd,.sliceS x lo hi,g⟩ K s=fin dd K (ev (.sliceS x lo hi) (dd.getD 0) s):=rfl
theorem ym (x:Opd) (lo:Option Opd) (hi:Option Opd) (id:Nat) (s:St):ev (.sliceS x lo hi) id s=(match x.ev s.r with
  |.p (.str t)=>match cd s.r t.length lo hi none with
   |some (c,l,h)=>some (c,.p (.str ((t.drop l).take (h-l))),s)
   |none=>none
  |_=>none):=rfl
theorem yn (G:FuncId→List D→D→Prop) (dd:Option Nat) (sz:Nat) (x:Opd) (lo:Option Opd) (hi:Option Opd) (mx:Option Opd) (g:Option (Nat×Bool)) (K:St→Prop) (s:St):step G ⟨dd,.slice sz x lo hi mx,g⟩ K s=fin dd K (ev (.slice sz x lo hi mx) (dd.getD 0) s):=rfl
theorem yo (sz:Nat) (x:Opd) (lo:Option Opd) (hi:Option Opd) (mx:Option Opd) (id:Nat) (s:St):ev (.slice sz x lo hi mx) id s=(match x.ev s.r with
  |.p (.list T sz' t)=>if sz=sz' then match cd s.r t.length lo hi mx with
   |some (c,l,h)=>some (c,.p (.list T sz ((t.drop l).take (h-l))),s)
   |none=>none else none
  |.slice i off len=>match s.m i with
   |some o=>if o.sz=sz then match cd s.r len lo hi mx with
    |some (c,l,h)=>some (c,.slice i (off+l) (h-l),s)
    |none=>none else none
   |none=>none
  |.nils T sz=>match cd s.r 0 lo hi mx with
   |some (c,_,_)=>some (c,.nils T sz,s)
   |none=>none
  |.p (.nils T sz)=>match cd s.r 0 lo hi mx with
   |some (c,_,_)=>some (c,.nils T sz,s)
   |none=>none
  |.arr i off len=>if sz=1 then match cd s.r len lo hi mx with
   |some (c,l,h)=>some (c,.arr i (off+l) (h-l),s)
   |none=>none else none
  |_=>none):=rfl
theorem yp (G:FuncId→List D→D→Prop) (dd:Option Nat) (off:Nat) (sz:Nat) (ag:Bool) (x:Opd) (g:Option (Nat×Bool)) (K:St→Prop) (s:St):step G ⟨dd,.fieldAddr off sz ag x,g⟩ K s=fin dd K (ev (.fieldAddr off sz ag x) (dd.getD 0) s):=rfl
theorem yq (off:Nat) (sz:Nat) (ag:Bool) (x:Opd) (id:Nat) (s:St):ev (.fieldAddr off sz ag x) id s=(match x.ev s.r with
  |.ptr i j o=>some (true,.ptr i j (o+off),s)
  |.p (.ref d)=>match d.part off sz ag with
   |some e=>some (true,.p (.ref e),s)
   |none=>none
  |_=>none):=rfl
theorem yr (G:FuncId→List D→D→Prop) (dd:Option Nat) (off:Nat) (sz:Nat) (ag:Bool) (x:Opd) (g:Option (Nat×Bool)) (K:St→Prop) (s:St):step G ⟨dd,.field off sz ag x,g⟩ K s=fin dd K (ev (.field off sz ag x) (dd.getD 0) s):=rfl
theorem yt (off:Nat) (sz:Nat) (ag:Bool) (x:Opd) (id:Nat) (s:St):ev (.field off sz ag x) id s=(if (x.ev s.r).isAgg=some true then match (x.ev s.r).part off sz ag with
  |some v=>some (true,v,s)
  |none=>none else none):=rfl
theorem yu (G:FuncId→List D→D→Prop) (dd:Option Nat) (sz:Nat) (x:Opd) (i:Opd) (g:Option (Nat×Bool)) (K:St→Prop) (s:St):step G ⟨dd,.indexAddr sz x i,g⟩ K s=fin dd K (ev (.indexAddr sz x i) (dd.getD 0) s):=rfl
theorem yv (sz:Nat) (x:Opd) (i:Opd) (id:Nat) (s:St):ev (.indexAddr sz x i) id s=(match x.ev s.r,asI (i.ev s.r) with
  |.p (.list _ sz' t),some n=>if sz=sz' then some (decide (0≤n∧n<t.length),.p (.ref (t.getD n.toNat default)),s) else none
  |.slice j off len,some n=>match s.m j with
   |some o=>if o.sz=sz then some (decide (0≤n∧n<len),.ptr j (off+n.toNat) 0,s) else none
   |none=>none
  |.arr j off len,some n=>if sz=1 then some (decide (0≤n∧n<len),.ptr j 0 (off+n.toNat),s) else none
  |_,_=>none):=rfl
theorem yw (G:FuncId→List D→D→Prop) (dd:Option Nat) (x:Opd) (i:Opd) (g:Option (Nat×Bool)) (K:St→Prop) (s:St):step G ⟨dd,.index x i,g⟩ K s=fin dd K (ev (.index x i) (dd.getD 0) s):=rfl
theorem yx (x:Opd) (i:Opd) (id:Nat) (s:St):ev (.index x i) id s=(match x.ev s.r,asI (i.ev s.r) with
  |.p (.str t),some n=>some (decide (0≤n∧n<t.length),.p (.int .u8 ((t.getD n.toNat 0).toNat:Int)),s)
  |_,_=>none):=rfl
theorem yz (G:FuncId→List D→D→Prop) (dd:Option Nat) (x:Opd) (i:Nat) (g:Option (Nat×Bool)) (K:St→Prop) (s:St):step G ⟨dd,.extract x i,g⟩ K s=fin dd K (ev (.extract x i) (dd.getD 0) s):=rfl
theorem yA (x:Opd) (i:Nat) (id:Nat) (s:St):ev (.extract x i) id s=(match x.ev s.r with
  |.p (.tup l)=>(l[i]?).map fun d=>(true,.p d,s)
  |.tup l=>(l[i]?).map fun d=>(true,d,s)
  |_=>none):=rfl
theorem yC (G:FuncId→List D→D→Prop) (dd:Option Nat) (mx:Bool) (x y:Opd) (g:Option (Nat×Bool)) (K:St→Prop) (s:St):step G ⟨dd,.mm mx x y,g⟩ K s=fin dd K (ev (.mm mx x y) (dd.getD 0) s):=rfl
theorem yD (mx:Bool) (x y:Opd) (id:Nat) (s:St):ev (.mm mx x y) id s=(match x.ev s.r,y.ev s.r with
  |.p (.int k p),.p (.int k' q)=>if k=k' then some (true,.p (.int k (if mx then (if q > p then q else p) else (if q<p then q else p))),s) else none
  |_,_=>none):=rfl
theorem yE (G:FuncId→List D→D→Prop) (dd:Option Nat) (x:Opd) (g:Option (Nat×Bool)) (K:St→Prop) (s:St):step G ⟨dd,.lenS x,g⟩ K s=fin dd K (ev (.lenS x) (dd.getD 0) s):=rfl
theorem yF (x:Opd) (id:Nat) (s:St):ev (.lenS x) id s=(match x.ev s.r with
  |.p (.str t)=>some (true,.p (.int .i64 t.length),s)
  |_=>none):=rfl
theorem yG (G:FuncId→List D→D→Prop) (dd:Option Nat) (x:Opd) (g:Option (Nat×Bool)) (K:St→Prop) (s:St):step G ⟨dd,.len x,g⟩ K s=fin dd K (ev (.len x) (dd.getD 0) s):=rfl
theorem yH (x:Opd) (id:Nat) (s:St):ev (.len x) id s=(match x.ev s.r with
  |.p (.nils _ _)=>some (true,.p (.int .i64 (0:Nat)),s)
  |.p (.list _ _ t)=>some (true,.p (.int .i64 t.length),s)
  |.slice _ _ n=>some (true,.p (.int .i64 n),s)
  |.nils _ _=>some (true,.p (.int .i64 0),s)
  |.arr _ _ n=>some (true,.p (.int .i64 n),s)
  |_=>none):=rfl
def cs0:=an @pO (an @xB (an @xC (an @xD (an @xE (an @xF (an @xG (an @xH (an @xI (an @xJ (an @qt (an @xK (an @xL (an @xM (an @xN (an @xO (an @xP (an @xQ (an @xR (an @xS (an @xT (an @xU (an @xV (an @xW (an @xX (an @xY (an @xZ (an @x5 (an @x6 (@x7)))))))))))))))))))))))))))))
def cs1:=an @x8 (an @x9 (an @ya (an @yb (an @yc (an @yd (an @ye (an @yf (an @yg (an @yh (an @yi (an @yj (an @yk (an @yl (an @ym (an @yn (an @yo (an @yp (an @yq (an @yr (an @yt (an @yu (an @yv (an @yw (an @yx (an @yz (an @yA (an @yC (an @yD (an @yE (an @yF (@yG)))))))))))))))))))))))))))))))
def cs2:=an @yH (an @List.all_nil.{0} (an @true_and (an @gU (an @dn (an @wk (an @wl (an @wm (an @wn (an @zcS (an @wo (an @cZ (an @eQ (an @ek (an @iY (an @Option.getD_some.{0} (an @eq_self.{1} (an @decide_true (an @decide_false (an @Bool.not_true (an @Bool.not_false (an @Bool.false_eq_true (an @Bool.true_eq_false (an @zcT (an @zcU (an @zcV (an @zcW (an @zcX (an @zcY (@zcZ)))))))))))))))))))))))))))))
def cs3:=an @zc0 (an @zc1 (an @zc2 (an @zc3 (an @zc4 (an @zc5 (an @zc6 (an @zc7 (an @zc8 (an @zc9 (an @zda (an @zdb (an @zdc (an @zdd (an @zde (an @zdf (an @zdg (an @zdh (an @zdi (an @zdj (an @zdk (an @zdl (an @zdm (an @zdn (an @zdo (an @zdp (an @zdq (an @zdr (an @zds (@zdt)))))))))))))))))))))))))))))
def cs4:=an @zdu (an @zdv (an @decide_eq_true_eq (an @Bool.and_eq_true (an @and_true (an @List.length_map.{0,0} (an @List.map_cons.{0,0} (an @List.map_nil.{0,0} (an @zdx (an @zdy (an @zdz (an @zdA (an @zdB (an @zdC (an @zdF (an @Int.add_sub_cancel (an @Int.toNat_natCast (an @List.length_set.{0} (an @List.length_replicate.{0} (an @true_implies (an @false_implies (an @List.length_cons.{0} (an @List.length_nil.{0} (an @Nat.zero_add (an @Nat.lt_add_one (an @ne_eq.{1} (an @not_true_eq_false (an @not_false_eq_true (an @Nat.add_zero (@Nat.sub_zero)))))))))))))))))))))))))))))
def cs5:=an @List.drop_zero.{0} (an @List.take_length.{0} (an @Int.toNat_zero (an @zdE (an @zdD (an @List.all_cons.{0} (an @List.append_nil.{0} (an @List.nil_append.{0} (an @List.cons_append.{0} (an @List.take_zero.{0} (an @List.take_nil.{0} (an @List.take_succ_cons.{0} (an @List.drop_succ_cons.{0} (an @List.drop_nil.{0} (an @Bool.and_self (an @and_self (an @List.getElem?_cons_zero.{0} (an @List.getElem?_cons_succ.{0} (an @Option.map_some.{0,0} (an @Nat.le_refl (an @Option.some.injEq.{0} (an @Bool.and_true (an @Bool.true_and (an @if_true.{1} (an @if_false.{1} (@Option.map_none.{0,0})))))))))))))))))))))))))
set_option linter.unusedSimpArgs false
open Go.RowKit
inductive TyW (P:Program):TypeId→List D→Prop where
 |bool (t:TypeId) (b:Bool):P.underlying t=some .bool→TyW P t [.bool b]
 |int (t:TypeId) (k:IntKind) (n:Int):P.underlying t=some (.int k)→(Lit.int k n).wf=true→TyW P t [.int k n]
 |str (t:TypeId) (s:List UInt8):P.underlying t=some .string→s.length≤reachBytes→TyW P t [.str s]
 |slice (t e:TypeId) (l:List D):P.underlying t=some (.slice e)→l.length*P.bytesOf e≤reachBytes→(∀d∈l,TyW P e d.cells)→(∀d∈l,d.cells.length=P.cellsOf e∧(∀q∈d.cells,q.one=true)∧d.isAgg=bl P e)→TyW P t [.list (e+1000000) (P.cellsOf e) l]
 |struct (t:TypeId) (fs:Array Field) (l:List D):P.underlying t=some (.struct fs)→l.length=P.cellsOf t→(∀f∈fs.toList,TyW P f.type ((l.drop f.offset).take (P.cellsOf f.type)))→TyW P t l
theorem wF {P:Program}{w:World}{N:Nat→Prop}{cs:List Value}:∀(fs:List Field) (o:Nat),fU P o fs cs.length=true→(∀f∈fs,∃l,CV w N ((cs.drop f.offset).take (P.cellsOf f.type)) l∧TyW P f.type l) →
  ∃l,CV w N (cs.drop o) l∧∀f∈fs,o≤f.offset∧TyW P f.type ((l.drop (f.offset-o)).take (P.cellsOf f.type))
 |[],o,h,_=>by
  simp[fU] at h;refine⟨[],⟨by simp;omega,by simp,by simp⟩,by simp⟩
 |f::fs,o,h,hf=>by
  simp only[fU,z9S,beq_iff_eq] at h;obtain⟨rfl,h2⟩:=h;have hle:=tu h2;obtain⟨l',g1,g2⟩:=wF fs _ h2 fun f' hf'=>hf f' (by simp[hf'])
  obtain⟨l,k1,k2⟩:=hf f (by simp);have hl:l.length=P.cellsOf f.type:=by rw[←k1.1];simp;omega
  refine⟨l++l',?_,fun f' hf' => ?_⟩
  ·have:=k1.append g1;rw[←List.drop_drop,z8X] at this;exact this
  ·rcases z9L.1 hf' with rfl | hf'
   ·refine⟨z95 _,?_⟩;rw[Nat.sub_self,z9u,List.take_append_of_le_length (by omega),z93 (by omega)];exact k2
   ·obtain⟨q1,q2⟩:=g2 f' hf';refine⟨by omega,?_⟩;rw[List.drop_append,z9l (by omega),List.nil_append,hl,show f'.offset-f.offset-P.cellsOf f.type=f'.offset-(f.offset+P.cellsOf f.type) by omega];exact q2
section
variable {H:Type}{enc:TypeId×Value→H}{P:Program}{w:World}{spare:Nat→Bool}{held:Bool}{N:Nat→Prop}
theorem wG {H:Type}{P:Program}{e:TypeId}:∀{ds:List (DataW H)}{d:DataW H},d∈ds→∀n∈d.weights P e,n∈DataW.weightsAll P e ds
 |d0::ds,d,hd,n,hn=>by
  simp only[DataW.weightsAll,z9y];rcases z9L.1 hd with rfl | hd
  ·exact .inl hn
  ·exact .inr (wG hd n hn)
theorem zh3 {S:List TypeId} (hS:lf P S=true):∀(fuel:Nat) (t:TypeId) (cs:List Value) (x:DataW H×List MemPlace),t∈S→DataW.trod enc P w 0 spare held fuel t cs=some x→(∀n∈x.1.weights P t,n≤reachBytes) →
  ∃l,CV w (fun b=>b<w.heap.size) cs l∧TyW P t l∧(bl P t=false→∃d,l=[d]∧d.isAgg=false):=by
 intro fuel;induction fuel with
 |zero=>intro t cs x _ h _;simp[DataW.trod] at h
 |succ n ih =>
  intro t cs x ht h hsz;have hp:=hS;unfold lf at hp;rw[z9C] at hp;have hpt':=hp t ht;rw[z9S,z8T] at hpt';have hpos:=hpt'.1;have hpt:=hpt'.2;clear hpt';split at hpt
  ·rename_i hu;obtain⟨b,rfl,-⟩:=DataW.trod_bool hu h;exact⟨[.bool b],⟨rfl,by simp[D.one],fun i d hd=>by
    match i,hd with
    |0,hd=>simp at hd;subst hd;exact .bool b
    |i+1,hd=>simp at hd⟩,.bool t b hu,fun _=>⟨_,rfl,rfl⟩⟩
  ·rename_i k hu;obtain⟨m,rfl,-,hw⟩:=DataW.trod_int hu h;exact⟨[.int k m],⟨rfl,by simp[D.one],fun i d hd=>by
    match i,hd with
    |0,hd=>simp at hd;subst hd;exact .int k m
    |i+1,hd=>simp at hd⟩,.int t k m hu hw,fun _=>⟨_,rfl,rfl⟩⟩
  ·rename_i hu;obtain⟨s,rfl,rfl,hw⟩:=DataW.trod_string hu h;exact⟨[.str s.data.toList],⟨rfl,by simp[D.one],fun i d hd=>by
    match i,hd with
    |0,hd=>simp at hd;subst hd;exact .str s
    |i+1,hd=>simp at hd⟩,.str t _ hu (hsz _ (by simp[DataW.weights])),fun _=>⟨_,rfl,rfl⟩⟩
  ·rename_i e hu;have he:e∈S:=by simpa using hpt
   have one:∀(δ:D),δ.one=true→δ.isAgg=false→∀v:Value,V w (fun b=>b<w.heap.size) v δ→TyW P t [δ]→cs=[v]→∃l,CV w (fun b=>b<w.heap.size) cs l∧TyW P t l∧(bl P t=false→∃d,l=[d]∧d.isAgg=false):=by
    rintro δ h1 h2 v hv hT rfl;exact⟨[δ],⟨rfl,by simpa using h1,fun i d hd=>by
     match i,hd with
     |0,hd=>simp at hd;subst hd;exact hv
     |i+1,hd=>simp at hd⟩,hT,fun _=>⟨_,rfl,h2⟩⟩
   rcases DataW.trod_slice hu h with⟨rfl,-⟩ | ⟨a,len,cap,elems,rest,m,hm,rfl,rfl,hb,hl,hcap,hlen,hel,-,-⟩
   ·exact one _ rfl rfl _ (.empty none 0 (e+1000000) (P.cellsOf e) (by omega)) (.slice t e [] hu (by simp) (by simp) (by simp)) rfl
   ·obtain rfl:m=n:=by omega
    have each:∀i,i<len→∃(d:D) (cs':List Value),CV w (fun b=>b<w.heap.size) cs' d.cells∧cs'.length=P.cellsOf e∧(∀j,j<P.cellsOf e→w.cell? ((a.add (i*P.cellsOf e)).add j)=some (cs'.getD j undef))∧TyW P e d.cells∧d.isAgg=bl P e:=by
     intro i hi;have h1:=hel i hi;rw[show elems[i]? = some (elems[i]'(by omega)) by simp[show i<elems.length by omega],Option.bind_eq_some_iff] at h1;obtain⟨cs',hcs,hy⟩:=h1;obtain⟨l,g1,g2,g3⟩:=ih e cs' _ he hy fun n hn=>hsz n (by
      simp only[DataW.weights,hu,z9L,z9y];exact .inr (.inl (wG (z9Q.2 ⟨_,z9a (by omega),rfl⟩) n hn)))
     obtain⟨q1,q2⟩:=WG hcs;cases hs:bl P e with
     |true=>exact⟨.agg l,cs',g1,q1,q2,g2,rfl⟩
     |false =>
      obtain⟨d,rfl,hd⟩:=g3 hs;have hc:d.cells=[d]:=by cases d<;>first | rfl | (simp[D.isAgg] at hd)
      exact⟨d,cs',by rw[hc];exact g1,q1,q2,by rw[hc];exact g2,hd⟩
    have hch:∃f:Nat→D×List Value,∀i,i<len→CV w (fun b=>b<w.heap.size) (f i).2 (f i).1.cells∧(f i).2.length=P.cellsOf e∧(∀j,j<P.cellsOf e→w.cell? ((a.add (i*P.cellsOf e)).add j)=some ((f i).2.getD j undef))∧TyW P e (f i).1.cells∧(f i).1.isAgg=bl P e:=by
     refine⟨fun i=>open Classical in if hi:i<len then ((each i hi).choose,(each i hi).choose_spec.choose) else default,fun i hi => ?_⟩;simp only[hi,dif_pos];exact (each i hi).choose_spec.choose_spec
    obtain⟨f,hf⟩:=hch;have hty:TyW P t [.list (e+1000000) (P.cellsOf e) ((List.range len).map fun i=>(f i).1)]:=by
     refine .slice t e _ hu ?_ ?_ ?_
     ·have:=hsz ((elems.length+rest.length)*P.bytesOf e) (by simp[DataW.weights,hu]);rw[hlen] at this;simp only[z9V,List.length_range];exact z9E (z92 _ (Nat.le_add_right _ _)) this
     ·intro d hd;obtain⟨i,hi,rfl⟩:=z9Q.1 hd;exact (hf i (List.mem_range.1 hi)).2.2.2.1
     ·intro d hd;obtain⟨i,hi,rfl⟩:=z9Q.1 hd;obtain⟨k1,k2,k3,k4,k5⟩:=hf i (List.mem_range.1 hi);exact⟨k1.1.symm.trans k2,k1.2.1,k5⟩
    have hmax:maxLen=9223372036854775807:=rfl;by_cases h0:len=0
    ·subst h0;exact one _ rfl rfl _ (.empty (some a) cap (e+1000000) (P.cellsOf e) (by omega)) hty rfl
    ·have hz0:0<P.cellsOf e:=by
      have:=hp e he;rw[z9S,z8T] at this;exact this.1
     obtain⟨b,o,rfl⟩:∃b o,a=⟨b,o,none⟩:=by
      have h1:=(hf 0 (by omega)).2.2.1 0 (by omega);rw[Nat.zero_mul,WI] at h1;exact WH h1
     have hcell:∀i j,i<len→j<P.cellsOf e→w.cell? ⟨b,o+(i*P.cellsOf e+j),none⟩=some ((f i).2.getD j undef):=by
      intro i j hi hj;have:=(hf i hi).2.2.1 j hj;rw[dE,dE] at this;rw[←Nat.add_assoc];exact this
     obtain⟨c,T,fr,hblk,-,-⟩:=tw (hcell 0 0 (by omega) hz0);have hlt:b<w.heap.size:=by
      rcases z8V b w.heap.size with h | h
      ·exact h
      ·rw[Array.getElem?_eq_none h] at hblk;cases hblk
     have hget:∀i j,i<len→j<P.cellsOf e→o+(i*P.cellsOf e+j)<c.size∧c.getD (o+(i*P.cellsOf e+j)) undef=(f i).2.getD j undef:=by
      intro i j hi hj;obtain⟨c',T',fr',h1,h2,h3⟩:=tw (hcell i j hi hj);rw[hblk] at h1;cases h1;exact⟨h2,h3⟩
     have hidx:∀(i:Nat) (d:D),((List.range len).map fun i=>(f i).1)[i]? = some d→i<len∧d=(f i).1:=by
      intro i d hd;rw[z9B,z94] at hd;obtain⟨q,hq,rfl⟩:=hd;obtain⟨h1,h2⟩:=z98.1 hq;simp at h1 h2;subst h2;exact⟨h1,rfl⟩
     have:=V.list (w:=w) (N:=fun b=>b<w.heap.size) b o cap (e+1000000) (P.cellsOf e) ((List.range len).map fun i=>(f i).1) c fr ⟨T,hblk,.inr (Nat.le_add_left _ _)⟩ hlt (by simpa using hl) (by omega) ?_ ?_ ?_
     ·simp only[z9V,List.length_range] at this;exact one _ rfl rfl _ this hty rfl
     ·intro d hd;obtain⟨i,hi,rfl⟩:=z9Q.1 hd;obtain⟨k1,k2,-⟩:=hf i (List.mem_range.1 hi);exact⟨k1.1.symm.trans k2,k1.2.1⟩
     ·intro i d j q hd hq;obtain⟨hi,rfl⟩:=hidx i d hd;obtain⟨k1,k2,-⟩:=hf i hi;have hj:=(z98.1 hq).1;exact (hget i j hi (by have:=k1.1;omega)).1
     ·intro i d j q hd hq;obtain⟨hi,rfl⟩:=hidx i d hd;obtain⟨k1,k2,-⟩:=hf i hi;have hj:=(z98.1 hq).1;rw[(hget i j hi (by have:=k1.1;omega)).2];exact k1.2.2 j q hq
  ·rename_i fs hu;simp only[z9S,z9C] at hpt;obtain⟨h1,h2⟩:=hpt;obtain⟨xs,m,hm,rfl,hlen,hxs,hfs⟩:=DataW.trod_struct hu h;obtain rfl:m=n:=by omega
   rw[←hlen] at h2;obtain⟨l,g1,g2⟩:=wF (w:=w) (N:=fun b=>b<w.heap.size) fs.toList 0 h2 fun f hf=>by
    obtain⟨i,hi,rfl⟩:=z85.1 hf;have hfi:fs[i]? = some (fs.toList[i]):=by simp at hi ⊢
    have h3:=hfs i _ hfi;rw[z9P (show i<xs.length by simp at hi;omega)] at h3;obtain⟨l,q1,q2,-⟩:=ih _ _ _ (by simpa using h1 _ hf) h3 fun n hn=>hsz n (by
     simp only[DataW.weights,hu];exact DataW.weights_mem_each (j:=i) (by simp[hfi]) (by rw[z9B,z9P (show i<xs.length by simp at hi;omega)];rfl) n hn)
    exact⟨l,q1,q2⟩
   rw[z9u] at g1;exact⟨l,g1,.struct t fs l hu (by rw[←g1.1];exact hlen) fun f hf=>by simpa using (g2 f hf).2,fun hs=>by simp[bl,hu] at hs⟩
  ·cases hpt
theorem pT {S:List TypeId} (hS:lf P S=true){t:TypeId} (ht:t∈S){r:Reach}{b0:Nat}{v:Value}{d:DataW H}{ps:List MemPlace} (hval:Value.okWide P w r b0 t v) (h:DataW.Trod enc P w 0 spare held t v d ps) (hsz:∀n∈d.weights P t,n≤reachBytes) :
  ∃δ,V w (fun b=>b<w.heap.size) v δ∧TyW P t δ.cells∧δ.isAgg=bl P t:=by
 obtain⟨fuel,h⟩:=h;obtain⟨l,h1,h2,h3⟩:=zh3 hS fuel t _ _ ht h hsz;have one:bl P t=false→v.cells = #[v]→∃δ,V w (fun b=>b<w.heap.size) v δ∧TyW P t δ.cells∧δ.isAgg=bl P t:=by
  intro hs hc;obtain⟨δ,rfl,hδ⟩:=h3 hs;have hcc:δ.cells=[δ]:=by cases δ<;>first | rfl | (simp[D.isAgg] at hδ)
  refine⟨δ,?_,by rw[hcc];exact h2,by rw[hδ,hs]⟩;have:=h1.2.2 0 δ rfl;rw[hc] at this;simpa using this
 cases h2 with
 |bool t b hu=>obtain⟨x,rfl⟩:=Go.WideShapes.okWide_bool hu hval;exact one (by simp[bl,hu]) rfl
 |int t k n hu=>obtain⟨x,rfl⟩:=Go.WideShapes.okWide_int hu hval;exact one (by simp[bl,hu]) rfl
 |str t s hu=>obtain⟨x,rfl⟩:=Go.WideShapes.okWide_string hu hval;exact one (by simp[bl,hu]) rfl
 |slice t e l hu=>obtain⟨a,n,c,rfl⟩:=Go.WideShapes.okWide_slice hu hval;exact one (by simp[bl,hu]) rfl
 |struct t fs l hu hl hf =>
  obtain⟨cs,rfl,-⟩:=Go.WideShapes.okWide_struct hu hval;refine⟨.agg l,.agg cs l (by have:=h1.1;simpa[Value.cells] using this) h1.2.1 fun i d hd => ?_,.struct t fs l hu hl hf,by simp[bl,hu,D.isAgg]⟩;have:=h1.2.2 i d hd;simpa[Value.cells] using this
theorem mr {t e:TypeId}{δ:D} (hu:P.underlying t=some (.slice e)) (h:TyW P t δ.cells) (hg:δ.isAgg=bl P t):∃l:List D,δ = .list (e+1000000) (P.cellsOf e) l∧l.length*P.bytesOf e≤reachBytes∧(∀d∈l,TyW P e d.cells)∧(∀d∈l,d.cells.length=P.cellsOf e∧(∀q∈d.cells,q.one=true)∧d.isAgg=bl P e):=by
 have hs:bl P t=false:=by simp[bl,hu]
 rw[hs] at hg;have hcc:δ.cells=[δ]:=by cases δ<;>first | rfl | (simp[D.isAgg] at hg)
 rw[hcc] at h;generalize he:[δ]=m at h;cases h with
 |slice t e' l hu' h1 h2 h3 =>
  rw[hu] at hu';cases hu';injection he with he
  exact⟨l,he,h1,h2,h3⟩
 |bool t b hu'=>rw[hu] at hu';cases hu'
 |int t k n hu'=>rw[hu] at hu';cases hu'
 |str t s hu'=>rw[hu] at hu';cases hu'
 |struct t fs l hu'=>rw[hu] at hu';cases hu'
theorem pU {t:TypeId}{δ:D} (hu:P.underlying t=some .string) (h:TyW P t δ.cells) (hg:δ.isAgg=bl P t):∃s:List UInt8,δ = .str s∧s.length≤reachBytes:=by
 have hs:bl P t=false:=by simp[bl,hu]
 rw[hs] at hg;have hcc:δ.cells=[δ]:=by cases δ<;>first | rfl | (simp[D.isAgg] at hg)
 rw[hcc] at h;generalize he:[δ]=m at h;cases h with
 |str t s hu' h1=>injection he with he;exact⟨s,he,h1⟩
 |bool t b hu'=>rw[hu] at hu';cases hu'
 |int t k n hu'=>rw[hu] at hu';cases hu'
 |slice t e l hu'=>rw[hu] at hu';cases hu'
 |struct t fs l hu'=>rw[hu] at hu';cases hu'
theorem wH {t:TypeId}{k:IntKind}{δ:D} (hu:P.underlying t=some (.int k)) (h:TyW P t δ.cells) (hg:δ.isAgg=bl P t):∃n:Int,δ = .int k n∧(Lit.int k n).wf=true:=by
 have hs:bl P t=false:=by simp[bl,hu]
 rw[hs] at hg;have hcc:δ.cells=[δ]:=by cases δ<;>first | rfl | (simp[D.isAgg] at hg)
 rw[hcc] at h;generalize he:[δ]=m at h;cases h with
 |int t k n hu' h1=>rw[hu] at hu';cases hu';injection he with he;exact⟨n,he,h1⟩
 |bool t b hu'=>rw[hu] at hu';cases hu'
 |str t s hu'=>rw[hu] at hu';cases hu'
 |slice t e l hu'=>rw[hu] at hu';cases hu'
 |struct t fs l hu'=>rw[hu] at hu';cases hu'
theorem zh4 {t e:TypeId}{δ:D} (hu:P.underlying t=some (.slice e)) (he:P.underlying e=some .string) (hc:P.cellsOf e=1) (h:TyW P t δ.cells) (hg:δ.isAgg=bl P t):∃l:List (List UInt8),δ = .list (e+1000000) 1 (l.map .str)∧l.length*P.bytesOf e≤reachBytes∧∀s∈l,s.length≤reachBytes:=by
 obtain⟨l,rfl,h1,h2,h3⟩:=mr hu h hg;have:∃m:List (List UInt8),l=m.map .str∧∀s∈m,s.length≤reachBytes:=by
  clear h hg h1;induction l with
  |nil=>exact⟨[],rfl,by simp⟩
  |cons d l ih =>
   obtain⟨m,rfl,hm⟩:=ih (fun d hd=>h2 d (by simp[hd])) (fun d hd=>h3 d (by simp[hd]));obtain⟨s,rfl,hs⟩:=pU he (h2 d (by simp)) (h3 d (by simp)).2.2;refine⟨s::m,rfl,fun s' hs' => ?_⟩;rcases z9L.1 hs' with rfl | hs'
   ·exact hs
   ·exact hm s' hs'
 obtain⟨m,rfl,hm⟩:=this;exact⟨m,by rw[hc],by simpa using h1,hm⟩
theorem zh5 {t e:TypeId}{k:IntKind}{δ:D} (hu:P.underlying t=some (.slice e)) (he:P.underlying e=some (.int k)) (hc:P.cellsOf e=1) (h:TyW P t δ.cells) (hg:δ.isAgg=bl P t):∃l:List Int,δ = .list (e+1000000) 1 (l.map (.int k))∧l.length*P.bytesOf e≤reachBytes:=by
 obtain⟨l,rfl,h1,h2,h3⟩:=mr hu h hg;have:∃m:List Int,l=m.map (.int k):=by
  clear h hg h1;induction l with
  |nil=>exact⟨[],rfl⟩
  |cons d l ih =>
   obtain⟨m,rfl⟩:=ih (fun d hd=>h2 d (by simp[hd])) (fun d hd=>h3 d (by simp[hd]));obtain⟨s,rfl,hs⟩:=wH he (h2 d (by simp)) (h3 d (by simp)).2.2;exact⟨s::m,rfl⟩
 obtain⟨m,rfl⟩:=this;exact⟨m,by rw[hc],by simpa using h1⟩
end
set_option linter.unusedSimpArgs false
open Go.RowKit
theorem VR (k:IntKind) (a b:Int):aO .add (.int k a) (.int k b)=some (inK k (a+b),.int k (a+b)):=by simp[aO]
theorem VS (k:IntKind) (a b:Int):aO .sub (.int k a) (.int k b)=some (inK k (a-b),.int k (a-b)):=by simp[aO]
theorem VT (k:IntKind) (a b:Int):aO .mul (.int k a) (.int k b)=some (inK k (a*b),.int k (a*b)):=by simp[aO]
theorem VU (k:IntKind) (a b:Int):aO .quo (.int k a) (.int k b)=some (decide (b≠0)&&inK k (a.tdiv b),.int k (a.tdiv b)):=by simp[aO]
theorem VV (k:IntKind) (a b:Int):aO .rem (.int k a) (.int k b)=some (decide (b≠0),.int k (a.tmod b)):=by simp[aO]
theorem VW (k:IntKind) (a b:Int):aO .eql (.int k a) (.int k b)=some (true,.bool (decide (a=b))):=by simp[aO]
theorem VX (k:IntKind) (a b:Int):aO .neq (.int k a) (.int k b)=some (true,.bool (!decide (a=b))):=by simp[aO]
theorem VY (k:IntKind) (a b:Int):aO .lss (.int k a) (.int k b)=some (true,.bool (decide (a<b))):=by simp[aO]
theorem VZ (k:IntKind) (a b:Int):aO .leq (.int k a) (.int k b)=some (true,.bool (decide (a≤b))):=by simp[aO]
theorem V1 (k:IntKind) (a b:Int):aO .gtr (.int k a) (.int k b)=some (true,.bool (decide (b<a))):=by simp[aO]
theorem V2 (k:IntKind) (a b:Int):aO .geq (.int k a) (.int k b)=some (true,.bool (decide (b≤a))):=by simp[aO]
theorem V3 (a b:List UInt8):aO .add (.str a) (.str b)=some (decide (a.length+b.length≤9223372036854775807),.str (a++b)):=rfl
theorem V4 (a b:List UInt8):aO .eql (.str a) (.str b)=some (true,.bool (decide (a=b))):=rfl
theorem V5 (a b:List UInt8):aO .neq (.str a) (.str b)=some (true,.bool (!decide (a=b))):=rfl
theorem V6 (a b:Bool):aO .eql (.bool a) (.bool b)=some (true,.bool (a == b)):=rfl
theorem V7 (a b:Bool):aO .neq (.bool a) (.bool b)=some (true,.bool (!(a == b))):=rfl
theorem V8 (a:Bool):unD .not (.bool a)=some (true,.bool (!a)):=rfl
theorem V9 (k:IntKind) (a:Int):unD .neg (.int k a)=some (inK k (-a),.int k (-a)):=rfl
theorem Wa (n:Int):inK .i64 n=decide (-9223372036854775808≤n∧n≤9223372036854775807):=rfl
theorem Wb (n:Int):inK .u8 n=decide (0≤n∧n≤255):=rfl
theorem Wc (k:IntKind) (n:Int):D.isBool (.int k n)=false:=rfl
theorem We (s:List UInt8):D.isBool (.str s)=false:=rfl
theorem Wf (b:Bool):D.isBool (.bool b)=true:=rfl
def cs6:=an @VR (an @VS (an @VT (an @VU (an @VV (an @VW (an @VX (an @VY (an @VZ (an @V1 (an @V2 (an @V3 (an @V4 (an @V5 (an @V6 (an @V7 (an @V8 (an @V9 (an @Wa (an @Wb (an @Wc (an @We (@Wf))))))))))))))))))))))
def fgR (i:Nat):List (Nat×AV)→List (Nat×AV)
 |[]=>[]
 |(j,v)::l=>(j,v.forget i)::fgR i l
def fgM (i:Nat):List (Nat×AObj)→List (Nat×AObj)
 |[]=>[]
 |(j,v)::l=>(j,v.forget i)::fgM i l
theorem sY (i:Nat):fgR i []=[]:=rfl
theorem sZ (i j:Nat) (v:AV) (l:List (Nat×AV)):fgR i ((j,v)::l)=(j,v.forget i)::fgR i l:=rfl
theorem s7 (i:Nat):fgM i []=[]:=rfl
theorem s8 (i j:Nat) (v:AObj) (l:List (Nat×AObj)):fgM i ((j,v)::l)=(j,v.forget i)::fgM i l:=rfl
theorem td (i:Nat):AV.forget i .und = .und:=by unfold AV.forget;rfl
theorem te (i:Nat) (d:D):AV.forget i (.p d) = .p d:=by unfold AV.forget;rfl
theorem Wg (i T sz:Nat):AV.forget i (.nils T sz) = .nils T sz:=by unfold AV.forget;rfl
theorem Wh (i j o n:Nat):AV.forget i (.slice j o n)=if j=i then .und else .slice j o n:=by unfold AV.forget;rfl
theorem Wi (i j k o:Nat):AV.forget i (.ptr j k o)=if j=i then .und else .ptr j k o:=by unfold AV.forget;rfl
theorem of_row (i T sz:Nat) (l:List D) (f:Bool):AObj.forget i ⟨T,sz,.row l,f⟩=⟨T,sz,.row l,f⟩:=rfl
theorem Wj (i T sz:Nat) (f:Bool):AObj.forget i ⟨T,sz,.junk,f⟩=⟨T,sz,.junk,f⟩:=rfl
theorem Wk (i T sz:Nat) (d:D) (f:Bool):AObj.forget i ⟨T,sz,.box (.p d),f⟩=⟨T,sz,.box (.p d),f⟩:=by simp only[AObj.forget,te]
theorem nV (i:Nat):∀(l:List (Nat×AV)),f6 i (ar l)=ar (fgR i l)
 |[]=>by funext j;simp only[f6,sY,eQ,td]
 |(k,u)::l=>by
  funext j
  have ih:=congrFun (nV i l) j;simp only[f6] at ih;simp only[f6,sZ,cZ];split
  ·rfl
  ·exact ih
theorem nW (i:Nat):∀(l:List (Nat×AObj)),cY i (au l)=au (fgM i l)
 |[]=>by funext j;simp only[cY,s7,iY,Option.map_none]
 |(k,u)::l=>by
  funext j
  have ih:=congrFun (nW i l) j;simp only[cY] at ih;simp only[cY,s8,ek];split
  ·rfl
  ·exact ih
section
variable {w0:World}{base:Bs}{nt:Nat}{loc:aX}{s:St}{a:Act}{w:World}{OT:List TypeId}
theorem Rel.freeze (h:Rel w0 base nt loc s a w){i:Nat}{ob:AObj} (hi:i≠aF) (hm:s.m i=some ob):Rel w0 base nt loc ⟨s.r,upd s.m i (some ⟨ob.T,ob.sz,ob.cont,true⟩)⟩ a w:=h.frz0 hi hm
theorem Sub.freeze {i:Nat}{r:Nat→AV}{m:Mem}{ob:AObj} (hi:i≠aF) (hm:m i=some ob):Sub OT ⟨r,m⟩ ⟨r,upd m i (some ⟨ob.T,ob.sz,ob.cont,true⟩)⟩:=by
 rintro C a w rfl ⟨⟨loc,hr⟩,h2⟩;refine⟨⟨_,hr.freeze hi hm⟩,fun j o ho => ?_⟩;dsimp only at ho;by_cases e:j=i
 ·subst e;rw[aD] at ho;cases ho;exact h2 j ob hm
 ·rw[aC _ _ e] at ho;exact h2 j o ho
theorem iy (i:Nat) (ob:AObj) (ts:List Nat){r:Nat→AV}{m:Mem}{R:St→Prop} (hm:m i=some ob) (h:R ⟨ar (sel r ts),upd m i (some ⟨ob.T,ob.sz,ob.cont,true⟩)⟩) (hi:i≠aF:=by decide):∃u,Sub OT ⟨r,m⟩ u∧R u:=⟨_,(Sub.freeze hi hm).tr (Sub.und (gV ts)),h⟩
end
end Go.Proofs.YtbnhgnhgbhjkcaaGreat.M
