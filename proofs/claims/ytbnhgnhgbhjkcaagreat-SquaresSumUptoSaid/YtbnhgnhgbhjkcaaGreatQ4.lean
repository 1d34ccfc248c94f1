/- Lemmas. -/
import Derived.Test.YtbnhgnhgbhjkcaaGreatQ2
import Derived.Test.YtbnhgnhgbhjkcaaGreatQ3
namespace Go.Proofs.YtbnhgnhgbhjkcaaGreat.M
set_option linter.unusedSimpArgs false
open Go.RowKit
inductive Opd where
 |t (n:Nat)
 |k (v:AV)
def Opd.ev (r:Nat→AV):Opd→AV
 |.t n=>r n
 |.k v=>v
inductive AOp where
 |mov (x:Opd)
 |nilCheck (x:Opd)
 |pick (c a b:Opd)
 |alloc (T sz:Nat) (z:AV)
 |box (T sz:Nat) (x:Opd)
 |build (z:List AV) (parts:List (Nat×Nat×Opd))
 |buildSlice (T sz:Nat) (z:D) (n:Nat) (parts:List (Nat×Opd))
 |buildSliceF (T sz:Nat) (z:D) (n:Nat) (parts:List (Nat×Opd))
 |buildSliceP (T sz:Nat) (z:D) (n:Nat) (parts:List (Nat×Opd))
 |load (ag:Bool) (sz:Nat) (x:Opd)
 |loadP (ag:Bool) (sz:Nat) (x:Opd)
 |indexAddrP (sz:Nat) (x i:Opd)
 |store (sz:Nat) (x v:Opd)
 |bin (bo:Bool) (op:BinOp) (x y:Opd)
 |eqs (n:Nat) (neg:Bool) (x y:Opd)
 |un (op:UnOp) (x:Opd)
 |conv (k:IntKind) (x:Opd)
 |strB (x:Opd)
 |bytS (T:TypeId) (x:Opd)
 |makeSlice (T sz bytes:Nat) (z:D) (l c:Opd)
 |slice (sz:Nat) (x:Opd) (lo hi mx:Option Opd)
 |sliceS (x:Opd) (lo hi:Option Opd)
 |fieldAddr (off sz:Nat) (ag:Bool) (x:Opd)
 |field (off sz:Nat) (ag:Bool) (x:Opd)
 |indexAddr (sz:Nat) (x i:Opd)
 |index (x i:Opd)
 |extract (x:Opd) (i:Nat)
 |len (x:Opd)
 |cap (x:Opd)
 |lenS (x:Opd)
 |mm (mx:Bool) (x y:Opd)
 |append (T sz bytes:Nat) (x y:Opd)
 |appendF (T sz bytes:Nat) (x y:Opd)
 |appZ (T sz bytes:Nat) (z:D) (x n:Opd)
 |call (f:FuncId) (args:List Opd)
 |fnv (fn:Fn) (first captured:List Opd)
 |callL (f:FuncId) (k:Nat) (args:List Opd)
 |callv (fs:List FuncId) (x:Opd) (args:List Opd)
 |callN (f:FuncId) (T:TypeId) (args:List Opd)
 |callW (f:FuncId) (A:List TypeId) (args:List Opd)
 |sliceA (n:Nat) (x:Opd) (lo hi mx:Option Opd)
 |copyA (x y:Opd)
 |isNil (neg:Bool) (x:Opd)
 |clearS (sz:Nat) (z:D) (x:Opd)
 |indexAddrA (n esz:Nat) (ag:Bool) (x i:Opd)
 |indexA (n esz:Nat) (ag:Bool) (x i:Opd)
 |copyS (T sz bytes:Nat) (y:Opd)
 |copyF (T sz bytes:Nat) (y:Opd)
 |bad
def inK:IntKind→Int→Bool
 |.i8,n=>decide (-128≤n∧n≤127)
 |.i16,n=>decide (-32768≤n∧n≤32767)
 |.i32,n=>decide (-2147483648≤n∧n≤2147483647)
 |.i64,n=>decide (-9223372036854775808≤n∧n≤9223372036854775807)
 |.u8,n=>decide (0≤n∧n≤255)
 |.u16,n=>decide (0≤n∧n≤65535)
 |.u32,n=>decide (0≤n∧n≤4294967295)
 |.u64,n=>decide (0≤n∧n≤18446744073709551615)
def f5 (l:List D) (off sz:Nat) (ag:Bool):Option D:=
 if ag then (if off+sz≤l.length then some (.agg ((l.drop off).take sz)) else none) else l[off]?
def jE (l:List AV) (off sz:Nat) (ag:Bool):Option AV:=
 if ag then (if off+sz≤l.length then some (.agg ((l.drop off).take sz)) else none) else l[off]?
def D.part (d:D) (off sz:Nat) (ag:Bool):Option D:=f5 d.cells off sz ag
def AV.part (v:AV) (off sz:Nat) (ag:Bool):Option AV:=
 match v with
 |.p d=>(d.part off sz ag).map .p
 |v=>jE v.cells off sz ag
def AV.get (v:AV) (off sz osz:Nat) (ag:Bool):Option AV:=
 if off=0∧sz=osz∧v.isAgg=some ag then some v else v.part off sz ag
mutual
def AV.pure:AV→Option D
 |.p d=>some d
 |.nils T sz=>some (.list T sz [])
 |.agg l=>(dK l).map .agg
 |_=>none
def dK:List AV→Option (List D)
 |[]=>some []
 |v::l=>match v.pure,dK l with
  |some d,some ds=>some (d::ds)
  |_,_=>none
end
def AV.mk (l:List AV):AV:=match dK l with
 |some ds => .p (.agg ds)
 |none => .agg l
mutual
def AV.toD (any:Bool) (M:Mem):Nat→AV→Option D
 |0,_=>none
 |n+1,v=>match v with
  |.p d=>some d
  |.nils T sz=>some (.list T sz [])
  |.agg l=>(dh any M n l).map .agg
  |.tup l=>(dh any M n l).map .tup
  |.slice id off len=>match M id with
   |some o=>match o.cont with
    |.row l=>if (o.frz||any)&&decide (off+len≤l.length) then some (.list o.T o.sz ((l.drop off).take len)) else none
    |_=>none
   |none=>none
  |.ptr id i off=>if i=0∧off=0 then match M id with
   |some o=>match o.cont with
    |.box v=>if o.frz||any then (AV.toD any M n v).map .ref else none
    |_=>none
   |none=>none else none
  |.arr id off len=>match M id with
   |some o=>match o.cont with
    |.box (.p d)=>if (o.frz||any)&&decide (off+len≤d.cells.length)&&decide (len≤9223372036854775807) then some (.list 1000000 1 ((d.cells.drop off).take len)) else none
    |_=>none
   |none=>none
  |.und=>none
def dh (any:Bool) (M:Mem):Nat→List AV→Option (List D)
 |0,_=>none
 |n+1,l=>match l with
  |[]=>some []
  |v::l=>match AV.toD any M n v,dh any M n l with
   |some d,some ds=>some (d::ds)
   |_,_=>none
end
def asI:AV→Option Int
 |.p (.int _ n)=>some n
 |_=>none
def dM (op:BinOp) (a b:Nat):Nat:=match op with
 |.and=>a &&& b
 |.or=>a ||| b
 |.xor=>a ^^^ b
 |_=>a ^^^ (a &&& b)
def eK (k:IntKind) (a b:Int):Bool:=decide (0≤a∧0≤b)&&inK k a&&inK k b
def aO (op:BinOp):D→D→Option (Bool×D)
 |.int k a,.int k' b =>
  match op with
  |.shl=>some (decide (0≤b∧b<k.bits)&&inK k (a*2^b.toNat),.int k (a*2^b.toNat))
  |.shr=>some (decide (0≤b∧b<k.bits),.int k (a / 2^b.toNat))
  |op=>if k=k' then
   match op with
   |.add=>some (inK k (a+b),.int k (a+b))
   |.sub=>some (inK k (a-b),.int k (a-b))
   |.mul=>some (inK k (a*b),.int k (a*b))
   |.quo=>some (decide (b≠0)&&inK k (a.tdiv b),.int k (a.tdiv b))
   |.rem=>some (decide (b≠0),.int k (a.tmod b))
   |.and=>some (eK k a b,.int k (dM .and a.toNat b.toNat:Nat))
   |.or=>some (eK k a b,.int k (dM .or a.toNat b.toNat:Nat))
   |.xor=>some (eK k a b,.int k (dM .xor a.toNat b.toNat:Nat))
   |.andNot=>some (eK k a b,.int k (dM .andNot a.toNat b.toNat:Nat))
   |.eql=>some (true,.bool (decide (a=b)))
   |.neq=>some (true,.bool (!decide (a=b)))
   |.lss=>some (true,.bool (decide (a<b)))
   |.leq=>some (true,.bool (decide (a≤b)))
   |.gtr=>some (true,.bool (decide (b<a)))
   |.geq=>some (true,.bool (decide (b≤a)))
   |_=>none
   else none
 |.str a,.str b =>
  match op with
  |.add=>some (decide (a.length+b.length≤9223372036854775807),.str (a++b))
  |.eql=>some (true,.bool (decide (a=b)))
  |.neq=>some (true,.bool (!decide (a=b)))
  |_=>none
 |.bool a,.bool b =>
  match op with
  |.eql=>some (true,.bool (a == b))
  |.neq=>some (true,.bool (!(a == b)))
  |_=>none
 |_,_=>none
def D.isBool:D→Bool
 |.bool _=>true
 |_=>false
def aV:List D→Option (List IntKind×List Int)
 |[]=>some ([],[])
 |.int k n::l=>(aV l).map fun p=>(k::p.1,n::p.2)
 |_=>none
def unD (op:UnOp):D→Option (Bool×D)
 |.int k a=>match op with
  |.neg=>some (inK k (-a),.int k (-a))
  |_=>none
 |.bool a=>match op with
  |.not=>some (true,.bool (!a))
  |_=>none
 |_=>none
def cJ (cells:List AV) (r:Nat→AV):List (Nat×Nat×Opd)→Option (List AV)
 |[]=>some cells
 |(off,sz,x)::rest =>
  if (x.ev r).cells.length=sz∧off+sz≤cells.length∧(x.ev r).cells.all AV.one=true then cJ (cells.take off++(x.ev r).cells++cells.drop (off+sz)) r rest else none
def cX (sz:Nat) (l:List D) (r:Nat→AV) (M:Mem):List (Nat×Opd)→Option (List D)
 |[]=>some l
 |(i,x)::rest=>match (x.ev r).toD false M 20 with
  |some d=>if d.cells.length=sz∧d.cells.all D.one=true∧i<l.length then cX sz (l.set i d) r M rest else none
  |none=>none
def eg (sz:Nat) (l:List D) (r:Nat→AV):List (Nat×Opd)→Option (List D)
 |[]=>some l
 |(i,x)::rest=>match x.ev r with
  |.p d=>if d.cells.length=sz∧d.cells.all D.one=true∧i<l.length then eg sz (l.set i d) r rest else none
  |_=>none
def cd (r:Nat→AV) (len:Nat) (lo hi mx:Option Opd):Option (Bool×Nat×Nat):=
 match (match lo with | none=>some 0 | some x=>asI (x.ev r)),(match hi with | none=>some (len:Int) | some x=>asI (x.ev r)) with
 |some l,some h=>match mx with
  |none=>some (decide (0≤l∧l≤h∧h≤len),l.toNat,h.toNat)
  |some y=>match asI (y.ev r) with
   |some m=>some (decide (0≤l∧l≤h∧h≤m∧m≤len),l.toNat,h.toNat)
   |none=>none
 |_,_=>none
mutual
def AV.forget (id:Nat):AV→AV
 |.slice i off len=>if i=id then .und else .slice i off len
 |.ptr i j off=>if i=id then .und else .ptr i j off
 |.arr i j off=>if i=id then .und else .arr i j off
 |.agg l=>match iI id l with
  |some l => .agg l
  |none => .und
 |.tup l=>match iI id l with
  |some l => .tup l
  |none => .und
 |v=>v
def iI (id:Nat):List AV→Option (List AV)
 |[]=>some []
 |v::l=>match v.forget id,iI id l with
  |.und,_=>none
  |v,some l=>some (v::l)
  |_,none=>none
end
def bO (sz:Nat) (m:Mem):AV→Option (List D)
 |.slice j off n=>match m j with
  |some ⟨_,sz',.row l,_⟩=>if sz'=sz∧off+n≤l.length then some ((l.drop off).take n) else none
  |_=>none
 |.p (.list _ sz' l)=>if sz'=sz then some l else none
 |.nils _ sz'=>if sz'=sz then some [] else none
 |_=>none
def cL (r:Nat→AV) (M:Mem):List Opd→Option (List D)
 |[]=>some []
 |x::l=>match (x.ev r).toD false M 20,cL r M l with
  |some d,some ds=>some (d::ds)
  |_,_=>none
def iJ:List D→Option (List UInt8)
 |[]=>some []
 |.int .u8 n::l=>if 0≤n∧n≤255 then (iJ l).map (UInt8.ofNat n.toNat::·) else none
 |_=>none
def ev (o:AOp) (id:Nat) (s:St):Option (Bool×AV×St):=
 match o with
 |.mov x=>some (true,x.ev s.r,s)
 |.nilCheck x=>match x.ev s.r with
  |.ptr i j o=>some (true,.ptr i j o,s)
  |.p (.ref d)=>some (true,.p (.ref d),s)
  |_=>none
 |.pick c a b=>match c.ev s.r with
  |.p (.bool true)=>some (true,a.ev s.r,s)
  |.p (.bool false)=>some (true,b.ev s.r,s)
  |_=>none
 |.alloc T sz z=>match s.m id with
  |none=>some (true,.ptr id 0 0,⟨s.r,upd s.m id (some ⟨T,sz,.box z,false⟩)⟩)
  |some _=>none
 |.box T sz x=>match s.m id with
  |none=>if (x.ev s.r).cells.length=sz∧(x.ev s.r).cells.all AV.one=true then some (true,.ptr id 0 0,⟨s.r,upd s.m id (some ⟨T,sz,.box (x.ev s.r),false⟩)⟩) else none
  |some _=>none
 |.build z parts=>match cJ z s.r parts with
  |some l=>some (true,AV.mk l,s)
  |none=>none
 |.buildSlice T sz z n parts=>match s.m id with
  |none=>match cX sz (List.replicate n z) s.r s.m parts with
   |some l=>some (true,.slice id 0 n,⟨s.r,upd s.m id (some ⟨T,sz,.row l,false⟩)⟩)
   |none=>none
  |some _=>none
 |.buildSliceP T sz z n parts=>match s.m id with
  |none=>match eg sz (List.replicate n z) s.r parts with
   |some l=>some (true,.slice id 0 n,⟨s.r,upd s.m id (some ⟨T,sz,.row l,false⟩)⟩)
   |none=>none
  |some _=>none
 |.buildSliceF T sz z n parts=>if id=aF then none else match s.m id with
  |none=>match cX sz (List.replicate n z) s.r s.m parts with
   |some l=>some (true,.slice id 0 n,⟨s.r,upd s.m id (some ⟨T,sz,.row l,true⟩)⟩)
   |none=>none
  |some _=>none
 |.loadP ag sz x=>match x.ev s.r with
  |.p (.ref d)=>if d.isAgg=ag then some (decide (d.cells.length=sz∧0<sz),.p d,s) else none
  |_=>none
 |.indexAddrP sz x i=>match x.ev s.r,asI (i.ev s.r) with
  |.p (.list _ sz' t),some n=>if sz=sz' then some (decide (0≤n∧n<t.length),.p (.ref (t.getD n.toNat default)),s) else none
  |_,_=>none
 |.load ag sz x=>match x.ev s.r with
  |.ptr i j off=>match s.m i with
   |some ⟨_,osz,.row l,_⟩=>match (AV.p (l.getD j default)).get off sz osz ag with
    |some v=>some (decide (j<l.length),v,s)
    |none=>none
   |some ⟨_,osz,.box v,_⟩=>if j=0 then match v.get off sz osz ag with
    |some u=>some (true,u,s)
    |none=>none else none
   |_=>none
  |.p (.ref d)=>if d.isAgg=ag then some (decide (d.cells.length=sz∧0<sz),.p d,s) else none
  |_=>none
 |.store sz x v=>match x.ev s.r with
  |.ptr i j off=>match s.m i with
   |some ⟨T,osz,.row l,false⟩=>match (v.ev s.r).toD false s.m 20 with
    |some d=>if d.cells.length=sz∧d.cells.all D.one=true then
      (
       if off=0∧sz=osz then some (decide (j<l.length),.und,⟨s.r,upd s.m i (some ⟨T,osz,.row (l.set j d),false⟩)⟩)
       else if off+sz≤osz then some (decide (j<l.length),.und,⟨s.r,upd s.m i (some ⟨T,osz,.row (l.set j (.agg ((l.getD j default).cells.take off++d.cells++(l.getD j default).cells.drop (off+sz)))),false⟩)⟩) else none) else none
    |none=>none
   |some ⟨T,osz,.box u,false⟩=>if (v.ev s.r).cells.length=sz∧(v.ev s.r).cells.all AV.one=true∧j=0 then
     (
      if off=0∧sz=osz then some (true,.und,⟨s.r,upd s.m i (some ⟨T,osz,.box (v.ev s.r),false⟩)⟩)
      else if off+sz≤osz then some (true,.und,⟨s.r,upd s.m i (some ⟨T,osz,.box (AV.mk (u.cells.take off++(v.ev s.r).cells++u.cells.drop (off+sz))),false⟩)⟩) else none) else none
   |some ⟨T,osz,.junk,false⟩=>if (v.ev s.r).cells.length=sz∧(v.ev s.r).cells.all AV.one=true∧j=0 then
     (if off=0∧sz=osz then some (true,.und,⟨s.r,upd s.m i (some ⟨T,osz,.box (v.ev s.r),false⟩)⟩) else none) else none
   |_=>none
  |_=>none
 |.bin bo op x y=>match x.ev s.r,y.ev s.r with
  |.p a,.p b=>if a.isBool=bo then match aO op a b with
   |some (c,d)=>some (c,.p d,s)
   |none=>none else none
  |_,_=>none
 |.eqs n neg x y=>match x.ev s.r,y.ev s.r with
  |.p (.agg a),.p (.agg b)=>match aV a,aV b with
   |some (k,l),some (k',m)=>if k=k'∧k.length=n then some (true,.p (.bool (if neg then !decide (l=m) else decide (l=m))),s) else none
   |_,_=>none
  |_,_=>none
 |.un op x=>match x.ev s.r with
  |.p a=>match unD op a with
   |some (c,d)=>some (c,.p d,s)
   |none=>none
  |_=>none
 |.conv k x=>match x.ev s.r with
  |.p (.int _ n)=>some (inK k n,.p (.int k n),s)
  |_=>none
 |.strB x=>match bO 1 s.m (x.ev s.r) with
  |some ys=>match iJ ys with
   |some b=>some (true,.p (.str b),s)
   |none=>none
  |none=>none
 |.bytS T x=>match s.m id with
  |none=>match x.ev s.r with
   |.p (.str t)=>some (decide (t.length≤9223372036854775807),.slice id 0 t.length,⟨s.r,upd s.m id (some ⟨T,1,.row (t.map fun b => .int .u8 b.toNat),false⟩)⟩)
   |_=>none
  |some _=>none
 |.makeSlice T sz bytes z l c=>match s.m id with
  |none=>match asI (l.ev s.r),asI (c.ev s.r) with
   |some n,some m=>some (decide (0≤n∧n=m∧bytes*n≤281474976710656∧n≤9223372036854775807),.slice id 0 n.toNat,⟨s.r,upd s.m id (some ⟨T,sz,.row (List.replicate n.toNat z),false⟩)⟩)
   |_,_=>none
  |some _=>none
 |.appZ T sz bytes z x n=>match s.m id with
  |none=>match x.ev s.r,asI (n.ev s.r) with
   |.nils _ sz',some k=>if sz'=sz∧0<sz then some (decide (0<k∧bytes*k≤140737488355328∧k≤9223372036854775807),.slice id 0 k.toNat,⟨s.r,upd s.m id (some ⟨T,sz,.row (List.replicate k.toNat z),false⟩)⟩) else none
   |_,_=>none
  |some _=>none
 |.sliceS x lo hi=>match x.ev s.r with
  |.p (.str t)=>match cd s.r t.length lo hi none with
   |some (c,l,h)=>some (c,.p (.str ((t.drop l).take (h-l))),s)
   |none=>none
  |_=>none
 |.slice sz x lo hi mx=>match x.ev s.r with
  |.p (.list T sz' t)=>if sz=sz' then match cd s.r t.length lo hi mx with
   |some (c,l,h)=>some (c,.p (.list T sz ((t.drop l).take (h-l))),s)
   |none=>none else none
  |.slice i off len=>match s.m i with
   |some o=>if o.sz=sz then match cd s.r len lo hi mx with
    |some (c,l,h)=>some (c,.slice i (off+l) (h-l),s)
    |none=>none else none
   |none=>none
  |.nils T sz=>match cd s.r 0 lo hi mx with
   |some (c,_,_)=>some (c,.nils T sz,s)
   |none=>none
  |.p (.nils T sz)=>match cd s.r 0 lo hi mx with
   |some (c,_,_)=>some (c,.nils T sz,s)
   |none=>none
  |.arr i off len=>if sz=1 then match cd s.r len lo hi mx with
   |some (c,l,h)=>some (c,.arr i (off+l) (h-l),s)
   |none=>none else none
  |_=>none
 |.fieldAddr off sz ag x=>match x.ev s.r with
  |.ptr i j o=>some (true,.ptr i j (o+off),s)
  |.p (.ref d)=>match d.part off sz ag with
   |some e=>some (true,.p (.ref e),s)
   |none=>none
  |_=>none
 |.field off sz ag x=>if (x.ev s.r).isAgg=some true then match (x.ev s.r).part off sz ag with
  |some v=>some (true,v,s)
  |none=>none else none
 |.indexAddr sz x i=>match x.ev s.r,asI (i.ev s.r) with
  |.p (.list _ sz' t),some n=>if sz=sz' then some (decide (0≤n∧n<t.length),.p (.ref (t.getD n.toNat default)),s) else none
  |.slice j off len,some n=>match s.m j with
   |some o=>if o.sz=sz then some (decide (0≤n∧n<len),.ptr j (off+n.toNat) 0,s) else none
   |none=>none
  |.arr j off len,some n=>if sz=1 then some (decide (0≤n∧n<len),.ptr j 0 (off+n.toNat),s) else none
  |_,_=>none
 |.sliceA n x lo hi mx=>match x.ev s.r with
  |.ptr i 0 off=>match s.m i with
   |some ⟨_,osz,.box _,_⟩=>if off+n≤osz∧n≤9223372036854775807 then match cd s.r n lo hi mx with
    |some (c,l,h)=>some (c,.arr i (off+l) (h-l),s)
    |none=>none else none
   |_=>none
  |_=>none
 |.clearS sz z x=>match x.ev s.r with
  |.slice i off len=>match s.m i with
   |some ⟨T,osz,.row l,false⟩=>if osz=sz then some (decide (off+len≤l.length),.und,⟨s.r,upd s.m i (some ⟨T,osz,.row (l.take off++List.replicate len z++l.drop (off+len)),false⟩)⟩) else none
   |_=>none
  |_=>none
 |.copyA x y=>match x.ev s.r,bO 1 s.m (y.ev s.r) with
  |.arr i off len,some ys=>match s.m i with
   |some ⟨T,osz,.box u,false⟩=>if off+len≤osz∧ys.all D.one=true then
     some (decide (ys.length≤len),.p (.int .i64 (ys.length:Nat)),⟨s.r,upd s.m i (some ⟨T,osz,.box (AV.mk (u.cells.take off++ys.map .p++u.cells.drop (off+ys.length))),false⟩)⟩) else none
   |_=>none
  |_,_=>none
 |.indexAddrA n esz ag x i=>match x.ev s.r,asI (i.ev s.r) with
  |.ptr j k off,some q=>some (decide (0≤q∧q<n),.ptr j k (off+q.toNat*esz),s)
  |.p (.ref d),some q=>match d.part (q.toNat*esz) esz ag with
   |some e=>some (decide (0≤q∧q<n),.p (.ref e),s)
   |none=>none
  |_,_=>none
 |.indexA n esz ag x i=>match asI (i.ev s.r) with
  |some q=>if (x.ev s.r).isAgg=some true then match (x.ev s.r).part (q.toNat*esz) esz ag with
   |some v=>some (decide (0≤q∧q<n),v,s)
   |none=>none else none
  |none=>none
 |.copyS T sz bytes y=>match s.m id,bO sz s.m (y.ev s.r) with
  |none,some ys=>some (decide (ys.length*bytes≤140737488355328∧ys.length≤9223372036854775807),.slice id 0 ys.length,⟨s.r,upd s.m id (some ⟨T,sz,.row ys,false⟩)⟩)
  |_,_=>none
 |.copyF T sz bytes y=>if id=aF then none else match s.m id,bO sz s.m (y.ev s.r) with
  |none,some ys=>some (decide (ys.length*bytes≤140737488355328∧ys.length≤9223372036854775807),.slice id 0 ys.length,⟨s.r,upd s.m id (some ⟨T,sz,.row ys,true⟩)⟩)
  |_,_=>none
 |.fnv fn x y=>match cL s.r s.m x,cL s.r s.m y with
  |some l,some k=>some (true,.p (.fn fn l k),s)
  |_,_=>none
 |.index x i=>match x.ev s.r,asI (i.ev s.r) with
  |.p (.str t),some n=>some (decide (0≤n∧n<t.length),.p (.int .u8 ((t.getD n.toNat 0).toNat:Int)),s)
  |_,_=>none
 |.extract x i=>match x.ev s.r with
  |.p (.tup l)=>(l[i]?).map fun d=>(true,.p d,s)
  |.tup l=>(l[i]?).map fun d=>(true,d,s)
  |_=>none
 |.mm mx x y=>match x.ev s.r,y.ev s.r with
  |.p (.int k p),.p (.int k' q)=>if k=k' then some (true,.p (.int k (if mx then (if q > p then q else p) else (if q<p then q else p))),s) else none
  |_,_=>none
 |.lenS x=>match x.ev s.r with
  |.p (.str t)=>some (true,.p (.int .i64 t.length),s)
  |_=>none
 |.cap x=>match x.ev s.r with
  |.p (.nils _ _)=>some (true,.p (.int .i64 (0:Nat)),s)
  |_=>none
 |.len x=>match x.ev s.r with
  |.p (.nils _ _)=>some (true,.p (.int .i64 (0:Nat)),s)
  |.p (.list _ _ t)=>some (true,.p (.int .i64 t.length),s)
  |.slice _ _ n=>some (true,.p (.int .i64 n),s)
  |.nils _ _=>some (true,.p (.int .i64 0),s)
  |.arr _ _ n=>some (true,.p (.int .i64 n),s)
  |_=>none
 |_=>none
def cM (id:Nat) (s:St):St:=if id=aF then s else match s.m id with
 |some o=>⟨s.r,upd s.m id (some ⟨o.T,o.sz,o.cont,true⟩)⟩
 |none=>s
def AObj.forget (id:Nat) (o:AObj):AObj:=match o.cont with
 |.box v=>match v.forget id with
  |.und=>⟨o.T,o.sz,.junk,o.frz⟩
  |u=>⟨o.T,o.sz,.box u,o.frz⟩
 |_=>o
def f6 (id:Nat) (r:Nat→AV):Nat→AV:=fun t=>(r t).forget id
def cY (id:Nat) (m:Mem):Mem:=fun j=>(m j).map (AObj.forget id)
def di (T sz bytes:Nat) (x y:Opd) (id:Nat) (s:St):Option (Bool×AV×St):=
 match bO sz s.m (y.ev s.r) with
 |none=>none
 |some ys=>match x.ev s.r with
  |.nils _ sz'=>match s.m id with
   |none=>if sz'=sz then some (decide (ys.length*bytes≤140737488355328∧ys.length≤9223372036854775807),.slice id 0 ys.length,⟨s.r,upd s.m id (some ⟨T,sz,.row ys,false⟩)⟩) else none
   |some _=>none
  |.slice i 0 n=>match s.m i with
   |some ⟨T',sz',.row l,false⟩=>if sz'=sz∧T'=T∧n=l.length∧i≠aF then
     some (decide ((n+ys.length)*bytes≤140737488355328∧n+ys.length≤9223372036854775807),.slice i 0 (n+ys.length),⟨f6 i s.r,upd (cY i s.m) i (some ⟨T,sz,.row (l++ys),false⟩)⟩) else none
   |_=>none
  |_=>none
end Go.Proofs.YtbnhgnhgbhjkcaaGreat.M
namespace Go.Proofs.YtbnhgnhgbhjkcaaGreat.Mp
set_option linter.unusedSimpArgs false
def grow:TL→Rat×Mo→TL
 |[],t=>if t.1=0 then [] else [t]
 |x::l,t=>if x.2=t.2 then (if x.1+t.1=0 then l else (x.1+t.1,t.2)::l) else x::grow l t
structure Dst (l:TL):Prop where
 ne:l.Pairwise fun x y=>x.2≠y.2
 nz:∀x∈l,x.1≠0
theorem Dst.nil:Dst []:=⟨.nil,by simp⟩
theorem Dst.tail {x:Rat×Mo}{l:TL} (h:Dst (x::l)):Dst l:=⟨(z9g.1 h.ne).2,fun y hy=>h.nz y (z9T _ hy)⟩
theorem qG:∀(l:TL) (t:Rat×Mo) (e:Mo),cf (grow l t) e=cf l e+cf [t] e
 |[],t,e=>by
  unfold grow;split
  ·rename_i h;rw[cf_nil,gz,h];split<;>grind
  ·rw[cf_nil,Rat.zero_add]
 |x::l,t,e=>by
  unfold grow;split
  ·rename_i h;split
   ·rw[cf_cons,gz,h];split<;>grind
   ·rw[cf_cons,cf_cons,gz,h];split<;>grind
  ·rw[cf_cons,qG l t e,cf_cons x l];grind
theorem kq {t:Rat×Mo}:∀{l:TL}{y:Rat×Mo},y∈grow l t→y.2=t.2∨y∈l
 |[],y,h=>by
  unfold grow at h;split at h
  ·cases h
  ·rcases z9L.1 h with rfl | h
   ·exact .inl rfl
   ·cases h
 |x::l,y,h=>by
  unfold grow at h;split at h
  ·split at h
   ·exact .inr (z9T _ h)
   ·rcases z9L.1 h with rfl | h
    ·exact .inl rfl
    ·exact .inr (z9T _ h)
  ·rcases z9L.1 h with rfl | h
   ·exact .inr z9X
   ·rcases kq h with h | h
    ·exact .inl h
    ·exact .inr (z9T _ h)
theorem qH {t:Rat×Mo}:∀{l:TL},Dst l→Dst (grow l t)
 |[],_=>by
  unfold grow;split
  ·exact Dst.nil
  ·rename_i h;exact⟨by simp,by simpa using h⟩
 |x::l,h=>by
  have hs:=z9g.1 h.ne;unfold grow;split
  ·rename_i e;split
   ·exact h.tail
   ·rename_i h0;exact⟨z9g.2 ⟨fun y hy=>by rw[←e];exact hs.1 y hy,hs.2⟩,fun y hy=>by
     rcases z9L.1 hy with rfl | hy
     ·exact h0
     ·exact h.nz y (z9T _ hy)⟩
  ·rename_i e;have ih:=qH (t:=t) h.tail;exact⟨z9g.2 ⟨fun y hy=>by
    rcases kq hy with q | hy
    ·rw[q];exact e
    ·exact hs.1 y hy,ih.ne⟩,fun y hy=>by
    rcases z9L.1 hy with rfl | hy
    ·exact h.nz y z9X
    ·exact ih.nz y hy⟩
theorem CT {n:Nat}{t:Rat×Mo} (ht:t.2.length=n){l:TL} (hw:Wd n l):Wd n (grow l t):=fun y hy=>by
 rcases kq hy with e | hy
 ·rw[e,ht]
 ·exact hw y hy
theorem qJ (t:Rat×Mo):∀l:TL,(grow l t).length≤l.length+1
 |[]=>by unfold grow;split<;>simp
 |x::l=>by
  have:=qJ t l;unfold grow;split
  ·split
   ·simp;omega
   ·simp
  ·simpa using this
theorem grow_skip {t:Rat×Mo}:∀{l m:TL},(∀x∈l,x.2≠t.2)→grow (l++m) t=l++grow m t
 |[],_,_=>rfl
 |x::l,m,h=>by
  rw[List.cons_append,grow,if_neg (h x z9X),grow_skip fun y hy=>h y (z9T _ hy)];rfl
def growL (a l:TL):TL:=l.foldl grow a
theorem growL_cf (e:Mo):∀(l a:TL),cf (growL a l) e=cf a e+cf l e
 |[],a=>by rw[cf_nil,Rat.add_zero];rfl
 |t::l,a=>by
  show cf (growL (grow a t) l) e=_
  rw[growL_cf e l,qG,gz,cf_cons];grind
theorem growL_dst:∀{l a:TL},Dst a→Dst (growL a l)
 |[],_,h=>h
 |t::l,a,h=>growL_dst (l:=l) (a:=grow a t) (qH h)
theorem growL_wd {n:Nat}:∀{l a:TL},Wd n a→Wd n l→Wd n (growL a l)
 |[],_,h,_=>h
 |t::l,a,h,k=>growL_wd (l:=l) (a:=grow a t) (CT (k t z9X) h) k.tail
theorem growL_len:∀(l a:TL),(growL a l).length≤a.length+l.length
 |[],a=>z95 _
 |t::l,a=>by
  have h1:=growL_len l (grow a t);have h2:=qJ t a;have:(growL a (t::l)).length=(growL (grow a t) l).length:=rfl;rw[this,List.length_cons];omega
theorem growL_snoc (a l:TL) (t:Rat×Mo):growL a (l++[t])=grow (growL a l) t:=by simp[growL]
theorem canon_mem {ord:Int}:∀{l:TL}{y:Rat×Mo},y∈canon ord l→∃x∈l,x.2=y.2
 |[],y,h=>by cases h
 |t::l,y,h=>by
  rcases j7 h with e | h
  ·exact⟨t,z9X,e.symm⟩
  ·obtain⟨x,h1,h2⟩:=canon_mem h;exact⟨x,z9T _ h1,h2⟩
theorem canon_pick {ord:Int}{n:Nat}{l:TL}{k:Nat}{x:Rat×Mo} (hw:Wd n l) (hd:Dst l) (hk:l[k]? = some x) (hb:∀j y,j≠k→l[j]? = some y→ahead ord x.2 y.2=true) :
  canon ord l=x::canon ord (l.take k++l.drop (k+1)):=by
 have hkl:k<l.length:=(z98.1 hk).1;have hx:l=l.take k++(x::l.drop (k+1)):=by
  have:l.drop k=x::l.drop (k+1):=by
   rw[z9k hkl];rw[z9P hkl] at hk;rw[Option.some.inj hk]
  rw[←this,z8X]
 have hp:(x::(l.take k++l.drop (k+1))).Perm l:=by
  have:=List.perm_middle (a:=x) (l₁:=l.take k) (l₂:=l.drop (k+1));rw[←hx] at this;exact this.symm
 have hwx:=hw.perm hp;have hr:∀y∈l.take k++l.drop (k+1),ahead ord x.2 y.2=true:=fun y hy=>by
  rcases z9y.1 hy with hy | hy
  ·obtain⟨j,hj,e⟩:=z85.1 hy;rw[z9N] at hj;exact hb j y (by omega) (by rw[←e,List.getElem_take,z9P])
  ·obtain⟨j,hj,e⟩:=z85.1 hy;rw[z86] at hj;exact hb (k+1+j) y (by omega) (by rw[←e,List.getElem_drop,z9P])
 have hc:=i7 (ord:=ord) hwx.tail;refine (my (n:=n) (ord:=ord) ⟨z9g.2 ⟨fun y hy => ?_,hc.so⟩,fun y hy => ?_⟩ (fun y hy => ?_) hw fun e => ?_).symm
 ·obtain⟨z,h1,h2⟩:=canon_mem hy;rw[←h2];exact hr z h1
 ·rcases z9L.1 hy with rfl | hy
  ·exact hd.nz y (z90 hk)
  ·exact hc.nz y hy
 ·rcases z9L.1 hy with rfl | hy
  ·exact hw y (z90 hk)
  ·exact canon_wd hwx.tail y hy
 ·rw[cf_cons,canon_cf,←cf_cons];exact us _ hp
theorem Dst.less {l:TL} (h:Dst l) (k:Nat):Dst (l.take k++l.drop (k+1)):=by
 have hs:(l.take k++l.drop (k+1)).Sublist l:=by
  have e:l.take k++l.drop k=l:=z8X k l;rw[←List.drop_drop (i:=1) (j:=k)]<;>exact (List.Sublist.append (List.Sublist.refl _) (List.drop_sublist 1 _)).trans (by rw[e];exact List.Sublist.refl _)
 exact⟨h.ne.sublist hs,fun x hx=>h.nz x (hs.subset hx)⟩
def addM (a b:Mo):Mo:=List.zipWith (· + ·) a b
def mulL (a b:TL):TL:=a.flatMap fun x=>b.map fun y=>(x.1*y.1,addM x.2 y.2)
theorem qK (f:Mo→Rat) (c:Rat) (g:Mo→Mo):∀l:TL,Sf f (l.map fun x=>(c*x.1,g x.2))=c*Sf (fun e=>f (g e)) l
 |[]=>by rw[List.map_nil,Sf_nil,Sf_nil,Rat.mul_zero]
 |x::l=>by rw[z89,Sf,Sf,qK f c g l];grind
theorem kt (f:Mo→Rat) (b:TL):∀a:TL,Sf f (mulL a b)=Sf (fun e=>Sf (fun q=>f (addM e q)) b) a
 |[]=>rfl
 |x::a=>by
  have ih:=kt f b a;unfold mulL at ih ⊢;rw[List.flatMap_cons,Sf_app,ih,Sf,qK f x.1 (fun q=>addM x.2 q)]
theorem cf_mulL {a a' b b':TL} (ha:∀e,cf a e=cf a' e) (hb:∀e,cf b e=cf b' e) (e:Mo):cf (mulL a b) e=cf (mulL a' b') e:=by
 unfold cf;rw[kt,kt,Sf_eq _ ha];congr 1;funext q;exact Sf_eq _ hb
theorem Wd.mul {n:Nat}{a b:TL} (ha:Wd n a) (hb:Wd n b):Wd n (mulL a b):=fun z hz=>by
 unfold mulL at hz;obtain⟨x,hx,hz⟩:=List.mem_flatMap.1 hz;obtain⟨y,hy,rfl⟩:=z9Q.1 hz;simp[addM,ha x hx,hb y hy]
def pv:List Rat→Mo→Rat
 |x::xs,e::es=>x^e.toNat*pv xs es
 |_,_=>1
theorem pow_add' (x:Rat) (m:Nat):∀n:Nat,x^(m+n)=x^m*x^n
 |0=>by rw[Nat.add_zero,Rat.pow_zero,Rat.mul_one]
 |n+1=>by rw[←Nat.add_assoc,Rat.pow_succ,Rat.pow_succ,pow_add' x m n];grind
theorem qL:∀(xs:List Rat) (a b:Mo),a.length=b.length→(∀x∈a,0≤x)→(∀x∈b,0≤x)→pv xs (addM a b)=pv xs a*pv xs b
 |[],a,b,_,_,_=>by simp[pv,Rat.mul_one]
 |x::xs,[],[],_,_,_=>by simp[pv,addM,Rat.mul_one]
 |x::xs,p::a,q::b,hl,ha,hb=>by
  have hp:=ha p z9X;have hq:=hb q z9X;have ih:=qL xs a b (by simpa using hl) (fun y hy=>ha y (z9T _ hy)) (fun y hy=>hb y (z9T _ hy));have e:addM (p::a) (q::b)=(p+q)::addM a b:=rfl;rw[e,pv,pv,pv,ih,show (p+q).toNat=p.toNat+q.toNat by omega,pow_add'];grind
 |_::_,[],_::_,h,_,_=>by simp at h
 |_::_,_::_,[],h,_,_=>by simp at h
def ev (xs:List Rat) (l:TL):Rat:=Sf (pv xs) l
def Pos (l:TL):Prop:=∀x∈l,∀e∈x.2,0≤e
theorem ev_mul {n:Nat}{xs:List Rat}{a b:TL} (ha:Wd n a) (hb:Wd n b) (pa:Pos a) (pb:Pos b):ev xs (mulL a b)=ev xs a*ev xs b:=by
 unfold ev;rw[kt];rw[oJ (g:=fun e=>Sf (pv xs) b*pv xs e) fun x hx => ?_,oK,Rat.mul_comm];rw[oJ (g:=fun q=>pv xs x.2*pv xs q) fun y hy=>qL xs x.2 y.2 (by rw[ha x hx,hb y hy]) (pa x hx) (pb y hy),oK,Rat.mul_comm]
end Go.Proofs.YtbnhgnhgbhjkcaaGreat.Mp
namespace Go.Proofs.YtbnhgnhgbhjkcaaGreat
set_option linter.unusedSimpArgs false
open Go.RowKit
structure IV where
 n:Bool
 s:SV
def IsI (w:World) (x:IV) (z:Int):Prop:=
 ∃l,IsL w x.s .u32 l∧Norm l∧z=sg x.n (valL l)∧(l=[]→x.n=false)∧Sm z
theorem IsI.keep {w w':World}{x:IV}{z:Int} (h:IsI w x z) (e:Ext w w'):IsI w' x z:=by
 obtain⟨l,h1,h2⟩:=h;exact⟨l,h1.keep e,h2⟩
theorem IsI.kept {w w':World}{x:IV}{z:Int} (h:IsI w x z) (e:bn 173 w w'):IsI w' x z:=by
 obtain⟨l,h1,h2⟩:=h;exact⟨l,h1.kept e,h2⟩
theorem j9 (w:World):IsI w ⟨false,⟨none,0,0⟩⟩ 0:=⟨[],tz w _,.inl rfl,by simp[sg,valL],fun _=>rfl,vP⟩
def g8 (w:World) (z:Int) (e:Ending) (w':World):Prop:=
 ∃x:IV,e = .returned (.agg #[.bool x.n,.slice x.s.a x.s.len x.s.cap])∧IsI w' x z∧Ext w w'
theorem xh {w:World}{neg:Bool}{ao:Option Addr}{cap k:Nat}{l:List Int} (h:IsL w ⟨ao,l.length,cap⟩ .u32 l) (hk:k+1≤l.length)
  (hz:∀j,k+1≤j→at_ l j=0) (hne:at_ l k≠0) (hcm:cap≤9223372036854775807) (hs:Sm (sg neg (valL l))):IsI w ⟨neg,⟨ao,k+1,k+1⟩⟩ (sg neg (valL l)):=by
 have hcap:l.length≤cap:=h.1.2.1;refine⟨l.take (k+1),h.take hk (z95 _) (by omega),.inr ?_,by rw[valL_take hz],fun e => ?_,hs⟩
 ·have:(l.take (k+1)).length-1=k:=by simp;omega
  rw[this];simpa[at_] using hne
 ·have:=congrArg List.length e;rw[z9N,List.length_nil] at this;omega
set_option maxHeartbeats 400000 in
theorem made_any (neg:Bool) (s:SV) (l:List Int) (w:World) (h:IsL w s .u32 l) (hs:Sm (sg neg (valL l))) :
  Calls Tryz.prog 103 #[.bool neg,.slice s.a s.len s.cap] w (g8 w (sg neg (valL l))):=by
 obtain⟨ao,cap,rfl,hcap,hcm,hop⟩:=h.open_;replace hs:=hd_ hs;go_enter Tryz.func103,Tryz.ntmps103;go_wp2;go_loop [5] (fun n => ∃k:Nat,k≤l.length∧n = .int .i64 k∧(∀j,k≤j→at_ l j=0)) (fun n=>(intOf n).toNat)
 case atStart=>exact⟨l.length,z95 _,rfl,fun j hj=>bx hj⟩
 case round =>
  obtain⟨k,hk,rfl,hz⟩:=hrel
  match k,hk,hz with
  |0,hk,hz =>
   have H0:=hd_ (valL_zero (fun j=>hz j (by omega)));clear hz;go_wp2;refine bodyPost_ret (v:=.agg #[.bool false,.slice none 0 0]) (by simp[results,Tryz.results103,go_sem]) rfl ⟨⟨false,⟨none,0,0⟩⟩,rfl,?_,(Ext.rf _).al _⟩;rw[H0.out];cases neg<;>exact j9 _
  |k+1,hk,hz =>
   have Hz:=hd_ hz;clear hz;obtain⟨b,off,rfl,hb,hc⟩:=hop (by omega);have hbl:=hb.lt;have hc:=hc k (by omega);have hf:=h.fit (i:=k) (by omega);by_cases h0:at_ l k=0
   ·have h0':(at_ l k == 0)=true:=by simp[h0]
    have H0:=hd_ h0;clear h0;go_wp2;go_round
    case rel=>exact⟨k,by omega,by go_num,fun j hj=>if e:j=k then by rw[e];exact H0.out else Hz.out j (by omega)⟩
    case measure=>first | (simp[intOf];done) | (simp[intOf];omega)
   ·have h0':(at_ l k == 0)=false:=by simp[h0]
    go_wp2;refine bodyPost_ret (v:=.agg #[.bool neg,.slice (some ⟨b,off,none⟩) (k+1) (k+1)]) (by simp[results,Tryz.results103,go_sem]) rfl ⟨⟨neg,⟨some ⟨b,off,none⟩,k+1,k+1⟩⟩,rfl,?_,?_⟩
    ·exact (xh h hk Hz.out h0 hcm hs.out).keep (((Ext.rf _).al _))
    ·exact (Ext.rf _).al _
theorem IsI.open_ {w:World}{x:IV}{z:Int} (h:IsI w x z):∃l,IsL w x.s .u32 l∧Norm l∧Dig l∧l.length≤274877906945∧z=sg x.n (valL l)∧(l=[]→x.n=false)∧Sm z:=by
 obtain⟨l,h1,h2,h3,h4,h5⟩:=h;refine⟨l,h1,h2,h1.2,?_,h3,h4,h5⟩;have hb:Bt (valL l) ei:=by
  rw[h3] at h5;exact h5.bt.le (by rw[gu];exact z95 _)
 have:=len_of_bt h1.2 h2 hb;rw[iU] at this;omega
set_option linter.unusedSimpArgs false
open Go.RowKit
def Rw (w:World) (base:Nat) (k:IntKind) (s:SV) (l:List Int):Prop:=w.ownsRow base (ET k) 1 (.slice s.a s.len s.cap) l.length (l.map (Value.int k))
section
variable {w w':World}{base:Nat}{k:IntKind}{s:SV}{l:List Int}
theorem Rw.nil_ (w:World) (base:Nat) (k:IntKind):Rw w base k ⟨none,0,0⟩ []:=World.ownsRow_nil _ _ _ _
theorem Rw.len (h:Rw w base k s l):s.len=l.length:=by
 rcases h.2 with⟨hv,hl⟩ | ⟨g,cap,cur,hv,_⟩
 ·injection hv with _ e _;omega
 ·injection hv
theorem Rw.cap_ (h:Rw w base k s l):l.length≤s.cap∧s.cap≤9223372036854775807:=by
 rcases h.2 with⟨hv,hl⟩ | ⟨g,cap,cur,hv,_,_,h1,h2,_⟩
 ·injection hv with _ _ e;omega
 ·injection hv with _ _ e;subst e;exact⟨h1,h2⟩
theorem Rw.keep (h:Rw w base k s l) (e:Ext w w'):Rw w' base k s l:=by
 obtain⟨h1,h2⟩:=h;refine⟨h1,?_⟩;rcases h2 with h2 | ⟨g,cap,cur,hv,hb,hg,rest⟩
 ·exact .inl h2
 ·exact .inr ⟨g,cap,cur,hv,hb,(e.block g (Array.getElem?_eq_some_iff.1 hg).1).trans hg,rest⟩
theorem Rw.al (h:Rw w base k s l) (o:Obj):Rw (w.alloc o) base k s l:=h.keep ((Ext.rf w).al o)
theorem Rw.kept (h:Rw w base k s l) (e:bn (ET k) w w'):Rw w' base k s l:=by
 obtain⟨h1,h2⟩:=h;refine⟨h1,?_⟩;rcases h2 with h2 | ⟨g,cap,cur,hv,hb,hg,rest⟩
 ·exact .inl h2
 ·exact .inr ⟨g,cap,cur,hv,hb,(e g ⟨_,_,hg⟩).trans hg,rest⟩
theorem Rw.open_ (h:Rw w base k s l) (hl:0<l.length):∃g cap,s=⟨some ⟨g,0,none⟩,l.length,cap⟩∧base≤g∧Ty w g (ET k)∧l.length≤cap∧cap≤9223372036854775807 ∧
  (∀j,j<l.length→w.cell? ⟨g,j,none⟩=some (.int k (at_ l j)))∧(∀j,w.frozen? ⟨g,j,none⟩=false):=by
 have h0:=h;rcases h.2 with⟨hv,hn⟩ | ⟨g,cap,cur,hv,hb,hg,h1,h2,_⟩
 ·omega
 ·obtain⟨a,n,c⟩:=s;simp only[Value.slice.injEq] at hv;obtain⟨rfl,rfl,rfl⟩:=hv;refine⟨g,c,rfl,hb,⟨_,_,hg⟩,h1,h2,fun j hj => ?_,fun j=>World.ownsRow.frozenAt h0 j⟩;have:=World.ownsRow.cellAt h0 j (by simpa using hj);rw[this];simp[at_,hj]
theorem Rw.set {g cap:Nat} (h:Rw w base k ⟨some ⟨g,0,none⟩,l.length,cap⟩ l) (j:Nat) (v:Int):Rw (w.setCell ⟨g,j,none⟩ (.int k v)) base k ⟨some ⟨g,0,none⟩,l.length,cap⟩ (l.set j v):=by
 have:=(World.ownsRow.stored h j (.int k v)).1;unfold Rw;rw[z9R,List.map_set];exact this
theorem Rw.set' {g n cap:Nat} (h:Rw w base k ⟨some ⟨g,0,none⟩,n,cap⟩ l) (j:Nat) (v:Int):Rw (w.setCell ⟨g,j,none⟩ (.int k v)) base k ⟨some ⟨g,0,none⟩,n,cap⟩ (l.set j v):=by
 obtain rfl:n=l.length:=h.len;exact h.set j v
theorem Rw.isL (h:Rw w base k s l) (hf:∀x∈l,Fit k x):IsL w s k l:=by
 have h1:=h.len;have h2:=h.cap_;obtain⟨a,n,c⟩:=s;simp only at h1 h2;subst h1;refine IsL.mk_ h2.1 h2.2 (fun hl => ?_) hf;obtain⟨g,cap,he,hb,ht,_,_,hc,_⟩:=h.open_ hl;simp only[SV.mk.injEq] at he;exact⟨g,0,he.1,ht,fun j hj=>by rw[z9o];exact hc j hj⟩
theorem Rw.take {g n cap m:Nat} (h:Rw w base k ⟨some ⟨g,0,none⟩,n,cap⟩ l) (hm:m≤n):Rw w base k ⟨some ⟨g,0,none⟩,m,cap⟩ (l.take m):=by
 obtain rfl:n=l.length:=h.len;have hl:(l.take m).length=m:=by simp;omega
 rcases h.2 with⟨hv,_⟩ | ⟨g',cap',cur,hv,hb,hg,h1,h2,h3,h4⟩
 ·cases hv
 ·simp only[Value.slice.injEq] at hv;obtain⟨e1,-,rfl⟩:=hv;unfold Rw;rw[hl];refine⟨by simp;omega,.inr ⟨g',cap,cur,by rw[e1],hb,hg,by omega,h2,h3,?_⟩⟩;rw[List.map_take,←h4,List.take_take];congr 1;omega
end
theorem eA {P:Program} (w:World){ops:Array Oper}{rest:List Oper}{o:Oper}{a:Act}{Q:Exit→Act→World→Prop} (hgd:o.guard=none) (sl x:Operand) (t:TypeId)
  (ho:o.op = .call { callee:=.builtin .append,args:=#[sl,x],argTypes:=#[t,t] })
  (k:IntKind) (bytes:Nat) (ht:P.underlying t=some (.slice (ET k))) (hinfo:(P.info? (ET k)).map (fun i=>(i.zero,i.size,i.bytes))=some (some (.int k 0),1,bytes))
  (W0:World) (s:SV) (l:List Int) (v:Int) (hs:a.eval sl = .slice s.a s.len s.cap) (hx:a.eval x = .slice (some ⟨w.heap.size,0,none⟩) 1 1) (hown:Rw w W0.heap.size k s l) (hE:Ext W0 w)
  (hb:(l.length+1)*bytes≤140737488355328) (h63:l.length+1≤9223372036854775807)
  (h:∀(s':SV) (w':World),Rw w' W0.heap.size k s' (l++[v])→Ext W0 w'→(∀T,T≠ET k→bn T w w')→wpList P ops Q rest (a.put o.dst (.slice s'.a s'.len s'.cap)) w') :
  wpList P ops Q (o::rest) a (w.alloc (.cells #[.int k v] (ET k))):=by
 obtain⟨i,hi,hz0,hz1,hz2⟩:=info_parts hinfo;refine wpList_append_own _ hgd sl x t ho W0.heap.size (ET k) i _ 1 bytes ht hi hz0 hz1 hz2 rfl (by omega) (.slice s.a s.len s.cap) l.length (l.map (Value.int k)) hs (hown.al _) ⟨w.heap.size,0,none⟩ 1 1 [.int k v] hx rfl
  (by intro j u hu;match j,hu with | 0,hu=>simp at hu;subst hu;simp[Addr.add]) (by intro u hu;simp at hu;subst hu;rfl) h63 hb (z9E hE.size (by simp)) ?_
 intro v' w' hown' hgr hnil;have hform:∃s':SV,v' = .slice s'.a s'.len s'.cap:=by
  rcases hown'.2 with⟨e,_⟩ | ⟨g,cap,cur,e,_⟩
  ·exact⟨⟨none,0,0⟩,e⟩
  ·exact⟨⟨some ⟨g,0,none⟩,_,cap⟩,e⟩
 obtain⟨s',rfl⟩:=hform;refine h s' w' ?_ ((hE.al _).gr hgr ?_) ?_
 ·unfold Rw;rw[z96,z9U];exact hown'
 ·intro g hg;rcases hown.2 with⟨e,_⟩ | ⟨g',cap,cur,e,hb',_⟩
  ·rw[e] at hg;cases hg
  ·rw[e] at hg;simp only[Value.ownBlock,z99] at hg;omega
 ·intro T hT b hb;refine (hgr.block b (by have:=hb.lt;simp;omega) ?_).trans (Below.heap_alloc _ _ _ hb.lt);intro e;rcases hown.2 with⟨e',_⟩ | ⟨g',cap,cur,e',_,hg',_⟩
  ·rw[e'] at e;cases e
  ·rw[e'] at e;simp only[Value.ownBlock,z99] at e;subst e;exact Ty.ne_ hb ⟨_,_,hg'⟩ hT rfl
end Go.Proofs.YtbnhgnhgbhjkcaaGreat
