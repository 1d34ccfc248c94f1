/- Lemmas. -/
import Derived.Test.YtbnhgnhgbhjkcaaGreatL3
import Derived.Test.YtbnhgnhgbhjkcaaGreatL2
namespace Go.Proofs.YtbnhgnhgbhjkcaaGreat
theorem te (l:List Int) (j:Nat):valL l=valL (l.take j)+4294967296^j*valL (l.drop j):=by
 induction j generalizing l with
 |zero=>simp[valL]
 |succ j ih =>
  match l with
  |[]=>simp[valL]
  |x::t =>
   simp only[List.take_succ_cons,List.drop_succ_cons,valL];rw[ih t,Int.pow_succ];grind
theorem Dig.take {l:List Int} (h:Dig l) (j:Nat):Dig (l.take j):=fun x hx=>h x (List.mem_of_mem_take hx)
theorem Dig.drop {l:List Int} (h:Dig l) (j:Nat):Dig (l.drop j):=fun x hx=>h x (List.mem_of_mem_drop hx)
theorem fZ {l:List Int} (h:Dig l) (j:Nat):0≤valL (l.take j)∧valL (l.take j)<4294967296^j:=by
 refine⟨valL_nonneg (h.take j),?_⟩;have h1:=valL_lt (h.take j);have h2:=pow_mono' (i:=(l.take j).length) (j:=j) (by simp;omega);omega
theorem jz (l:List Int) (j:Nat):valL (l.drop j)=at_ l j+4294967296*valL (l.drop (j+1)):=by
 rcases Nat.lt_or_ge j l.length with h | h
 ·rw[List.drop_eq_getElem_cons h,fp h];rfl
 ·rw[List.drop_of_length_le h,List.drop_of_length_le (by omega),bJ h];simp[valL]
theorem tf {l:List Int} (hd:Dig l){k:Nat} (h:valL l<4294967296^k):∀i,k≤i→at_ l i=0:=by
 intro i hi;by_cases h0:at_ l i=0
 ·exact h0
 ·have h1:=valL_ge hd h0;have h2:=pow_mono' hi;omega
theorem tg {l:List Int} (hd:Dig l){k:Nat} (h:∀i,k≤i→at_ l i=0):valL l<4294967296^k:=by
 have h1:=valL_take h;have h2:=fZ hd k;omega
theorem VI (l:List Int) (j i:Nat):at_ (l.drop j) i=at_ l (j+i):=by simp[at_,List.getElem?_drop]
theorem drop_zero {l:List Int}{k:Nat} (h:∀i,k≤i→at_ l i=0):valL (l.drop k)=0:=
 valL_zero fun i=>by rw[VI];exact h _ (by omega)
theorem th {l:List Int}{j n:Nat} (hn:2≤n) (h:∀i,j+n+1≤i→at_ l i=0) :
  valL (l.drop j)=valL ((l.drop j).take (n-2))+4294967296^(n-2)*((at_ l (j+n)*4294967296+at_ l (j+n-1))*4294967296+at_ l (j+n-2)):=by
 rw[te (l.drop j) (n-2)];congr 2
 rw[List.drop_drop,jz,jz,jz,drop_zero (k:=j+(n-2)+1+1+1) (fun i hi=>h i (by omega))];rw[show j+(n-2)+1+1=j+n by omega,show j+(n-2)+1=j+n-1 by omega,show j+(n-2)=j+n-2 by omega];omega
theorem VJ {l:List Int}{n:Nat} (hn:2≤n) (h:l.length=n) :
  valL l=valL (l.take (n-2))+4294967296^(n-2)*(at_ l (n-1)*4294967296+at_ l (n-2)):=by
 have:=th (l:=l) (j:=0) (n:=n) hn (fun i hi=>bJ (by omega));simp only[List.drop_zero,Nat.zero_add] at this;rw[this,bJ (l:=l) (i:=n) (by omega)];rw[Int.zero_mul,Int.zero_add]
section
variable {u0 u1 u2 lu lv top v2 P U V g rest X Y:Int}
structure Places (u0 u1 u2 lu lv top v2 P U V:Int):Prop where
 hU:U=lu+P*((u0*4294967296+u1)*4294967296+u2)
 hV:V=lv+P*(top*4294967296+v2)
 lu0:0≤lu
 lu1:lu<P
 lv0:0≤lv
 lv1:lv<P
 d0:0≤u0∧u0≤4294967295
 d1:0≤u1∧u1≤4294967295
 d2:0≤u2∧u2≤4294967295
 e1:2147483648≤top∧top≤4294967295
 e2:0≤v2∧v2≤4294967295
 lt:U<V*4294967296
theorem Places.top_ (h:Places u0 u1 u2 lu lv top v2 P U V):u0≤top:=by
 obtain⟨hU,hV,a0,a1,b0,b1,d0,d1,d2,e1,e2,lt⟩:=h;refine Int.not_lt.1 fun hc => ?_
 have hX:(top*4294967296+v2+1)*4294967296≤(u0*4294967296+u1)*4294967296+u2:=by omega
 have h1:=Int.mul_le_mul_of_nonneg_left hX (show 0≤P by omega);have h2:P*((top*4294967296+v2+1)*4294967296)=(P*(top*4294967296+v2)+P)*4294967296:=by grind
 rw[h2] at h1;generalize P*(top*4294967296+v2)=p at *;generalize P*((u0*4294967296+u1)*4294967296+u2)=q at *;omega
theorem Places.head (h:Places u0 u1 u2 lu lv top v2 P U V):0≤u0*4294967296+u1∧u0*4294967296+u1≤top*4294967296+4294967295:=by
 have:=h.top_;have:=h.d0;have:=h.d1;omega
theorem Places.start (h:Places u0 u1 u2 lu lv top v2 P U V) :
  (u0*4294967296+u1) / top*top+(u0*4294967296+u1) % top=u0*4294967296+u1∧0≤(u0*4294967296+u1) % top∧(u0*4294967296+u1) % top<top ∧
  0≤(u0*4294967296+u1) / top∧(u0*4294967296+u1) / top≤4294967297∧U<((u0*4294967296+u1) / top+1)*V:=by
 have hh:=h.head;obtain⟨hU,hV,a0,a1,b0,b1,d0,d1,d2,e1,e2,lt⟩:=h;generalize hq:u0*4294967296+u1=q at *;have h1:q / top*top+q % top=q:=by rw[Int.mul_comm];exact Int.mul_ediv_add_emod q top
 have h2:=Int.emod_nonneg q (show top≠0 by omega);have h3:=Int.emod_lt_of_pos q (show 0<top by omega);have h4:0≤q / top:=Int.ediv_nonneg hh.1 (by omega);refine⟨h1,h2,h3,h4,?_,?_⟩
 ·have:q / top<4294967298:=by
   apply Int.ediv_lt_of_lt_mul (by omega);omega
  omega
 ·generalize q / top=g at *;generalize q % top=r at *;have hX:(q*4294967296+u2)+1≤(g+1)*(top*4294967296+v2):=by
   have e:(g+1)*(top*4294967296+v2)=(g*top+top)*4294967296+(g+1)*v2:=by grind
   have e2:0≤(g+1)*v2:=Int.mul_nonneg (by omega) e2.1;rw[e];generalize (g+1)*v2=z at *;generalize g*top=gt at *;omega
  have h5:=Int.mul_le_mul_of_nonneg_left hX (show 0≤P by omega);have h6:P*((g+1)*(top*4294967296+v2))=(g+1)*(P*(top*4294967296+v2)):=by grind
  rw[h6,Int.mul_add,Int.mul_one] at h5;have h7:(g+1)*(P*(top*4294967296+v2))≤(g+1)*V:=Int.mul_le_mul_of_nonneg_left (by omega) (by omega);generalize (g+1)*(P*(top*4294967296+v2))=x at *;generalize (g+1)*V=y at *;generalize P*(q*4294967296+u2)=z at *;omega
theorem Places.dec (h:Places u0 u1 u2 lu lv top v2 P U V) (hg:0≤g) (hr:0≤rest) (hq:g*top+rest=u0*4294967296+u1) (hc:4294967296≤g∨rest*4294967296+u2<g*v2) :
  1≤g∧U<g*V:=by
 obtain⟨hU,hV,a0,a1,b0,b1,d0,d1,d2,e1,e2,lt⟩:=h;have hg1:1≤g:=by
  rcases hc with hc | hc
  ·omega
  ·rcases Int.lt_or_le 0 g with h0 | h0
   ·omega
   ·obtain rfl:g=0:=by omega
    rw[Int.zero_mul] at hc;omega
 refine⟨hg1,?_⟩;have hV0:0≤V:=by
  have:=Int.mul_nonneg (show 0≤P by omega) (show 0≤top*4294967296+v2 by omega);omega
 rcases hc with hc | hc
 ·have h1:4294967296*V≤g*V:=Int.mul_le_mul_of_nonneg_right hc hV0;omega
 ·generalize hq':u0*4294967296+u1=q at *;have hX:(q*4294967296+u2)+1≤g*(top*4294967296+v2):=by
   have e:g*(top*4294967296+v2)=(g*top)*4294967296+g*v2:=by grind
   rw[e];generalize g*v2=z at *;generalize g*top=gt at *;omega
  have h5:=Int.mul_le_mul_of_nonneg_left hX (show 0≤P by omega);have h6:P*(g*(top*4294967296+v2))=g*(P*(top*4294967296+v2)):=by grind
  rw[h6,Int.mul_add,Int.mul_one] at h5;have h7:g*(P*(top*4294967296+v2))≤g*V:=Int.mul_le_mul_of_nonneg_left (by omega) hg;generalize g*(P*(top*4294967296+v2))=x at *;generalize g*V=y at *;generalize P*(q*4294967296+u2)=z at *;omega
theorem Places.stop (h:Places u0 u1 u2 lu lv top v2 P U V) (hg:0≤g) (hq:g*top+rest=u0*4294967296+u1)
  (hc:4294967296≤rest∨(g<4294967296∧g*v2≤rest*4294967296+u2)):g<4294967296∧(g-1)*V≤U:=by
 have hh:=h.head;obtain⟨hU,hV,a0,a1,b0,b1,d0,d1,d2,e1,e2,lt⟩:=h;generalize hq':u0*4294967296+u1=q at *;have hgB:g<4294967296:=by
  rcases hc with hc | hc
  ·refine Int.not_le.1 fun hge => ?_
   have:=Int.mul_le_mul_of_nonneg_right hge (show 0≤top by omega);omega
  ·exact hc.1
 refine⟨hgB,?_⟩;have hX:g*(top*4294967296+v2)≤q*4294967296+u2:=by
  have e:g*(top*4294967296+v2)=(g*top)*4294967296+g*v2:=by grind
  rw[e];rcases hc with hc | hc
  ·have h1:g*v2≤4294967295*4294967295:=Int.mul_le_mul (by omega) e2.2 e2.1 (by omega);generalize g*v2=z at *;generalize g*top=gt at *;omega
  ·have h1:=hc.2;generalize g*v2=z at *;generalize g*top=gt at *;omega
 have hY:0≤top*4294967296+v2:=by omega
 have hPX:0≤P*(q*4294967296+u2):=Int.mul_nonneg (by omega) (by omega);have hPY:0≤P*(top*4294967296+v2):=Int.mul_nonneg (by omega) hY;rcases Int.lt_or_le 0 g with h0 | h0
 ·have h1:(g-1)*V≤(g-1)*(P*(top*4294967296+v2)+P):=Int.mul_le_mul_of_nonneg_left (by omega) (by omega);have h2:(g-1)*(P*(top*4294967296+v2)+P)=P*(g*(top*4294967296+v2)-(top*4294967296+v2)+g-1):=by grind
  have h3:P*(g*(top*4294967296+v2)-(top*4294967296+v2)+g-1)≤P*(q*4294967296+u2):=by
   refine Int.mul_le_mul_of_nonneg_left ?_ (by omega);generalize g*(top*4294967296+v2)=z at *;omega
  rw[h2] at h1;omega
 ·obtain rfl:g=0:=by omega
  omega
end
theorem VK {low Bj U V g bor W Bn:Int} (hlow:0≤low∧low<Bj) (hb:bor=0∨bor=1) (hW:W=low+Bj*U-Bj*(g*V)+Bj*Bn*bor) (hW0:0≤W∧W<Bj*Bn) :
  (bor=0→g*V≤U)∧(bor=1→U<g*V):=by
 constructor
 ·rintro rfl;rw[Int.mul_zero,Int.add_zero] at hW;refine Int.not_lt.1 fun hc => ?_
  have h1:Bj*U+Bj≤Bj*(g*V):=by
   have:=Int.mul_le_mul_of_nonneg_left (show U+1≤g*V by omega) (show 0≤Bj by omega);rw[Int.mul_add,Int.mul_one] at this;exact this
  omega
 ·rintro rfl;rw[Int.mul_one] at hW;refine Int.not_le.1 fun hc => ?_
  have h1:=Int.mul_le_mul_of_nonneg_left hc (show 0≤Bj by omega);omega
theorem VL {low Bj U V g:Int} (hlow:0≤low∧low<Bj) (h:U<(g+1)*V):low+Bj*U-Bj*(g*V)<V*Bj:=by
 have h2:U-g*V+1≤V:=by rw[Int.add_mul,Int.one_mul] at h;omega
 have h1:=Int.mul_le_mul_of_nonneg_left h2 (show 0≤Bj by omega);have e:Bj*(U-g*V+1)=Bj*U-Bj*(g*V)+Bj:=by grind
 have e2:V*Bj=Bj*V:=Int.mul_comm ..;omega
theorem VM {low Bj U V g c W W2 Bn:Int} (hlow:0≤low∧low<Bj) (hc:c=0∨c=1) (hW:W=low+Bj*U-Bj*(g*V)+Bj*Bn) (hW2:W2=W+Bj*V-Bj*Bn*c) (hb:0≤W2∧W2<Bj*Bn) (hle:(g-1)*V≤U) :
  W2=low+Bj*U-Bj*((g-1)*V):=by
 have e:Bj*((g-1)*V)=Bj*(g*V)-Bj*V:=by grind
 have h1:=Int.mul_le_mul_of_nonneg_left hle (show 0≤Bj by omega);rcases hc with rfl | rfl
 ·rw[Int.mul_zero] at hW2;omega
 ·rw[Int.mul_one] at hW2;omega
end Go.Proofs.YtbnhgnhgbhjkcaaGreat
namespace Go.Proofs.YtbnhgnhgbhjkcaaGreat.M
open Go.RowKit
inductive Opd where
 |t (n:Nat)
 |k (v:AV)
def Opd.ev (r:Nat→AV):Opd→AV
 |.t n=>r n
 |.k v=>v
inductive AOp where
 |mov (x:Opd)
 |nilCheck (x:Opd)
 |pick (c a b:Opd)
 |alloc (T sz:Nat) (z:AV)
 |box (T sz:Nat) (x:Opd)
 |build (z:List AV) (parts:List (Nat×Nat×Opd))
 |buildSlice (T sz:Nat) (z:D) (n:Nat) (parts:List (Nat×Opd))
 |buildSliceF (T sz:Nat) (z:D) (n:Nat) (parts:List (Nat×Opd))
 |buildSliceP (T sz:Nat) (z:D) (n:Nat) (parts:List (Nat×Opd))
 |load (ag:Bool) (sz:Nat) (x:Opd)
 |loadP (ag:Bool) (sz:Nat) (x:Opd)
 |indexAddrP (sz:Nat) (x i:Opd)
 |store (sz:Nat) (x v:Opd)
 |bin (bo:Bool) (op:BinOp) (x y:Opd)
 |eqs (n:Nat) (neg:Bool) (x y:Opd)
 |un (op:UnOp) (x:Opd)
 |conv (k:IntKind) (x:Opd)
 |strB (x:Opd)
 |bytS (T:TypeId) (x:Opd)
 |makeSlice (T sz bytes:Nat) (z:D) (l c:Opd)
 |slice (sz:Nat) (x:Opd) (lo hi mx:Option Opd)
 |sliceS (x:Opd) (lo hi:Option Opd)
 |fieldAddr (off sz:Nat) (ag:Bool) (x:Opd)
 |field (off sz:Nat) (ag:Bool) (x:Opd)
 |indexAddr (sz:Nat) (x i:Opd)
 |index (x i:Opd)
 |extract (x:Opd) (i:Nat)
 |len (x:Opd)
 |cap (x:Opd)
 |lenS (x:Opd)
 |mm (mx:Bool) (x y:Opd)
 |append (T sz bytes:Nat) (x y:Opd)
 |appendF (T sz bytes:Nat) (x y:Opd)
 |appZ (T sz bytes:Nat) (z:D) (x n:Opd)
 |call (f:FuncId) (args:List Opd)
 |fnv (fn:Fn) (first captured:List Opd)
 |callL (f:FuncId) (k:Nat) (args:List Opd)
 |callv (fs:List FuncId) (x:Opd) (args:List Opd)
 |callN (f:FuncId) (T:TypeId) (args:List Opd)
 |callW (f:FuncId) (A:List TypeId) (args:List Opd)
 |sliceA (n:Nat) (x:Opd) (lo hi mx:Option Opd)
 |copyA (x y:Opd)
 |isNil (neg:Bool) (x:Opd)
 |clearS (sz:Nat) (z:D) (x:Opd)
 |indexAddrA (n esz:Nat) (ag:Bool) (x i:Opd)
 |indexA (n esz:Nat) (ag:Bool) (x i:Opd)
 |copyS (T sz bytes:Nat) (y:Opd)
 |copyF (T sz bytes:Nat) (y:Opd)
 |bad
def inK:IntKind→Int→Bool
 |.i8,n=>decide (-128≤n∧n≤127)
 |.i16,n=>decide (-32768≤n∧n≤32767)
 |.i32,n=>decide (-2147483648≤n∧n≤2147483647)
 |.i64,n=>decide (-9223372036854775808≤n∧n≤9223372036854775807)
 |.u8,n=>decide (0≤n∧n≤255)
 |.u16,n=>decide (0≤n∧n≤65535)
 |.u32,n=>decide (0≤n∧n≤4294967295)
 |.u64,n=>decide (0≤n∧n≤18446744073709551615)
def gg (l:List D) (off sz:Nat) (ag:Bool):Option D:=
 if ag then (if off+sz≤l.length then some (.agg ((l.drop off).take sz)) else none) else l[off]?
def jM (l:List AV) (off sz:Nat) (ag:Bool):Option AV:=
 if ag then (if off+sz≤l.length then some (.agg ((l.drop off).take sz)) else none) else l[off]?
def D.part (d:D) (off sz:Nat) (ag:Bool):Option D:=gg d.cells off sz ag
def AV.part (v:AV) (off sz:Nat) (ag:Bool):Option AV:=
 match v with
 |.p d=>(d.part off sz ag).map .p
 |v=>jM v.cells off sz ag
def AV.get (v:AV) (off sz osz:Nat) (ag:Bool):Option AV:=
 if off=0∧sz=osz∧v.isAgg=some ag then some v else v.part off sz ag
mutual
def AV.pure:AV→Option D
 |.p d=>some d
 |.nils T sz=>some (.list T sz [])
 |.agg l=>(cW l).map .agg
 |_=>none
def cW:List AV→Option (List D)
 |[]=>some []
 |v::l=>match v.pure,cW l with
  |some d,some ds=>some (d::ds)
  |_,_=>none
end
def AV.mk (l:List AV):AV:=match cW l with
 |some ds => .p (.agg ds)
 |none => .agg l
mutual
def AV.toD (any:Bool) (M:Mem):Nat→AV→Option D
 |0,_=>none
 |n+1,v=>match v with
  |.p d=>some d
  |.nils T sz=>some (.list T sz [])
  |.agg l=>(dg any M n l).map .agg
  |.tup l=>(dg any M n l).map .tup
  |.slice id off len=>match M id with
   |some o=>match o.cont with
    |.row l=>if (o.frz||any)&&decide (off+len≤l.length) then some (.list o.T o.sz ((l.drop off).take len)) else none
    |_=>none
   |none=>none
  |.ptr id i off=>if i=0∧off=0 then match M id with
   |some o=>match o.cont with
    |.box v=>if o.frz||any then (AV.toD any M n v).map .ref else none
    |_=>none
   |none=>none else none
  |.arr id off len=>match M id with
   |some o=>match o.cont with
    |.box (.p d)=>if (o.frz||any)&&decide (off+len≤d.cells.length)&&decide (len≤9223372036854775807) then some (.list 1000000 1 ((d.cells.drop off).take len)) else none
    |_=>none
   |none=>none
  |.und=>none
def dg (any:Bool) (M:Mem):Nat→List AV→Option (List D)
 |0,_=>none
 |n+1,l=>match l with
  |[]=>some []
  |v::l=>match AV.toD any M n v,dg any M n l with
   |some d,some ds=>some (d::ds)
   |_,_=>none
end
def asI:AV→Option Int
 |.p (.int _ n)=>some n
 |_=>none
def dI (op:BinOp) (a b:Nat):Nat:=match op with
 |.and=>a &&& b
 |.or=>a ||| b
 |.xor=>a ^^^ b
 |_=>a ^^^ (a &&& b)
def eN (k:IntKind) (a b:Int):Bool:=decide (0≤a∧0≤b)&&inK k a&&inK k b
def aP (op:BinOp):D→D→Option (Bool×D)
 |.int k a,.int k' b =>
  match op with
  |.shl=>some (decide (0≤b∧b<k.bits)&&inK k (a*2^b.toNat),.int k (a*2^b.toNat))
  |.shr=>some (decide (0≤b∧b<k.bits),.int k (a / 2^b.toNat))
  |op=>if k=k' then
   match op with
   |.add=>some (inK k (a+b),.int k (a+b))
   |.sub=>some (inK k (a-b),.int k (a-b))
   |.mul=>some (inK k (a*b),.int k (a*b))
   |.quo=>some (decide (b≠0)&&inK k (a.tdiv b),.int k (a.tdiv b))
   |.rem=>some (decide (b≠0),.int k (a.tmod b))
   |.and=>some (eN k a b,.int k (dI .and a.toNat b.toNat:Nat))
   |.or=>some (eN k a b,.int k (dI .or a.toNat b.toNat:Nat))
   |.xor=>some (eN k a b,.int k (dI .xor a.toNat b.toNat:Nat))
   |.andNot=>some (eN k a b,.int k (dI .andNot a.toNat b.toNat:Nat))
   |.eql=>some (true,.bool (decide (a=b)))
   |.neq=>some (true,.bool (!decide (a=b)))
   |.lss=>some (true,.bool (decide (a<b)))
   |.leq=>some (true,.bool (decide (a≤b)))
   |.gtr=>some (true,.bool (decide (b<a)))
   |.geq=>some (true,.bool (decide (b≤a)))
   |_=>none
   else none
 |.str a,.str b =>
  match op with
  |.add=>some (decide (a.length+b.length≤9223372036854775807),.str (a++b))
  |.eql=>some (true,.bool (decide (a=b)))
  |.neq=>some (true,.bool (!decide (a=b)))
  |_=>none
 |.bool a,.bool b =>
  match op with
  |.eql=>some (true,.bool (a == b))
  |.neq=>some (true,.bool (!(a == b)))
  |_=>none
 |_,_=>none
def D.isBool:D→Bool
 |.bool _=>true
 |_=>false
def aQ:List D→Option (List IntKind×List Int)
 |[]=>some ([],[])
 |.int k n::l=>(aQ l).map fun p=>(k::p.1,n::p.2)
 |_=>none
def unD (op:UnOp):D→Option (Bool×D)
 |.int k a=>match op with
  |.neg=>some (inK k (-a),.int k (-a))
  |_=>none
 |.bool a=>match op with
  |.not=>some (true,.bool (!a))
  |_=>none
 |_=>none
def cJ (cells:List AV) (r:Nat→AV):List (Nat×Nat×Opd)→Option (List AV)
 |[]=>some cells
 |(off,sz,x)::rest =>
  if (x.ev r).cells.length=sz∧off+sz≤cells.length∧(x.ev r).cells.all AV.one=true then cJ (cells.take off++(x.ev r).cells++cells.drop (off+sz)) r rest else none
def cX (sz:Nat) (l:List D) (r:Nat→AV) (M:Mem):List (Nat×Opd)→Option (List D)
 |[]=>some l
 |(i,x)::rest=>match (x.ev r).toD false M 20 with
  |some d=>if d.cells.length=sz∧d.cells.all D.one=true∧i<l.length then cX sz (l.set i d) r M rest else none
  |none=>none
def eu (sz:Nat) (l:List D) (r:Nat→AV):List (Nat×Opd)→Option (List D)
 |[]=>some l
 |(i,x)::rest=>match x.ev r with
  |.p d=>if d.cells.length=sz∧d.cells.all D.one=true∧i<l.length then eu sz (l.set i d) r rest else none
  |_=>none
def cd (r:Nat→AV) (len:Nat) (lo hi mx:Option Opd):Option (Bool×Nat×Nat):=
 match (match lo with | none=>some 0 | some x=>asI (x.ev r)),(match hi with | none=>some (len:Int) | some x=>asI (x.ev r)) with
 |some l,some h=>match mx with
  |none=>some (decide (0≤l∧l≤h∧h≤len),l.toNat,h.toNat)
  |some y=>match asI (y.ev r) with
   |some m=>some (decide (0≤l∧l≤h∧h≤m∧m≤len),l.toNat,h.toNat)
   |none=>none
 |_,_=>none
mutual
def AV.forget (id:Nat):AV→AV
 |.slice i off len=>if i=id then .und else .slice i off len
 |.ptr i j off=>if i=id then .und else .ptr i j off
 |.arr i j off=>if i=id then .und else .arr i j off
 |.agg l=>match iO id l with
  |some l => .agg l
  |none => .und
 |.tup l=>match iO id l with
  |some l => .tup l
  |none => .und
 |v=>v
def iO (id:Nat):List AV→Option (List AV)
 |[]=>some []
 |v::l=>match v.forget id,iO id l with
  |.und,_=>none
  |v,some l=>some (v::l)
  |_,none=>none
end
def bQ (sz:Nat) (m:Mem):AV→Option (List D)
 |.slice j off n=>match m j with
  |some ⟨_,sz',.row l,_⟩=>if sz'=sz∧off+n≤l.length then some ((l.drop off).take n) else none
  |_=>none
 |.p (.list _ sz' l)=>if sz'=sz then some l else none
 |.nils _ sz'=>if sz'=sz then some [] else none
 |_=>none
def cM (r:Nat→AV) (M:Mem):List Opd→Option (List D)
 |[]=>some []
 |x::l=>match (x.ev r).toD false M 20,cM r M l with
  |some d,some ds=>some (d::ds)
  |_,_=>none
def iP:List D→Option (List UInt8)
 |[]=>some []
 |.int .u8 n::l=>if 0≤n∧n≤255 then (iP l).map (UInt8.ofNat n.toNat::·) else none
 |_=>none
def ev (o:AOp) (id:Nat) (s:St):Option (Bool×AV×St):=
 match o with
 |.mov x=>some (true,x.ev s.r,s)
 |.nilCheck x=>match x.ev s.r with
  |.ptr i j o=>some (true,.ptr i j o,s)
  |.p (.ref d)=>some (true,.p (.ref d),s)
  |_=>none
 |.pick c a b=>match c.ev s.r with
  |.p (.bool true)=>some (true,a.ev s.r,s)
  |.p (.bool false)=>some (true,b.ev s.r,s)
  |_=>none
 |.alloc T sz z=>match s.m id with
  |none=>some (true,.ptr id 0 0,⟨s.r,upd s.m id (some ⟨T,sz,.box z,false⟩)⟩)
  |some _=>none
 |.box T sz x=>match s.m id with
  |none=>if (x.ev s.r).cells.length=sz∧(x.ev s.r).cells.all AV.one=true then some (true,.ptr id 0 0,⟨s.r,upd s.m id (some ⟨T,sz,.box (x.ev s.r),false⟩)⟩) else none
  |some _=>none
 |.build z parts=>match cJ z s.r parts with
  |some l=>some (true,AV.mk l,s)
  |none=>none
 |.buildSlice T sz z n parts=>match s.m id with
  |none=>match cX sz (List.replicate n z) s.r s.m parts with
   |some l=>some (true,.slice id 0 n,⟨s.r,upd s.m id (some ⟨T,sz,.row l,false⟩)⟩)
   |none=>none
  |some _=>none
 |.buildSliceP T sz z n parts=>match s.m id with
  |none=>match eu sz (List.replicate n z) s.r parts with
   |some l=>some (true,.slice id 0 n,⟨s.r,upd s.m id (some ⟨T,sz,.row l,false⟩)⟩)
   |none=>none
  |some _=>none
 |.buildSliceF T sz z n parts=>if id=aS then none else match s.m id with
  |none=>match cX sz (List.replicate n z) s.r s.m parts with
   |some l=>some (true,.slice id 0 n,⟨s.r,upd s.m id (some ⟨T,sz,.row l,true⟩)⟩)
   |none=>none
  |some _=>none
 |.loadP ag sz x=>match x.ev s.r with
  |.p (.ref d)=>if d.isAgg=ag then some (decide (d.cells.length=sz∧0<sz),.p d,s) else none
  |_=>none
 |.indexAddrP sz x i=>match x.ev s.r,asI (i.ev s.r) with
  |.p (.list _ sz' t),some n=>if sz=sz' then some (decide (0≤n∧n<t.length),.p (.ref (t.getD n.toNat default)),s) else none
  |_,_=>none
 |.load ag sz x=>match x.ev s.r with
  |.ptr i j off=>match s.m i with
   |some ⟨_,osz,.row l,_⟩=>match (AV.p (l.getD j default)).get off sz osz ag with
    |some v=>some (decide (j<l.length),v,s)
    |none=>none
   |some ⟨_,osz,.box v,_⟩=>if j=0 then match v.get off sz osz ag with
    |some u=>some (true,u,s)
    |none=>none else none
   |_=>none
  |.p (.ref d)=>if d.isAgg=ag then some (decide (d.cells.length=sz∧0<sz),.p d,s) else none
  |_=>none
 |.store sz x v=>match x.ev s.r with
  |.ptr i j off=>match s.m i with
   |some ⟨T,osz,.row l,false⟩=>match (v.ev s.r).toD false s.m 20 with
    |some d=>if d.cells.length=sz∧d.cells.all D.one=true then
      (
       if off=0∧sz=osz then some (decide (j<l.length),.und,⟨s.r,upd s.m i (some ⟨T,osz,.row (l.set j d),false⟩)⟩)
       else if off+sz≤osz then some (decide (j<l.length),.und,⟨s.r,upd s.m i (some ⟨T,osz,.row (l.set j (.agg ((l.getD j default).cells.take off++d.cells++(l.getD j default).cells.drop (off+sz)))),false⟩)⟩) else none) else none
    |none=>none
   |some ⟨T,osz,.box u,false⟩=>if (v.ev s.r).cells.length=sz∧(v.ev s.r).cells.all AV.one=true∧j=0 then
     (
      if off=0∧sz=osz then some (true,.und,⟨s.r,upd s.m i (some ⟨T,osz,.box (v.ev s.r),false⟩)⟩)
      else if off+sz≤osz then some (true,.und,⟨s.r,upd s.m i (some ⟨T,osz,.box (AV.mk (u.cells.take off++(v.ev s.r).cells++u.cells.drop (off+sz))),false⟩)⟩) else none) else none
   |some ⟨T,osz,.junk,false⟩=>if (v.ev s.r).cells.length=sz∧(v.ev s.r).cells.all AV.one=true∧j=0 then
     (if off=0∧sz=osz then some (true,.und,⟨s.r,upd s.m i (some ⟨T,osz,.box (v.ev s.r),false⟩)⟩) else none) else none
   |_=>none
  |_=>none
 |.bin bo op x y=>match x.ev s.r,y.ev s.r with
  |.p a,.p b=>if a.isBool=bo then match aP op a b with
   |some (c,d)=>some (c,.p d,s)
   |none=>none else none
  |_,_=>none
 |.eqs n neg x y=>match x.ev s.r,y.ev s.r with
  |.p (.agg a),.p (.agg b)=>match aQ a,aQ b with
   |some (k,l),some (k',m)=>if k=k'∧k.length=n then some (true,.p (.bool (if neg then !decide (l=m) else decide (l=m))),s) else none
   |_,_=>none
  |_,_=>none
 |.un op x=>match x.ev s.r with
  |.p a=>match unD op a with
   |some (c,d)=>some (c,.p d,s)
   |none=>none
  |_=>none
 |.conv k x=>match x.ev s.r with
  |.p (.int _ n)=>some (inK k n,.p (.int k n),s)
  |_=>none
 |.strB x=>match bQ 1 s.m (x.ev s.r) with
  |some ys=>match iP ys with
   |some b=>some (true,.p (.str b),s)
   |none=>none
  |none=>none
 |.bytS T x=>match s.m id with
  |none=>match x.ev s.r with
   |.p (.str t)=>some (decide (t.length≤9223372036854775807),.slice id 0 t.length,⟨s.r,upd s.m id (some ⟨T,1,.row (t.map fun b => .int .u8 b.toNat),false⟩)⟩)
   |_=>none
  |some _=>none
 |.makeSlice T sz bytes z l c=>match s.m id with
  |none=>match asI (l.ev s.r),asI (c.ev s.r) with
   |some n,some m=>some (decide (0≤n∧n=m∧bytes*n≤281474976710656∧n≤9223372036854775807),.slice id 0 n.toNat,⟨s.r,upd s.m id (some ⟨T,sz,.row (List.replicate n.toNat z),false⟩)⟩)
   |_,_=>none
  |some _=>none
 |.appZ T sz bytes z x n=>match s.m id with
  |none=>match x.ev s.r,asI (n.ev s.r) with
   |.nils _ sz',some k=>if sz'=sz∧0<sz then some (decide (0<k∧bytes*k≤140737488355328∧k≤9223372036854775807),.slice id 0 k.toNat,⟨s.r,upd s.m id (some ⟨T,sz,.row (List.replicate k.toNat z),false⟩)⟩) else none
   |_,_=>none
  |some _=>none
 |.sliceS x lo hi=>match x.ev s.r with
  |.p (.str t)=>match cd s.r t.length lo hi none with
   |some (c,l,h)=>some (c,.p (.str ((t.drop l).take (h-l))),s)
   |none=>none
  |_=>none
 |.slice sz x lo hi mx=>match x.ev s.r with
  |.p (.list T sz' t)=>if sz=sz' then match cd s.r t.length lo hi mx with
   |some (c,l,h)=>some (c,.p (.list T sz ((t.drop l).take (h-l))),s)
   |none=>none else none
  |.slice i off len=>match s.m i with
   |some o=>if o.sz=sz then match cd s.r len lo hi mx with
    |some (c,l,h)=>some (c,.slice i (off+l) (h-l),s)
    |none=>none else none
   |none=>none
  |.nils T sz=>match cd s.r 0 lo hi mx with
   |some (c,_,_)=>some (c,.nils T sz,s)
   |none=>none
  |.p (.nils T sz)=>match cd s.r 0 lo hi mx with
   |some (c,_,_)=>some (c,.nils T sz,s)
   |none=>none
  |.arr i off len=>if sz=1 then match cd s.r len lo hi mx with
   |some (c,l,h)=>some (c,.arr i (off+l) (h-l),s)
   |none=>none else none
  |_=>none
 |.fieldAddr off sz ag x=>match x.ev s.r with
  |.ptr i j o=>some (true,.ptr i j (o+off),s)
  |.p (.ref d)=>match d.part off sz ag with
   |some e=>some (true,.p (.ref e),s)
   |none=>none
  |_=>none
 |.field off sz ag x=>if (x.ev s.r).isAgg=some true then match (x.ev s.r).part off sz ag with
  |some v=>some (true,v,s)
  |none=>none else none
 |.indexAddr sz x i=>match x.ev s.r,asI (i.ev s.r) with
  |.p (.list _ sz' t),some n=>if sz=sz' then some (decide (0≤n∧n<t.length),.p (.ref (t.getD n.toNat default)),s) else none
  |.slice j off len,some n=>match s.m j with
   |some o=>if o.sz=sz then some (decide (0≤n∧n<len),.ptr j (off+n.toNat) 0,s) else none
   |none=>none
  |.arr j off len,some n=>if sz=1 then some (decide (0≤n∧n<len),.ptr j 0 (off+n.toNat),s) else none
  |_,_=>none
 |.sliceA n x lo hi mx=>match x.ev s.r with
  |.ptr i 0 off=>match s.m i with
   |some ⟨_,osz,.box _,_⟩=>if off+n≤osz∧n≤9223372036854775807 then match cd s.r n lo hi mx with
    |some (c,l,h)=>some (c,.arr i (off+l) (h-l),s)
    |none=>none else none
   |_=>none
  |_=>none
 |.clearS sz z x=>match x.ev s.r with
  |.slice i off len=>match s.m i with
   |some ⟨T,osz,.row l,false⟩=>if osz=sz then some (decide (off+len≤l.length),.und,⟨s.r,upd s.m i (some ⟨T,osz,.row (l.take off++List.replicate len z++l.drop (off+len)),false⟩)⟩) else none
   |_=>none
  |_=>none
 |.copyA x y=>match x.ev s.r,bQ 1 s.m (y.ev s.r) with
  |.arr i off len,some ys=>match s.m i with
   |some ⟨T,osz,.box u,false⟩=>if off+len≤osz∧ys.all D.one=true then
     some (decide (ys.length≤len),.p (.int .i64 (ys.length:Nat)),⟨s.r,upd s.m i (some ⟨T,osz,.box (AV.mk (u.cells.take off++ys.map .p++u.cells.drop (off+ys.length))),false⟩)⟩) else none
   |_=>none
  |_,_=>none
 |.indexAddrA n esz ag x i=>match x.ev s.r,asI (i.ev s.r) with
  |.ptr j k off,some q=>some (decide (0≤q∧q<n),.ptr j k (off+q.toNat*esz),s)
  |.p (.ref d),some q=>match d.part (q.toNat*esz) esz ag with
   |some e=>some (decide (0≤q∧q<n),.p (.ref e),s)
   |none=>none
  |_,_=>none
 |.indexA n esz ag x i=>match asI (i.ev s.r) with
  |some q=>if (x.ev s.r).isAgg=some true then match (x.ev s.r).part (q.toNat*esz) esz ag with
   |some v=>some (decide (0≤q∧q<n),v,s)
   |none=>none else none
  |none=>none
 |.copyS T sz bytes y=>match s.m id,bQ sz s.m (y.ev s.r) with
  |none,some ys=>some (decide (ys.length*bytes≤140737488355328∧ys.length≤9223372036854775807),.slice id 0 ys.length,⟨s.r,upd s.m id (some ⟨T,sz,.row ys,false⟩)⟩)
  |_,_=>none
 |.copyF T sz bytes y=>if id=aS then none else match s.m id,bQ sz s.m (y.ev s.r) with
  |none,some ys=>some (decide (ys.length*bytes≤140737488355328∧ys.length≤9223372036854775807),.slice id 0 ys.length,⟨s.r,upd s.m id (some ⟨T,sz,.row ys,true⟩)⟩)
  |_,_=>none
 |.fnv fn x y=>match cM s.r s.m x,cM s.r s.m y with
  |some l,some k=>some (true,.p (.fn fn l k),s)
  |_,_=>none
 |.index x i=>match x.ev s.r,asI (i.ev s.r) with
  |.p (.str t),some n=>some (decide (0≤n∧n<t.length),.p (.int .u8 ((t.getD n.toNat 0).toNat:Int)),s)
  |_,_=>none
 |.extract x i=>match x.ev s.r with
  |.p (.tup l)=>(l[i]?).map fun d=>(true,.p d,s)
  |.tup l=>(l[i]?).map fun d=>(true,d,s)
  |_=>none
 |.mm mx x y=>match x.ev s.r,y.ev s.r with
  |.p (.int k p),.p (.int k' q)=>if k=k' then some (true,.p (.int k (if mx then (if q > p then q else p) else (if q<p then q else p))),s) else none
  |_,_=>none
 |.lenS x=>match x.ev s.r with
  |.p (.str t)=>some (true,.p (.int .i64 t.length),s)
  |_=>none
 |.cap x=>match x.ev s.r with
  |.p (.nils _ _)=>some (true,.p (.int .i64 (0:Nat)),s)
  |_=>none
 |.len x=>match x.ev s.r with
  |.p (.nils _ _)=>some (true,.p (.int .i64 (0:Nat)),s)
  |.p (.list _ _ t)=>some (true,.p (.int .i64 t.length),s)
  |.slice _ _ n=>some (true,.p (.int .i64 n),s)
  |.nils _ _=>some (true,.p (.int .i64 0),s)
  |.arr _ _ n=>some (true,.p (.int .i64 n),s)
  |_=>none
 |_=>none
def cY (id:Nat) (s:St):St:=if id=aS then s else match s.m id with
 |some o=>⟨s.r,upd s.m id (some ⟨o.T,o.sz,o.cont,true⟩)⟩
 |none=>s
def AObj.forget (id:Nat) (o:AObj):AObj:=match o.cont with
 |.box v=>match v.forget id with
  |.und=>⟨o.T,o.sz,.junk,o.frz⟩
  |u=>⟨o.T,o.sz,.box u,o.frz⟩
 |_=>o
def gh (id:Nat) (r:Nat→AV):Nat→AV:=fun t=>(r t).forget id
def cZ (id:Nat) (m:Mem):Mem:=fun j=>(m j).map (AObj.forget id)
def d8 (T sz bytes:Nat) (x y:Opd) (id:Nat) (s:St):Option (Bool×AV×St):=
 match bQ sz s.m (y.ev s.r) with
 |none=>none
 |some ys=>match x.ev s.r with
  |.nils _ sz'=>match s.m id with
   |none=>if sz'=sz then some (decide (ys.length*bytes≤140737488355328∧ys.length≤9223372036854775807),.slice id 0 ys.length,⟨s.r,upd s.m id (some ⟨T,sz,.row ys,false⟩)⟩) else none
   |some _=>none
  |.slice i 0 n=>match s.m i with
   |some ⟨T',sz',.row l,false⟩=>if sz'=sz∧T'=T∧n=l.length∧i≠aS then
     some (decide ((n+ys.length)*bytes≤140737488355328∧n+ys.length≤9223372036854775807),.slice i 0 (n+ys.length),⟨gh i s.r,upd (cZ i s.m) i (some ⟨T,sz,.row (l++ys),false⟩)⟩) else none
   |_=>none
  |_=>none
end Go.Proofs.YtbnhgnhgbhjkcaaGreat.M
