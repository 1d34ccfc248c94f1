/- Lemmas. -/
import Derived.Test.YtdchbabgopglcaaC20
set_option linter.defProp false
namespace Go.Proofs.Ytdchbabgopglcaa.M
open Go.RowKit
theorem NM (G:FuncId→List D→D→Prop) (dd:Option Nat) (f:FuncId) (k:Nat) (args:List Opd) (g:Option (Nat×Bool)) (K:St→Prop) (s:St):au G ⟨dd,.callL f k args,g⟩ K s=(match eB s k args with
  |.slice i 0 n=>match s.m i with
   |some ⟨T,sz,.row l,false⟩=>match df s (.list T sz l) k args with
    |some ds=>n=l.length∧∃r l',G (f+LB*(k+1)) ds (.tup [r,.list T sz l'])∧K ((⟨s.r,upd s.m i (some ⟨T,sz,.row l',false⟩)⟩:St).put dd (if l=[] then .p (ee T sz r) else fc i r))
    |none=>False
   |_=>False
  |.p (.list T sz [])=>match aV s args with
   |some ds => ∃r l',G (f+LB*(k+1)) ds (.tup [r,.list T sz l'])∧K (s.put dd (.p (ee T sz r)))
   |none=>False
  |.p (.list _ _ (_::_))=>match aV s args with
   |some ds => ∃d,G f ds d∧K (s.put dd (.p d))
   |none=>False
  |_=>False):=rfl
theorem NN (G:FuncId→List D→D→Prop) (dd:Option Nat) (fs:List FuncId) (x:Opd) (args:List Opd) (g:Option (Nat×Bool)) (K:St→Prop) (s:St):au G ⟨dd,.callv fs x args,g⟩ K s=(match (x.ev s.r).toD false s.m 20,aV s args with
  |some (.fn (.func f) a b),some ds=>fs.contains f=true∧∃d,G f (a++ds++b) d∧K (s.put dd (.p d))
  |_,_=>False):=rfl
theorem NO (G:FuncId→List D→D→Prop) (dd:Option Nat) (f:FuncId) (T:TypeId) (args:List Opd) (g:Option (Nat×Bool)) (K:St→Prop) (s:St):au G ⟨dd,.callN f T args,g⟩ K s=(match aV s args with
  |some ds=>match s.m (dd.getD 0) with
   |none => ∃sz l,G (f+LB*(8+1)) ds (.list T sz l)∧K ((⟨s.r,upd s.m (dd.getD 0) (some ⟨T,sz,.row l,false⟩)⟩:St).put dd (.slice (dd.getD 0) 0 l.length))
   |some _=>False
  |none=>False):=rfl
theorem NP (G:FuncId→List D→D→Prop) (dd:Option Nat) (f:FuncId) (B:List TypeId) (args:List Opd) (g:Option (Nat×Bool)) (K:St→Prop) (s:St):au G ⟨dd,.callW f B args,g⟩ K s=(match aV s args with
  |some ds=>(∀id o,s.m id=some o→o.frz=true∨o.T ∉ B)∧∃d,G (f+LB*(9+1)) (.tup (B.map fun T => .int .i64 (T:Nat))::ds) d∧K (s.put dd (.p d))
  |none=>False):=rfl
theorem NQ (s:St) (x:Opd) (l:List Opd):eB s 0 (x::l)=x.ev s.r:=rfl
theorem NR (s:St) (x y:Opd) (l:List Opd):eB s 1 (x::y::l)=y.ev s.r:=rfl
theorem NS (s:St) (d:D) (x:Opd) (l:List Opd):df s d 0 (x::l)=(match aV s l with
  |some ds=>some (d::ds)
  |none=>none):=rfl
theorem NT (s:St) (d:D) (x y:Opd) (l:List Opd):df s d 1 (x::y::l)=(match (x.ev s.r).toD false s.m 20,(match aV s l with
  |some ds=>some (d::ds)
  |none=>none) with
  |some e,some es=>some (e::es)
  |_,_=>none):=rfl
theorem NU (i:Nat) (m:Int):fc i (.tup [.int .i64 m]) = .slice i 0 m.toNat:=rfl
theorem NV (i:Nat):fc i (.tup []) = .p (.tup []):=rfl
theorem NW (i:Nat) (k:IntKind) (m:Int):fc i (.int k m) = .p (.int k m):=rfl
theorem NX (T sz:Nat) (m:Int):ee T sz (.tup [.int .i64 m]) = .list T sz []:=rfl
theorem NY (T sz:Nat):ee T sz (.tup []) = .tup []:=rfl
theorem lT (T sz:Nat) (l:List D) (a b:D):cm 0 T sz l [a,b]=⟨av [(0,.slice 999999 0 l.length),(1,.p b)],az [(999999,⟨T,sz,.row l,false⟩)]⟩:=by
 unfold cm;congr 1;funext t
 match t with
 |0=>rfl
 |1=>rfl
 |k+2=>simp[av]
theorem NZ (T sz:Nat) (l':List D) (r:D) (rs:List (Nat×Option (Bool×Nat))) (s:St):jG T sz l' r rs .ret s=(s.m 999999=some ⟨T,sz,.row l',false⟩∧ResLt s rs r):=rfl
theorem N0 (T sz:Nat) (l':List D) (r:D) (rs:List (Nat×Option (Bool×Nat))) (s:St):jG T sz l' r rs .normal s=(s.m 999999=some ⟨T,sz,.row l',false⟩∧ResLt s rs r):=rfl
theorem N1 (T sz:Nat) (l':List D) (r:D) (rs:List (Nat×Option (Bool×Nat))) (i:Nat) (s:St):jG T sz l' r rs (.exit i) s=False:=rfl
theorem N2 (G:FuncId→List D→D→Prop) (dd:Option Nat) (n esz:Nat) (ag:Bool) (x i:Opd) (g:Option (Nat×Bool)) (K:St→Prop) (s:St):au G ⟨dd,.indexAddrA n esz ag x i,g⟩ K s=fin dd K (ev (.indexAddrA n esz ag x i) (dd.getD 0) s):=rfl
theorem N3 (n esz:Nat) (ag:Bool) (x i:Opd) (id:Nat) (s:St):ev (.indexAddrA n esz ag x i) id s=(match x.ev s.r,asI (i.ev s.r) with
  |.ptr j k off,some q=>some (decide (0≤q∧q<n),.ptr j k (off+q.toNat*esz),s)
  |.p (.ref d),some q=>match d.part (q.toNat*esz) esz ag with
   |some e=>some (decide (0≤q∧q<n),.p (.ref e),s)
   |none=>none
  |_,_=>none):=rfl
theorem N4 (G:FuncId→List D→D→Prop) (dd:Option Nat) (n esz:Nat) (ag:Bool) (x i:Opd) (g:Option (Nat×Bool)) (K:St→Prop) (s:St):au G ⟨dd,.indexA n esz ag x i,g⟩ K s=fin dd K (ev (.indexA n esz ag x i) (dd.getD 0) s):=rfl
theorem N5 (n esz:Nat) (ag:Bool) (x i:Opd) (id:Nat) (s:St):ev (.indexA n esz ag x i) id s=(match asI (i.ev s.r) with
  |some q=>if (x.ev s.r).isAgg=some true then match (x.ev s.r).part (q.toNat*esz) esz ag with
   |some v=>some (decide (0≤q∧q<n),v,s)
   |none=>none else none
  |none=>none):=rfl
theorem N6 (G:FuncId→List D→D→Prop) (dd:Option Nat) (T sz bytes:Nat) (y:Opd) (g:Option (Nat×Bool)) (K:St→Prop) (s:St):au G ⟨dd,.copyS T sz bytes y,g⟩ K s=fin dd K (ev (.copyS T sz bytes y) (dd.getD 0) s):=rfl
theorem N7 (T sz bytes:Nat) (y:Opd) (id:Nat) (s:St):ev (.copyS T sz bytes y) id s=(match s.m id,bx sz s.m (y.ev s.r) with
  |none,some ys=>some (decide (ys.length*bytes≤140737488355328∧ys.length≤9223372036854775807),.slice id 0 ys.length,⟨s.r,upd s.m id (some ⟨T,sz,.row ys,false⟩)⟩)
  |_,_=>none):=rfl
theorem N8 (G:FuncId→List D→D→Prop) (dd:Option Nat) (T sz bytes:Nat) (y:Opd) (g:Option (Nat×Bool)) (K:St→Prop) (s:St):au G ⟨dd,.copyF T sz bytes y,g⟩ K s=fin dd K (ev (.copyF T sz bytes y) (dd.getD 0) s):=rfl
theorem N9 (T sz bytes:Nat) (y:Opd) (id:Nat) (s:St):ev (.copyF T sz bytes y) id s=(if id=999999 then none else match s.m id,bx sz s.m (y.ev s.r) with
  |none,some ys=>some (decide (ys.length*bytes≤140737488355328∧ys.length≤9223372036854775807),.slice id 0 ys.length,⟨s.r,upd s.m id (some ⟨T,sz,.row ys,true⟩)⟩)
  |_,_=>none):=rfl
theorem Oa (G:FuncId→List D→D→Prop) (dd:Option Nat) (fn:Fn) (x y:List Opd) (g:Option (Nat×Bool)) (K:St→Prop) (s:St):au G ⟨dd,.fnv fn x y,g⟩ K s=fin dd K (ev (.fnv fn x y) (dd.getD 0) s):=rfl
theorem Ob (fn:Fn) (x y:List Opd) (id:Nat) (s:St):ev (.fnv fn x y) id s=(match ck s.r s.m x,ck s.r s.m y with
  |some l,some k=>some (true,.p (.fn fn l k),s)
  |_,_=>none):=rfl
theorem Oc (r:Nat→AV) (M:Mem):ck r M []=some []:=rfl
theorem Od (r:Nat→AV) (M:Mem) (x:Opd) (l:List Opd):ck r M (x::l)=(match (x.ev r).toD false M 20,ck r M l with
  |some d,some ds=>some (d::ds)
  |_,_=>none):=rfl
theorem Oe (any:Bool) (M:Mem) (id i off:Nat):AV.toD any M 20 (.ptr id i off)=(if i=0∧off=0 then match M id with
   |some o=>match o.cont with
    |.box v=>if o.frz||any then (AV.toD any M 19 v).map .ref else none
    |_=>none
   |none=>none else none):=rfl
theorem Og (any:Bool) (M:Mem) (d:D):AV.toD any M 19 (.p d)=some d:=rfl
theorem Oh (G:FuncId→List D→D→Prop) (dd:Option Nat) (n:Nat) (x:Opd) (lo hi mx:Option Opd) (g:Option (Nat×Bool)) (K:St→Prop) (s:St):au G ⟨dd,.sliceA n x lo hi mx,g⟩ K s=fin dd K (ev (.sliceA n x lo hi mx) (dd.getD 0) s):=rfl
theorem Oi (n:Nat) (x:Opd) (lo hi mx:Option Opd) (id:Nat) (s:St):ev (.sliceA n x lo hi mx) id s=(match x.ev s.r with
  |.ptr i 0 off=>match s.m i with
   |some ⟨_,osz,.box _,_⟩=>if off+n≤osz∧n≤9223372036854775807 then match bL s.r n lo hi mx with
    |some (c,l,h)=>some (c,.arr i (off+l) (h-l),s)
    |none=>none else none
   |_=>none
  |_=>none):=rfl
theorem Oj (any:Bool) (M:Mem) (id off len:Nat):AV.toD any M 20 (.arr id off len)=(match M id with
   |some o=>match o.cont with
    |.box (.p d)=>if (o.frz||any)&&decide (off+len≤d.cells.length)&&decide (len≤9223372036854775807) then some (.list 1000000 1 ((d.cells.drop off).take len)) else none
    |_=>none
   |none=>none):=rfl
theorem Ol (i j o n:Nat):AV.forget i (.arr j o n)=if j=i then .und else .arr j o n:=by unfold AV.forget;rfl
theorem Om (G:FuncId→List D→D→Prop) (dd:Option Nat) (x y:Opd) (g:Option (Nat×Bool)) (K:St→Prop) (s:St):au G ⟨dd,.copyA x y,g⟩ K s=fin dd K (ev (.copyA x y) (dd.getD 0) s):=rfl
theorem On (x y:Opd) (id:Nat) (s:St):ev (.copyA x y) id s=(match x.ev s.r,bx 1 s.m (y.ev s.r) with
  |.arr i off len,some ys=>match s.m i with
   |some ⟨T,osz,.box u,false⟩=>if off+len≤osz∧ys.all D.one=true then
     some (decide (ys.length≤len),.p (.int .i64 (ys.length:Nat)),⟨s.r,upd s.m i (some ⟨T,osz,.box (AV.mk (u.cells.take off++ys.map .p++u.cells.drop (off+ys.length))),false⟩)⟩) else none
   |_=>none
  |_,_=>none):=rfl
theorem Oo (G:FuncId→List D→D→Prop) (dd:Option Nat) (sz:Nat) (z:D) (x:Opd) (g:Option (Nat×Bool)) (K:St→Prop) (s:St):au G ⟨dd,.clearS sz z x,g⟩ K s=fin dd K (ev (.clearS sz z x) (dd.getD 0) s):=rfl
theorem Oq (sz:Nat) (z:D) (x:Opd) (id:Nat) (s:St):ev (.clearS sz z x) id s=(match x.ev s.r with
  |.slice i off len=>match s.m i with
   |some ⟨T,osz,.row l,false⟩=>if osz=sz then some (decide (off+len≤l.length),.und,⟨s.r,upd s.m i (some ⟨T,osz,.row (l.take off++List.replicate len z++l.drop (off+len)),false⟩)⟩) else none
   |_=>none
  |_=>none):=rfl
theorem Or (G:FuncId→List D→D→Prop) (dd:Option Nat) (neg:Bool) (x:Opd) (g:Option (Nat×Bool)) (K:St→Prop) (s:St):au G ⟨dd,.isNil neg x,g⟩ K s=(match x.ev s.r with
  |.nils _ _=>K (s.put dd (.p (.bool (!neg))))
  |.p (.list _ _ l) => ∀b:Bool,(l≠[]→b=false)→K (s.put dd (.p (.bool (b != neg))))
  |_=>False):=rfl
theorem Ot (T sz:Nat) (l:List D) (rs:List (Nat×Option (Bool×Nat))) (s:St):lG T sz l rs .ret s=ResNew s rs T sz l:=rfl
theorem Ou (T sz:Nat) (l:List D) (rs:List (Nat×Option (Bool×Nat))) (s:St):lG T sz l rs .normal s=ResNew s rs T sz l:=rfl
theorem Ov (T sz:Nat) (l:List D) (rs:List (Nat×Option (Bool×Nat))) (i:Nat) (s:St):lG T sz l rs (.exit i) s=False:=rfl
theorem Ow (G:FuncId→List D→D→Prop) (dd:Option Nat) (x:Opd) (g:Option (Nat×Bool)) (K:St→Prop) (s:St):au G ⟨dd,.strB x,g⟩ K s=fin dd K (ev (.strB x) (dd.getD 0) s):=rfl
theorem Ox (x:Opd) (id:Nat) (s:St):ev (.strB x) id s=(match bx 1 s.m (x.ev s.r) with
  |some ys=>match gD ys with
   |some b=>some (true,.p (.str b),s)
   |none=>none
  |none=>none):=rfl
theorem Oy (G:FuncId→List D→D→Prop) (dd:Option Nat) (T:TypeId) (x:Opd) (g:Option (Nat×Bool)) (K:St→Prop) (s:St):au G ⟨dd,.bytS T x,g⟩ K s=fin dd K (ev (.bytS T x) (dd.getD 0) s):=rfl
theorem Oz (T:TypeId) (x:Opd) (id:Nat) (s:St):ev (.bytS T x) id s=(match s.m id with
  |none=>match x.ev s.r with
   |.p (.str t)=>some (decide (t.length≤9223372036854775807),.slice id 0 t.length,⟨s.r,upd s.m id (some ⟨T,1,.row (t.map fun b => .int .u8 b.toNat),false⟩)⟩)
   |_=>none
  |some _=>none):=rfl
theorem OA (k:IntKind) (a b:Int):aL .and (.int k a) (.int k b)=some (cC k a b,.int k (a6 .and a.toNat b.toNat:Nat)):=by simp[aL]
theorem OB (k:IntKind) (a b:Int):aL .or (.int k a) (.int k b)=some (cC k a b,.int k (a6 .or a.toNat b.toNat:Nat)):=by simp[aL]
theorem OC (k:IntKind) (a b:Int):aL .xor (.int k a) (.int k b)=some (cC k a b,.int k (a6 .xor a.toNat b.toNat:Nat)):=by simp[aL]
theorem OD (k:IntKind) (a b:Int):aL .andNot (.int k a) (.int k b)=some (cC k a b,.int k (a6 .andNot a.toNat b.toNat:Nat)):=by simp[aL]
theorem OE (k k':IntKind) (a b:Int):aL .shr (.int k a) (.int k' b)=some (decide (0≤b∧b<k.bits),.int k (a / 2^b.toNat)):=by simp[aL]
theorem OF (k k':IntKind) (a b:Int):aL .shl (.int k a) (.int k' b)=some (decide (0≤b∧b<k.bits)&&inK k (a*2^b.toNat),.int k (a*2^b.toNat)):=by simp[aL]
def csL:=an @NP (an @Ow (an @Ox (an @Oy (an @Oz (an @OA (an @OB (an @OC (an @OD (an @OE (an @OF (an @Or (an @Oq (an @Oo (an @On (an @Om (an @Ol (an @Oj (an @Oi (an @Oh (an @Option.map_some.{0,0} (an @Og (an @Oe (an @Od (an @Oc (an @Ob (an @Oa (an @N9 (an @N8 (an @N7 (an @N6 (an @N5 (an @N4 (an @N3 (an @N2 (an @NO (an @Ot (an @Ou (an @Ov (an @NM (an @NN (an @NQ (an @NR (an @NS (an @NT (an @NU (an @NV (an @NW (an @NX (an @NY (an @NZ (an @N0 @N1)))))))))))))))))))))))))))))))))))))))))))))))))))
theorem ResLt.one {s:St}{t:Nat}{d:D} (h:s.r t = .p d) (hd:∀m,d≠.tup [.int .i64 m]):ResLt s [(t,none)] d:=.plain (by simp[af,ae,ah,gG,h,rm]) hd
def lU (P:Program) (A:List TypeId) (f:FuncId) (k:Nat) (ds:List D) (T sz:Nat) (l:List D) (r:D) (l':List D):Prop:=
 f<LB∧k<8∧ds[k]? = some (.list T sz l)∧l'.length=l.length∧(l=[]→Con P A f ds (ee T sz r))∧(l≠[]→eA P A f k ds T sz l r l')
theorem lU.x {P:Program}{A:List TypeId}{f:FuncId}{k:Nat}{ds:List D}{T sz:Nat}{l:List D}{r:D}{l':List D} (h:lU P A f k ds T sz l r l'):ConX P A (f+LB*(k+1)) ds (.tup [r,.list T sz l']):=
 .lent h.1 h.2.1 h.2.2.1 h.2.2.2.1 h.2.2.2.2.1 h.2.2.2.2.2
def apL (l l':List COp):List COp:=l++l'
section
variable {OT:List TypeId}{G:FuncId→List D→D→Prop}
def kw (OT:List TypeId) (G:FuncId→List D→D→Prop) (c:CC) (Q:AExit→St→Prop) (s:St):Prop:=cw OT G c Q s
def kc (G:FuncId→List D→D→Prop) (l:List COp) (K:St→Prop) (s:St):Prop:=bl G l K s
theorem ulk {c:CC}{Q:AExit→St→Prop}{s:St} (h:cw OT G c Q s):kw OT G c Q s:=h
theorem ulc {l:List COp}{K:St→Prop}{s:St} (h:bl G l K s):kc G l K s:=h
theorem kp {r:Nat→AV}{m:Mem}{c:CC}{Q:AExit→St→Prop} (ts:List Nat) (h:cw OT G c Q ⟨av (sel r ts),m⟩):∃u,Sub OT ⟨r,m⟩ u∧kw OT G c Q u:=keep ts h
theorem cN {a b:CC}{Q:AExit→St→Prop}{s:St} (h:cw OT G a (fun e t=>match e with
  |.normal => ∃u,Sub OT t u∧kw OT G b Q u
  |e=>Q e t) s):cw OT G (.seq a b) Q s:=h
theorem md {id:Nat}{a:CC}{Q:AExit→St→Prop}{s:St} (h:cw OT G a (fun e t=>match e with
  |.exit j=>if j=id then Q .normal t else Q (.exit j) t
  |e=>Q e t) s):cw OT G (.block id a) Q s:=h
theorem kw1 (Q:AExit→St→Prop) (s:St):cw OT G .skip Q s=Q .normal s:=rfl
theorem kw2 (ap:List (Nat×Nat)) (l:List COp) (Q:AExit→St→Prop) (s:St):cw OT G (.ops ap l) Q s=(em ap s.r=true∧bl G l (Q .normal) s):=rfl
theorem kw3 (a b:CC) (Q:AExit→St→Prop) (s:St):cw OT G (.seq a b) Q s=cw OT G a (fun e t=>match e with
  |.normal => ∃u,Sub OT t u∧kw OT G b Q u
  |e=>Q e t) s:=rfl
theorem kw4 (x:Opd) (a b:CC) (Q:AExit→St→Prop) (s:St):cw OT G (.cond x a b) Q s=(match x.ev s.r with
  |.p (.bool c)=>(c=true→kw OT G a Q s)∧(c=false→kw OT G b Q s)
  |_=>False):=rfl
theorem kw5 (id:Nat) (a:CC) (Q:AExit→St→Prop) (s:St):cw OT G (.block id a) Q s=cw OT G a (fun e t=>match e with
  |.exit j=>if j=id then Q .normal t else Q (.exit j) t
  |e=>Q e t) s:=rfl
theorem kw6 (id:Nat) (Q:AExit→St→Prop) (s:St):cw OT G (.exit id) Q s=Q (.exit id) s:=rfl
theorem kw7 (Q:AExit→St→Prop) (s:St):cw OT G .ret Q s=Q .ret s:=rfl
theorem kc1 (l l':List COp) (K:St→Prop) (s:St):bl G (apL l l') K s=bl G l (kc G l' K) s:=kB G K l l' s
theorem kc2 (K:St→Prop) (s:St):bl G [] K s=K s:=rfl
theorem kc3 (c:COp) (l:List COp) (K:St→Prop) (s:St):bl G (c::l) K s=bF G c (bl G l K) s:=rfl
end
theorem wq{p:Prop}{q r:D→Prop}{d:D}(h:q d)(k:r d)(g:p:=by first|exact aw_look (by rfl)|(intros;trivial)|(intro id o h;(repeat' split at h)<;>first|(cases h;done)|(simp only[Option.some.injEq] at h;subst h;simp))):p∧∃d,q d∧r d:=⟨g,d,h,k⟩
def kV:=an @kw1 (an @kw2 (an @kw3 (an @kw4 (an @kw5 (an @kw6 (an @kw7 (an @kc1 (an @kc2 (an @kc3 (an csW csL))))))))))
abbrev OZ:List COp:=[o2 11 (.build [(.p (.bool false)),(.p (.list 3 1 []))] []),o2 12 (.call 36 [(ki 1)])]
abbrev O0:List COp:=[o2 13 (.build [(.p (.bool false)),(.p (.list 3 1 [])),(.p (.bool false)),(.p (.list 3 1 []))] [(0,2,(.t 11)),(2,2,(.t 12))]),o2 4 (.alloc 70 4 (.p (.agg [(.bool false),(.list 3 1 []),(.bool false),(.list 3 1 [])]))),b8 4 4 13]
abbrev O1:List COp:=[o1 15 0,o2 16 (.call 37 [(.t 15),(kb true),(kb true)])]
abbrev O2:List COp:=[o1 14 16,b9 17 14 0,b9 18 14 1,o1 5 17,o1 6 18]
abbrev O3:List COp:=[o1 34 0,o1 35 5,b2 36 .add 35 1,o2 37 (.sliceS (.t 34) (some (.t 36)) none),o2 38 (.call 37 [(.t 37),(kb false),(kb false)])]
abbrev O4:List COp:=[o1 33 38,b9 39 33 0,b9 40 33 1,o1 8 39,o1 9 40]
abbrev O5:CC:=.ops [] [o1 45 9,o1 6 45]
abbrev O6:CC:=.seq (.ops [] [o1 41 5,b2 42 .add 41 1,o1 43 8,b1 44 .add 42 43,o1 7 44]) O5
abbrev O7:CC:=.seq (.ops [] (apL O3 (O4))) O6
abbrev O8:CC:=.cond (.t 32) O7 .skip
abbrev O9:CC:=.seq (.ops [] [b4 54 true 4 4,o1 55 7,o2 56 (.build [(.p (.int .i64 0)),(.p (.int .i64 0))] [(0,1,(ki 1)),(1,1,(.t 55))]),b8 4 2 54,b8 2 3 56]) .ret
abbrev Pa:CC:=.cond (.t 53) O9 .skip
abbrev Pb:List COp:=[o1 57 0,o1 58 5,o2 59 (.sliceS (.t 57) none (some (.t 58))),o2 60 (.call 38 [(.t 59)])]
abbrev Pc:List COp:=[b2 61 .gtr 60 1000,o1 62 61,o5 63 7 62 false,o5 64 5 62 false,o4 65 (.bin false .sub (.t 63) (.t 64)) 62 false,o4 66 (.bin false .sub (.t 65) (ki 1)) 62 false,o4 67 (.bin false .gtr (.t 66) (ki 1000)) 62 false,o2 68 (.pick (.t 62) (kb true) (.t 67))]
abbrev Pd:CC:=.seq (.ops [] [b4 69 true 4 4,o2 70 (.build [(.p (.int .i64 0)),(.p (.int .i64 0))] [(0,1,(ki 2))]),b8 4 2 69,b8 2 3 70]) .ret
abbrev Pe:CC:=.cond (.t 68) Pd .skip
abbrev Pf:List COp:=[o1 71 0,o1 72 5,o2 73 (.sliceS (.t 71) none (some (.t 72))),o2 74 (.call 39 [(.t 73)])]
abbrev Pg:List COp:=[o2 75 (.call 36 [(ki 1)])]
abbrev Ph:List COp:=[o2 76 (.build [(.p (.bool false)),(.p (.list 3 1 [])),(.p (.bool false)),(.p (.list 3 1 []))] [(0,2,(.t 74)),(2,2,(.t 75))]),o2 10 (.alloc 70 4 (.p (.agg [(.bool false),(.list 3 1 []),(.bool false),(.list 3 1 [])]))),b8 4 10 76]
abbrev Pi:List COp:=[o1 80 0,o1 81 5,o2 82 (.sliceS (.t 80) none (some (.t 81))),o2 83 (.call 39 [(.t 82)])]
abbrev Pj:List COp:=[o1 84 0,o1 85 5,b2 86 .add 85 1,o2 87 (.sliceS (.t 84) (some (.t 86)) none),o2 88 (.call 39 [(.t 87)])]
abbrev Pk:List COp:=[o2 89 (.call 40 [(.t 83),(.t 88)])]
abbrev Pl:List COp:=[b8 4 10 89]
abbrev Pm:CC:=.ops [] (apL Pi (apL Pj (apL Pk (Pl))))
abbrev Pn:CC:=.cond (.t 79) Pm .skip
abbrev Po:List COp:=[b4 90 true 4 10,o2 91 (.call 41 [(.t 90)])]
abbrev Pp:List COp:=[o1 92 0,b1 93 .neq 91 92]
abbrev Pq:CC:=.seq (.ops [] [b4 94 true 4 4,o2 95 (.build [(.p (.int .i64 0)),(.p (.int .i64 0))] [(0,1,(ki 3))]),b8 4 2 94,b8 2 3 95]) .ret
abbrev Pr:CC:=.cond (.t 93) Pq .skip
abbrev Ps:CC:=.seq (.ops [] [b4 96 true 4 10,o2 97 (.build [(.p (.int .i64 0)),(.p (.int .i64 0))] []),b8 4 2 96,b8 2 3 97]) .ret
abbrev Pt:CC:=.seq (.seq (.ops [] (apL Po (Pp))) Pr) Ps
abbrev Pu:CC:=.seq (.seq (.ops [] [o1 77 7,o1 78 5,b1 79 .gtr 77 78]) Pn) Pt
abbrev Pv:CC:=.seq (.ops [] (apL Pf (apL Pg (Ph)))) Pu
abbrev Pw:CC:=.seq (.seq (.ops [] (apL Pb (Pc))) Pe) Pv
abbrev Px:CC:=.seq (.seq (.ops [] [o1 46 6,o2 47 (.un .not (.t 46)),o1 48 47,o5 49 7 48 false,o5 50 0 48 false,o4 51 (.lenS (.t 50)) 48 false,o4 52 (.bin false .lss (.t 49) (.t 51)) 48 false,o2 53 (.pick (.t 48) (kb true) (.t 52))]) Pa) Pw
abbrev Py:CC:=.seq (.seq (.ops [] [o1 20 6,o1 21 20,o5 22 5 21 true,o5 23 0 21 true,o4 24 (.lenS (.t 23)) 21 true,o4 25 (.bin false .lss (.t 22) (.t 24)) 21 true,o2 26 (.pick (.t 21) (.t 25) (kb false)),o1 27 26,o5 28 0 27 true,o5 29 5 27 true,o4 30 (.index (.t 28) (.t 29)) 27 true,o4 31 (.bin false .eql (.t 30) (.k (.p (.int .u8 47)))) 27 true,o2 32 (.pick (.t 27) (.t 31) (kb false))]) O8) Px
abbrev Pz:CC:=.seq (.ops [] [o1 19 5,o1 7 19]) Py
abbrev PA:CC:=.seq (.ops [] (apL O1 (O2))) Pz
abbrev PB:CC:=.seq (.ops [] (apL OZ (O0))) PA
abbrev c30:CC:=.seq (.ops [] [o2 2 (.alloc 70 4 (.p (.agg [(.bool false),(.list 3 1 []),(.bool false),(.list 3 1 [])]))),o2 3 (.alloc 28 2 (.p (.agg [(.int .i64 0),(.int .i64 0)])))]) PB
theorem PC:aI Try.prog 30 [70,28] c30 [(2,some (true,4)),(3,some (true,2))] 98:=
 fk _ [⟨14,[0,1,2,3,4,5,6,7,8,9,10],[0,0,3,7,0,0,32,112,255,511,1023],[]⟩] Try.func30
abbrev PD:List COp:=[b4 8 true 2 2,b4 9 true 2 3,o2 10 (.call 55 [(.t 8),(.t 9)])]
abbrev PE:List COp:=[o1 7 10,b9 11 7 0,b9 12 7 1,o2 5 (.alloc 70 4 (.p (.agg [(.bool false),(.list 3 1 []),(.bool false),(.list 3 1 [])]))),o2 6 (.alloc 28 2 (.p (.agg [(.int .i64 0),(.int .i64 0)]))),b8 4 5 11,b8 2 6 12]
abbrev PF:CC:=.seq (.ops [] [b4 13 true 4 5,b8 4 4 13]) .ret
abbrev PG:CC:=.seq (.ops [] (apL PD (PE))) PF
abbrev c40:CC:=.seq (.ops [] [o2 2 (.box 68 2 (.t 0)),o2 3 (.box 68 2 (.t 1)),o2 4 (.alloc 70 4 (.p (.agg [(.bool false),(.list 3 1 []),(.bool false),(.list 3 1 [])])))]) PG
theorem PH:aI Try.prog 40 [68,70,28] c40 [(4,some (true,4))] 14:=
 fk _ [] Try.func40
set_option maxRecDepth 100000
abbrev yZ:CC:=.seq (.ops [] [o2 17 (.build [(.p (.bool false)),(.p (.list 100 1 []))] []),o2 18 (.build [(.p (.bool false)),(.p (.list 100 1 []))] []),o2 19 (.build [(.p (.int .i64 0)),(.p (.int .i64 0))] [(0,1,(ki 4))]),b8 2 4 17,b8 2 5 18,b8 2 6 19]) .ret
abbrev y6:CC:=.cond (.t 16) yZ .skip
abbrev y7:List COp:=[b6 20 1 1 false 2,b4 21 false 1 20,b6 22 1 1 false 3,b4 23 false 1 22,o2 24 (.callW 58 [100,3] [(.t 21),(.t 23)])]
abbrev y8:List COp:=[b2 25 .lss 24 0]
abbrev y9:List COp:=[b6 26 1 1 false 2,b4 27 false 1 26,o2 28 (.callW 44 [100,3] [(kb false),(.t 27)])]
abbrev za:List COp:=[b8 2 8 28]
abbrev zb:CC:=.ops [] (apL y9 (za))
abbrev zc:List COp:=[b6 34 1 1 false 2,b4 35 false 1 34,b6 36 1 1 false 3,b4 37 false 1 36,o2 38 (.indexAddr 1 (.t 37) (ki 0)),b4 39 false 1 38,o2 40 (.callW 59 [100,3] [(.t 35),(.t 39)])]
abbrev ze:List COp:=[o1 33 40,b9 41 33 0,b9 42 33 1,o1 9 41,o1 10 42]
abbrev zf:List COp:=[o1 43 9,o2 44 (.callW 44 [100,3] [(kb false),(.t 43)])]
abbrev zg:List COp:=[o1 45 10,o2 46 (.buildSliceF 100 1 (.int .u32 0) 1 [(0,(.t 45))]),o2 47 (.callW 44 [100,3] [(kb false),(.t 46)])]
abbrev zh:List COp:=[b8 2 7 44,b8 2 8 47]
abbrev zi:CC:=.ops [] (apL zf (apL zg (zh)))
abbrev zj:CC:=.seq (.ops [] (apL zc (ze))) zi
abbrev zk:List COp:=[b6 49 1 1 false 2,b4 50 false 1 49,b6 51 1 1 false 3,b4 52 false 1 51,o2 53 (.callW 60 [100,3] [(.t 50),(.t 52)])]
abbrev zm:List COp:=[o1 48 53,b9 54 48 0,b9 55 48 1,o1 11 54,o1 12 55]
abbrev zn:List COp:=[o1 56 11,o2 57 (.callW 44 [100,3] [(kb false),(.t 56)])]
abbrev zo:List COp:=[o1 58 12,o2 59 (.callW 44 [100,3] [(kb false),(.t 58)])]
abbrev zp:List COp:=[b8 2 7 57,b8 2 8 59]
abbrev zq:CC:=.ops [] (apL zn (apL zo (zp)))
abbrev zr:CC:=.seq (.ops [] (apL zk (zm))) zq
abbrev zs:CC:=.cond (.t 32) zj zr
abbrev zt:CC:=.seq (.ops [] [b6 29 1 1 false 3,b4 30 false 1 29,b5 31 30,b2 32 .eql 31 1]) zs
abbrev zv:CC:=.cond (.t 25) zb zt
abbrev zw:List COp:=[b4 68 true 2 7,o2 69 (.callW 51 [100,3] [(ki 1)])]
abbrev zx:List COp:=[o2 70 (.callW 61 [100,3] [(.t 68),(.t 69)])]
abbrev zy:List COp:=[b6 71 1 1 false 3,b4 72 false 1 71,b6 73 1 1 false 8,b4 74 false 1 73,o2 75 (.callW 62 [100,3] [(.t 72),(.t 74)])]
abbrev zz:List COp:=[o2 76 (.callW 44 [100,3] [(kb false),(.t 75)])]
abbrev zA:List COp:=[b8 2 7 70,b8 2 8 76]
abbrev zB:CC:=.ops [] (apL zw (apL zx (apL zy (apL zz (zA)))))
abbrev zC:CC:=.cond (.t 67) zB .skip
abbrev zD:List COp:=[b4 85 true 2 8,b6 77 0 1 false 2,b4 78 false 1 77,b6 79 0 1 false 3,b4 80 false 1 79,o2 81 (.bin true .neq (.t 78) (.t 80)),b6 82 1 1 false 7,b4 83 false 1 82,o2 84 (.callW 44 [100,3] [(.t 81),(.t 83)])]
abbrev zE:List COp:=[o2 86 (.build [(.p (.int .i64 0)),(.p (.int .i64 0))] []),b8 2 4 84,b8 2 5 85,b8 2 6 86]
abbrev zF:CC:=.seq (.ops [(8,4)] (apL zD (zE))) .ret
abbrev jo:CC:=.seq (.seq (.ops [] [b6 60 0 1 false 2,b4 61 false 1 60,o1 62 61,o4 63 (.fieldAddr 1 1 false (.t 8)) 62 true,o4 64 (.load false 1 (.t 63)) 62 true,o4 65 (.len (.t 64)) 62 true,o4 66 (.bin false .gtr (.t 65) (ki 0)) 62 true,o2 67 (.pick (.t 62) (.t 66) (kb false))]) zC) zF
abbrev zG:CC:=.seq (.seq (.ops [] (apL y7 (y8))) zv) jo
abbrev zH:CC:=.seq (.ops [] [o2 7 (.alloc 62 2 (.p (.agg [(.bool false),(.list 100 1 [])]))),o2 8 (.alloc 62 2 (.p (.agg [(.bool false),(.list 100 1 [])])))]) zG
abbrev zI:CC:=.seq (.seq (.ops [] [b6 13 1 1 false 3,b4 14 false 1 13,b5 15 14,b2 16 .eql 15 0]) y6) zH
abbrev c47:CC:=.seq (.ops [] [o2 2 (.box 62 2 (.t 0)),o2 3 (.box 62 2 (.t 1)),o2 4 (.alloc 62 2 (.p (.agg [(.bool false),(.list 100 1 [])]))),o2 5 (.alloc 62 2 (.p (.agg [(.bool false),(.list 100 1 [])]))),o2 6 (.alloc 28 2 (.p (.agg [(.int .i64 0),(.int .i64 0)])))]) zI
theorem kN:aI Try.prog 47 [62,28,100,2000046,70000100,70000003] c47 [(4,some (true,2)),(5,some (true,2)),(6,some (true,2))] 87:=
 fk _ [⟨7,[0,1,2,3,4,5,6,7,8,9,10,11],[0,1,0,4,12,28,63,127,255,255,511,2047],[]⟩,⟨12,[0,1,2,3,4,5,6,7,8,9,10],[0,0,3,0,8,0,32,127,255,511,1023],[]⟩,⟨13,[8,0,1,2,3,4,5,6,7,9,10,11,12],[0,1,0,4,15,0,32,127,0,0,255,1535,4095],[(8,4)]⟩] Try.func47
abbrev zJ:CC:=.cond (.t 11) .skip (.exit 0)
abbrev zK:List COp:=[b4 13 true 2 2,b4 14 true 2 3,o2 15 (.call 47 [(.t 13),(.t 14)])]
abbrev zL:List COp:=[o1 12 15,b9 16 12 0,b9 17 12 1,b9 18 12 2,o2 5 (.alloc 62 2 (.p (.agg [(.bool false),(.list 100 1 [])]))),o2 6 (.alloc 62 2 (.p (.agg [(.bool false),(.list 100 1 [])]))),o2 7 (.alloc 28 2 (.p (.agg [(.int .i64 0),(.int .i64 0)]))),b8 2 5 16,b8 2 6 17,b8 2 7 18]
abbrev zM:CC:=.ops [(6,2)] [b4 19 true 2 3,b4 20 true 2 6,b8 2 2 19,b8 2 3 20]
abbrev zN:CC:=.block 1 (.seq (.ops [] (apL zK (zL))) zM)
abbrev zO:CC:=.seq (.seq (.ops [] [b6 8 1 1 false 3,b4 9 false 1 8,b5 10 9,b2 11 .gtr 10 0]) zJ) zN
abbrev zP:CC:=.loop zO
abbrev zQ:List COp:=[b6 21 1 1 false 2,b4 22 false 1 21,o2 23 (.call 44 [(kb false),(.t 22)])]
abbrev zR:List COp:=[b8 2 4 23]
abbrev zS:CC:=.seq (.ops [] (apL zQ (zR))) .ret
abbrev zT:CC:=.seq (.block 0 zP) zS
abbrev c46:CC:=.seq (.ops [] [o2 2 (.box 62 2 (.t 0)),o2 3 (.box 62 2 (.t 1)),o2 4 (.alloc 62 2 (.p (.agg [(.bool false),(.list 100 1 [])])))]) zT
theorem zU:aI Try.prog 46 [62,28] c46 [(4,some (true,2))] 24:=
 fk _ [⟨3,[0,1,2,3],[0,0,1,7],[(6,2)]⟩] Try.func46
abbrev zV:List COp:=[o2 5 (.call 51 [(ki 1)])]
abbrev zW:List COp:=[b6 3 2 2 true 1,b4 4 true 2 3,o2 6 (.call 61 [(.t 4),(.t 5)])]
abbrev zX:List COp:=[b8 2 2 6]
abbrev zY:CC:=.seq (.ops [] (apL zV (apL zW (zX)))) .ret
abbrev c53:CC:=.seq (.ops [] [o2 1 (.box 64 4 (.t 0)),o2 2 (.alloc 62 2 (.p (.agg [(.bool false),(.list 100 1 [])])))]) zY
theorem zZ:aI Try.prog 53 [64,62] c53 [(2,some (true,2))] 7:=
 fk _ [⟨1,[2,0,1,3,4],[0,1,0,7,15],[]⟩] Try.func53
abbrev z6:List COp:=[b4 6 true 2 2,b4 7 true 2 3,o2 8 (.call 46 [(.t 6),(.t 7)])]
abbrev z7:List COp:=[o2 5 (.alloc 62 2 (.p (.agg [(.bool false),(.list 100 1 [])]))),b8 2 5 8]
abbrev z8:List COp:=[b4 10 true 2 2,b4 11 true 2 5,o2 12 (.call 47 [(.t 10),(.t 11)])]
abbrev Aa:List COp:=[o1 9 12,b9 13 9 0,b9 14 9 1,b9 15 9 2,b8 2 2 13]
abbrev Ab:List COp:=[b4 17 true 2 3,b4 18 true 2 5,o2 19 (.call 47 [(.t 17),(.t 18)])]
abbrev Ac:List COp:=[o1 16 19,b9 20 16 0,b9 21 16 1,b9 22 16 2,b8 2 3 20]
abbrev Ad:List COp:=[b4 23 true 2 3,o2 24 (.call 48 [(.t 23)])]
abbrev Ae:List COp:=[b2 25 .lss 24 0]
abbrev Af:List COp:=[b4 26 true 2 2,o2 27 (.call 49 [(.t 26)])]
abbrev Ag:List COp:=[b4 28 true 2 3,o2 29 (.call 49 [(.t 28)])]
abbrev Ah:List COp:=[b8 2 2 27,b8 2 3 29]
abbrev Ai:CC:=.ops [] (apL Af (apL Ag (Ah)))
abbrev Aj:CC:=.cond (.t 25) Ai .skip
abbrev Ak:List COp:=[b4 30 true 2 2,b4 31 true 2 3,o2 32 (.call 51 [(ki 1)])]
abbrev Al:List COp:=[o2 33 (.call 50 [(.t 31),(.t 32)])]
abbrev Am:List COp:=[o2 34 (.build [(.p (.bool false)),(.p (.list 100 1 [])),(.p (.bool false)),(.p (.list 100 1 []))] [(0,2,(.t 30)),(2,2,(.t 33))]),b8 4 4 34]
abbrev An:CC:=.seq (.ops [] (apL Ak (apL Al (Am)))) .ret
abbrev Ao:CC:=.seq (.seq (.ops [] (apL Ad (Ae))) Aj) An
abbrev Ap:CC:=.seq (.ops [] (apL Ab (Ac))) Ao
abbrev Aq:CC:=.seq (.ops [] (apL z8 (Aa))) Ap
abbrev As:CC:=.seq (.ops [] (apL z6 (z7))) Aq
abbrev c34:CC:=.seq (.ops [] [o2 2 (.box 62 2 (.t 0)),o2 3 (.box 62 2 (.t 1)),o2 4 (.alloc 64 4 (.p (.agg [(.bool false),(.list 100 1 []),(.bool false),(.list 100 1 [])])))]) As
theorem nK:aI Try.prog 34 [62,64] c34 [(4,some (true,4))] 35:=
 fk _ [⟨5,[0,1,2,3,4,5],[0,1,0,7,15,31],[]⟩,⟨6,[0,1,2,3,4,5],[0,0,0,6,15,31],[]⟩] Try.func34
abbrev Au:List COp:=[b6 3 2 2 true 1,b4 4 true 2 3,o2 5 (.call 48 [(.t 4)])]
abbrev Aw:List COp:=[b2 6 .eql 5 0]
abbrev Ax:List COp:=[b6 7 0 2 true 1,b4 8 true 2 7,o2 9 (.call 52 [(.t 8)])]
abbrev Ay:List COp:=[o1 2 9]
abbrev Az:CC:=.seq (.ops [] (apL Ax (Ay))) .ret
abbrev AA:CC:=.cond (.t 6) Az .skip
abbrev AB:List COp:=[b4 14 true 4 1,b6 10 0 2 true 1,b4 11 true 2 10,o2 12 (.call 52 [(.t 11)])]
abbrev AC:List COp:=[o2 15 (.call 53 [(.t 14)])]
abbrev AD:List COp:=[o2 16 (.call 52 [(.t 15)])]
abbrev AE:List COp:=[b3 13 .add 12 (.k (.p (.str [47]))),b1 17 .add 13 16,o1 2 17]
abbrev AF:CC:=.seq (.ops [] (apL AB (apL AC (apL AD (AE))))) .ret
abbrev AG:CC:=.seq (.seq (.ops [] (apL Au (Aw))) AA) AF
abbrev c35:CC:=.seq (.ops [] [o2 1 (.box 64 4 (.t 0)),o2 2 (.mov (.k (.p (.str []))))]) AG
theorem nL:aI Try.prog 35 [64] c35 [(2,none)] 18:=
 fk _ [⟨3,[4,0,1,2,5,6,3,7,8],[0,1,3,7,0,23,55,127,255],[]⟩] Try.func35
abbrev AH:List COp:=[o1 17 0,o2 18 (.call 31 [(.t 17),(kb true)])]
abbrev AI:List COp:=[o1 16 18,b9 19 16 0,b9 20 16 1,o1 4 19,o1 5 20]
abbrev AJ:List COp:=[o1 38 0,o1 39 4,b2 40 .add 39 1,o2 41 (.sliceS (.t 38) (some (.t 40)) none),o2 42 (.call 31 [(.t 41),(kb false)])]
abbrev AK:List COp:=[o1 37 42,b9 43 37 0,b9 44 37 1,o1 9 43,o1 10 44]
abbrev AL:CC:=.ops [] [o1 45 0,o1 46 4,b2 47 .add 46 1,o1 48 4,b2 49 .add 48 1,o1 50 9,b1 51 .add 49 50,o2 52 (.sliceS (.t 45) (some (.t 47)) (some (.t 51))),o1 53 10,o1 54 4,b2 55 .add 54 1,o1 56 9,b1 57 .add 55 56,o1 7 52,o2 8 (.mov (kb true)),o1 5 53,o1 4 57]
abbrev AM:CC:=.seq (.ops [] (apL AJ (AK))) AL
abbrev AO:CC:=.cond (.t 36) AM .skip
abbrev AP:CC:=.seq (.ops [] [o2 66 (.build [(.p (.bool false)),(.p (.list 100 1 [])),(.p (.bool false)),(.p (.list 100 1 []))] []),o1 67 4,o2 68 (.build [(.p (.int .i64 0)),(.p (.int .i64 0))] [(0,1,(ki 1)),(1,1,(.t 67))]),b8 4 2 66,b8 2 3 68]) .ret
abbrev AQ:CC:=.cond (.t 65) AP .skip
abbrev AR:List COp:=[o1 69 6,o2 70 (.call 32 [(.t 69),(.k (.p (.str [45])))])]
abbrev AS:List COp:=[o2 71 (.lenS (.t 70)),b2 72 .gtr 71 1000,o1 73 72,o5 74 7 73 false,o4 75 (.lenS (.t 74)) 73 false,o4 76 (.bin false .gtr (.t 75) (ki 1000)) 73 false,o2 77 (.pick (.t 73) (kb true) (.t 76))]
abbrev AT:CC:=.seq (.ops [] [o2 78 (.build [(.p (.bool false)),(.p (.list 100 1 [])),(.p (.bool false)),(.p (.list 100 1 []))] []),o2 79 (.build [(.p (.int .i64 0)),(.p (.int .i64 0))] [(0,1,(ki 2))]),b8 4 2 78,b8 2 3 79]) .ret
abbrev AU:CC:=.cond (.t 77) AT .skip
abbrev AW:List COp:=[o1 81 6,o2 82 (.call 33 [(.t 81)])]
abbrev AX:List COp:=[o1 80 82,b9 83 80 0,b9 84 80 1,o2 11 (.alloc 62 2 (.p (.agg [(.bool false),(.list 100 1 [])]))),o2 12 (.alloc 28 2 (.p (.agg [(.int .i64 0),(.int .i64 0)]))),b8 2 11 83,b8 2 12 84]
abbrev AY:CC:=.seq (.ops [] [b4 87 true 2 11,o2 88 (.build [(.p (.bool false)),(.p (.list 100 1 [])),(.p (.bool false)),(.p (.list 100 1 []))] [(0,2,(.t 87))]),o2 89 (.build [(.p (.int .i64 0)),(.p (.int .i64 0))] []),b8 4 2 88,b8 2 3 89]) .ret
abbrev AZ:CC:=.cond (.t 86) AY .skip
abbrev A1:List COp:=[o1 91 7,o2 92 (.call 33 [(.t 91)])]
abbrev A2:List COp:=[o1 90 92,b9 93 90 0,b9 94 90 1,o2 13 (.alloc 62 2 (.p (.agg [(.bool false),(.list 100 1 [])]))),o2 14 (.alloc 28 2 (.p (.agg [(.int .i64 0),(.int .i64 0)]))),b8 2 13 93,b8 2 14 94]
abbrev A3:List COp:=[b4 95 true 2 11,b4 96 true 2 13,o2 97 (.call 34 [(.t 95),(.t 96)])]
abbrev A4:List COp:=[o2 15 (.alloc 64 4 (.p (.agg [(.bool false),(.list 100 1 []),(.bool false),(.list 100 1 [])]))),b8 4 15 97]
abbrev A5:List COp:=[b4 98 true 4 15,o2 99 (.call 35 [(.t 98)])]
abbrev A6:List COp:=[o1 100 0,b1 101 .neq 99 100]
abbrev A7:CC:=.seq (.ops [] [o2 102 (.build [(.p (.bool false)),(.p (.list 100 1 [])),(.p (.bool false)),(.p (.list 100 1 []))] []),o2 103 (.build [(.p (.int .i64 0)),(.p (.int .i64 0))] [(0,1,(ki 3))]),b8 4 2 102,b8 2 3 103]) .ret
abbrev A8:CC:=.cond (.t 101) A7 .skip
abbrev A9:CC:=.seq (.ops [] [b4 104 true 4 15,o2 105 (.build [(.p (.int .i64 0)),(.p (.int .i64 0))] []),b8 4 2 104,b8 2 3 105]) .ret
abbrev Ba:CC:=.seq (.seq (.ops [] (apL A5 (A6))) A8) A9
abbrev Bb:CC:=.seq (.ops [] (apL A3 (A4))) Ba
abbrev Bc:CC:=.seq (.ops [] (apL A1 (A2))) Bb
abbrev Bd:CC:=.seq (.seq (.ops [] [o1 85 8,o2 86 (.un .not (.t 85))]) AZ) Bc
abbrev Be:CC:=.seq (.ops [] (apL AW (AX))) Bd
abbrev Bf:CC:=.seq (.seq (.ops [] (apL AR (AS))) AU) Be
abbrev Bg:CC:=.seq (.seq (.ops [] [o1 58 5,o2 59 (.un .not (.t 58)),o1 60 59,o5 61 4 60 false,o5 62 0 60 false,o4 63 (.lenS (.t 62)) 60 false,o4 64 (.bin false .lss (.t 61) (.t 63)) 60 false,o2 65 (.pick (.t 60) (kb true) (.t 64))]) AQ) Bf
abbrev Bh:CC:=.seq (.seq (.ops [] [o1 24 5,o1 25 24,o5 26 4 25 true,o5 27 0 25 true,o4 28 (.lenS (.t 27)) 25 true,o4 29 (.bin false .lss (.t 26) (.t 28)) 25 true,o2 30 (.pick (.t 25) (.t 29) (kb false)),o1 31 30,o5 32 0 31 true,o5 33 4 31 true,o4 34 (.index (.t 32) (.t 33)) 31 true,o4 35 (.bin false .eql (.t 34) (.k (.p (.int .u8 47)))) 31 true,o2 36 (.pick (.t 31) (.t 35) (kb false))]) AO) Bg
abbrev Bk:CC:=.seq (.ops [] [o1 21 0,o1 22 4,o2 23 (.sliceS (.t 21) none (some (.t 22))),o1 6 23,o2 7 (.mov (.k (.p (.str [])))),o2 8 (.mov (kb false))]) Bh
abbrev Bl:CC:=.seq (.ops [] (apL AH (AI))) Bk
abbrev c29:CC:=.seq (.ops [] [o2 2 (.alloc 64 4 (.p (.agg [(.bool false),(.list 100 1 []),(.bool false),(.list 100 1 [])]))),o2 3 (.alloc 28 2 (.p (.agg [(.int .i64 0),(.int .i64 0)])))]) Bl
theorem Bm:aI Try.prog 29 [64,28,62] c29 [(2,some (true,4)),(3,some (true,2))] 106:=
 fk _ [] Try.func29
end Go.Proofs.Ytdchbabgopglcaa.M
