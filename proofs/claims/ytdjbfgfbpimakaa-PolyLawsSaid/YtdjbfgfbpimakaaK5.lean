/- The small machine: what each operation does, as equations. The small machine: objects that are dropped, or not written any more. The small machine: objects that nobody refers to any more are dropped together. The small machine: a slice of an object that is not written any more is plain data. Functions of the program in the small machine's words: written by a program of mine. Functions of the program in the small machine's words: written by a program of mine. Functions of the program in the small machine's words: written by a program of mine. Functions of the program in the small machine's words: written by a program of mine. Functions of the program in the small machine's words: written by a program of mine. -/
import Derived.Test.YtdjbfgfbpimakaaK4
section
namespace Go.Proofs.Ytdjbfgfbpimakaa.M
open Go.RowKit
set_option linter.defProp false
def fin (d:Option Nat) (K:St→Prop):Option (Bool × AV × St)→Prop
 | some (p,v,t)=>p=true∧K (t.put d v)
 | none=>False
theorem fin_some (d:Option Nat) (K:St→Prop) (p:Bool) (v:AV) (t:St):fin d K (some (p,v,t))=(p=true∧K (t.put d v)):=rfl
theorem fin_none (d:Option Nat) (K:St→Prop):fin d K none=False:=rfl
theorem st_call (G:FuncId→List D→D→Prop) (d:Option Nat) (f:FuncId) (args:List Opd) (g:Option (Nat × Bool)) (K:St→Prop) (s:St):step G ⟨d,.call f args,g⟩ K s=(match argsD s args with
  | some ds => ∃ e,G f ds e∧K (s.put d (.p e))
  | none=>False):=rfl
theorem st_append (G:FuncId→List D→D→Prop) (d:Option Nat) (T sz b:Nat) (x y:Opd) (g:Option (Nat × Bool)) (K:St→Prop) (s:St):step G ⟨d,.append T sz b x y,g⟩ K s=fin d K (evApp T sz b x y (d.getD 0) s):=rfl
theorem gs_none (G:FuncId→List D→D→Prop) (d:Option Nat) (o:AOp) (K:St→Prop) (s:St):gstep G ⟨d,o,none⟩ K s=step G ⟨d,o,none⟩ K s:=rfl
theorem gs_some (G:FuncId→List D→D→Prop) (d:Option Nat) (o:AOp) (i:Nat) (b:Bool) (K:St→Prop) (s:St):gstep G ⟨d,o,some (i,b)⟩ K s=(match s.r i with
  | .p (.bool c)=>if c=b then step G ⟨d,o,some (i,b)⟩ K s else K (s.put d .und)
  | _=>False):=rfl
theorem opd_t (r:Nat→AV) (n:Nat):Opd.ev r (.t n)=r n:=rfl
theorem opd_k (r:Nat→AV) (v:AV):Opd.ev r (.k v)=v:=rfl
theorem asI_int (k:IntKind) (n:Int):asI (.p (.int k n))=some n:=rfl
theorem toD_p (any:Bool) (M:Mem) (d:D):AV.toD any M 20 (.p d)=some d:=rfl
theorem toD_nils (any:Bool) (M:Mem) (T:TypeId) (sz:Nat):AV.toD any M 20 (.nils T sz)=some (.list T sz []):=rfl
theorem toD_slice (any:Bool) (M:Mem) (id off len:Nat):AV.toD any M 20 (.slice id off len)=(match M id with
  | some o=>match o.cont with
   | .row l=>if (o.frz||any)&&decide (off+len≤l.length) then some (.list o.T o.sz ((l.drop off).take len)) else none
   | _=>none
  | none=>none):=rfl
theorem argsD_nil (s:St):argsD s []=some []:=rfl
theorem argsD_cons (s:St) (x:Opd) (l:List Opd):argsD s (x::l)=(match (x.ev s.r).toD false s.m 20,argsD s l with
  | some d,some ds=>some (d::ds)
  | _,_=>none):=rfl
theorem st_mov (G:FuncId→List D→D→Prop) (dd:Option Nat) (x:Opd) (g:Option (Nat × Bool)) (K:St→Prop) (s:St):step G ⟨dd,.mov x,g⟩ K s=fin dd K (ev (.mov x) (dd.getD 0) s):=rfl
theorem ev_mov (x:Opd) (id:Nat) (s:St):ev (.mov x) id s=(some (true,x.ev s.r,s)):=rfl
theorem st_nilCheck (G:FuncId→List D→D→Prop) (dd:Option Nat) (x:Opd) (g:Option (Nat × Bool)) (K:St→Prop) (s:St):step G ⟨dd,.nilCheck x,g⟩ K s=fin dd K (ev (.nilCheck x) (dd.getD 0) s):=rfl
theorem ev_nilCheck (x:Opd) (id:Nat) (s:St):ev (.nilCheck x) id s=(match x.ev s.r with
  | .ptr i j o=>some (true,.ptr i j o,s)
  | .p (.ref d)=>some (true,.p (.ref d),s)
  | _=>none):=rfl
theorem st_pick (G:FuncId→List D→D→Prop) (dd:Option Nat) (c:Opd) (a:Opd) (b:Opd) (g:Option (Nat × Bool)) (K:St→Prop) (s:St):step G ⟨dd,.pick c a b,g⟩ K s=fin dd K (ev (.pick c a b) (dd.getD 0) s):=rfl
theorem ev_pick (c:Opd) (a:Opd) (b:Opd) (id:Nat) (s:St):ev (.pick c a b) id s=(match c.ev s.r with
  | .p (.bool true)=>some (true,a.ev s.r,s)
  | .p (.bool false)=>some (true,b.ev s.r,s)
  | _=>none):=rfl
theorem st_alloc (G:FuncId→List D→D→Prop) (dd:Option Nat) (T:Nat) (sz:Nat) (z:AV) (g:Option (Nat × Bool)) (K:St→Prop) (s:St):step G ⟨dd,.alloc T sz z,g⟩ K s=fin dd K (ev (.alloc T sz z) (dd.getD 0) s):=rfl
theorem ev_alloc (T:Nat) (sz:Nat) (z:AV) (id:Nat) (s:St):ev (.alloc T sz z) id s=(match s.m id with
  | none=>some (true,.ptr id 0 0,⟨s.r,upd s.m id (some ⟨T,sz,.box z,false⟩)⟩)
  | some _=>none):=rfl
theorem st_box (G:FuncId→List D→D→Prop) (dd:Option Nat) (T:Nat) (sz:Nat) (x:Opd) (g:Option (Nat × Bool)) (K:St→Prop) (s:St):step G ⟨dd,.box T sz x,g⟩ K s=fin dd K (ev (.box T sz x) (dd.getD 0) s):=rfl
theorem ev_box (T:Nat) (sz:Nat) (x:Opd) (id:Nat) (s:St):ev (.box T sz x) id s=(match s.m id with
  | none=>if (x.ev s.r).cells.length=sz∧(x.ev s.r).cells.all AV.one=true then some (true,.ptr id 0 0,⟨s.r,upd s.m id (some ⟨T,sz,.box (x.ev s.r),false⟩)⟩) else none
  | some _=>none):=rfl
theorem st_build (G:FuncId→List D→D→Prop) (dd:Option Nat) (z:List AV) (parts:List (Nat × Nat × Opd)) (g:Option (Nat × Bool)) (K:St→Prop) (s:St):step G ⟨dd,.build z parts,g⟩ K s=fin dd K (ev (.build z parts) (dd.getD 0) s):=rfl
theorem ev_build (z:List AV) (parts:List (Nat × Nat × Opd)) (id:Nat) (s:St):ev (.build z parts) id s=(match fillA z s.r parts with
  | some l=>some (true,AV.mk l,s)
  | none=>none):=rfl
theorem st_buildSlice (G:FuncId→List D→D→Prop) (dd:Option Nat) (T:Nat) (sz:Nat) (z:D) (n:Nat) (parts:List (Nat × Opd)) (g:Option (Nat × Bool)) (K:St→Prop) (s:St):step G ⟨dd,.buildSlice T sz z n parts,g⟩ K s=fin dd K (ev (.buildSlice T sz z n parts) (dd.getD 0) s):=rfl
theorem ev_buildSlice (T:Nat) (sz:Nat) (z:D) (n:Nat) (parts:List (Nat × Opd)) (id:Nat) (s:St):ev (.buildSlice T sz z n parts) id s=(match s.m id with
  | none=>match fillR sz (List.replicate n z) s.r s.m parts with
   | some l=>some (true,.slice id 0 n,⟨s.r,upd s.m id (some ⟨T,sz,.row l,false⟩)⟩)
   | none=>none
  | some _=>none):=rfl
theorem st_load (G:FuncId→List D→D→Prop) (dd:Option Nat) (ag:Bool) (sz:Nat) (x:Opd) (g:Option (Nat × Bool)) (K:St→Prop) (s:St):step G ⟨dd,.load ag sz x,g⟩ K s=fin dd K (ev (.load ag sz x) (dd.getD 0) s):=rfl
theorem ev_load (ag:Bool) (sz:Nat) (x:Opd) (id:Nat) (s:St):ev (.load ag sz x) id s=(match x.ev s.r with
  | .ptr i j off=>match s.m i with
   | some ⟨_,osz,.row l,_⟩=>match (AV.p (l.getD j default)).get off sz osz ag with
    | some v=>some (decide (j<l.length),v,s)
    | none=>none
   | some ⟨_,osz,.box v,_⟩=>if j=0 then match v.get off sz osz ag with
    | some u=>some (true,u,s)
    | none=>none else none
   | _=>none
  | .p (.ref d)=>if d.isAgg=ag then some (decide (d.cells.length=sz∧0<sz),.p d,s) else none
  | _=>none):=rfl
theorem st_store (G:FuncId→List D→D→Prop) (dd:Option Nat) (sz:Nat) (x:Opd) (v:Opd) (g:Option (Nat × Bool)) (K:St→Prop) (s:St):step G ⟨dd,.store sz x v,g⟩ K s=fin dd K (ev (.store sz x v) (dd.getD 0) s):=rfl
theorem ev_store (sz:Nat) (x:Opd) (v:Opd) (id:Nat) (s:St):ev (.store sz x v) id s=(match x.ev s.r with
  | .ptr i j off=>match s.m i with
   | some ⟨T,osz,.row l,false⟩=>match (v.ev s.r).toD false s.m 20 with
    | some d=>if d.cells.length=sz∧d.cells.all D.one=true then
      (
       if off=0∧sz=osz then some (decide (j<l.length),.und,⟨s.r,upd s.m i (some ⟨T,osz,.row (l.set j d),false⟩)⟩)
       else none) else none
    | none=>none
   | some ⟨T,osz,.box u,false⟩=>if (v.ev s.r).cells.length=sz∧(v.ev s.r).cells.all AV.one=true∧j=0 then
     (
      if off=0∧sz=osz then some (true,.und,⟨s.r,upd s.m i (some ⟨T,osz,.box (v.ev s.r),false⟩)⟩)
      else if off+sz≤osz then some (true,.und,⟨s.r,upd s.m i (some ⟨T,osz,.box (AV.mk (u.cells.take off++(v.ev s.r).cells++u.cells.drop (off+sz))),false⟩)⟩) else none) else none
   | some ⟨T,osz,.junk,false⟩=>if (v.ev s.r).cells.length=sz∧(v.ev s.r).cells.all AV.one=true∧j=0 then
     (if off=0∧sz=osz then some (true,.und,⟨s.r,upd s.m i (some ⟨T,osz,.box (v.ev s.r),false⟩)⟩) else none) else none
   | _=>none
  | _=>none):=rfl
theorem st_bin (G:FuncId→List D→D→Prop) (dd:Option Nat) (bo:Bool) (op:BinOp) (x:Opd) (y:Opd) (g:Option (Nat × Bool)) (K:St→Prop) (s:St):step G ⟨dd,.bin bo op x y,g⟩ K s=fin dd K (ev (.bin bo op x y) (dd.getD 0) s):=rfl
theorem ev_bin (bo:Bool) (op:BinOp) (x:Opd) (y:Opd) (id:Nat) (s:St):ev (.bin bo op x y) id s=(match x.ev s.r,y.ev s.r with
  | .p a,.p b=>if a.isBool=bo then match binD op a b with
   | some (c,d)=>some (c,.p d,s)
   | none=>none else none
  | _,_=>none):=rfl
theorem st_eqs (G:FuncId→List D→D→Prop) (dd:Option Nat) (n:Nat) (neg:Bool) (x:Opd) (y:Opd) (g:Option (Nat × Bool)) (K:St→Prop) (s:St):step G ⟨dd,.eqs n neg x y,g⟩ K s=fin dd K (ev (.eqs n neg x y) (dd.getD 0) s):=rfl
theorem ev_eqs (n:Nat) (neg:Bool) (x:Opd) (y:Opd) (id:Nat) (s:St):ev (.eqs n neg x y) id s=(match x.ev s.r,y.ev s.r with
  | .p (.agg a),.p (.agg b)=>match intsOf a,intsOf b with
   | some (k,l),some (k',m)=>if k=k'∧k.length=n then some (true,.p (.bool (if neg then !decide (l=m) else decide (l=m))),s) else none
   | _,_=>none
  | _,_=>none):=rfl
theorem st_un (G:FuncId→List D→D→Prop) (dd:Option Nat) (op:UnOp) (x:Opd) (g:Option (Nat × Bool)) (K:St→Prop) (s:St):step G ⟨dd,.un op x,g⟩ K s=fin dd K (ev (.un op x) (dd.getD 0) s):=rfl
theorem ev_un (op:UnOp) (x:Opd) (id:Nat) (s:St):ev (.un op x) id s=(match x.ev s.r with
  | .p a=>match unD op a with
   | some (c,d)=>some (c,.p d,s)
   | none=>none
  | _=>none):=rfl
theorem st_conv (G:FuncId→List D→D→Prop) (dd:Option Nat) (k:IntKind) (x:Opd) (g:Option (Nat × Bool)) (K:St→Prop) (s:St):step G ⟨dd,.conv k x,g⟩ K s=fin dd K (ev (.conv k x) (dd.getD 0) s):=rfl
theorem ev_conv (k:IntKind) (x:Opd) (id:Nat) (s:St):ev (.conv k x) id s=(match x.ev s.r with
  | .p (.int _ n)=>some (inK k n,.p (.int k n),s)
  | _=>none):=rfl
theorem st_makeSlice (G:FuncId→List D→D→Prop) (dd:Option Nat) (T:Nat) (sz:Nat) (bytes:Nat) (z:D) (l:Opd) (c:Opd) (g:Option (Nat × Bool)) (K:St→Prop) (s:St):step G ⟨dd,.makeSlice T sz bytes z l c,g⟩ K s=fin dd K (ev (.makeSlice T sz bytes z l c) (dd.getD 0) s):=rfl
theorem ev_makeSlice (T:Nat) (sz:Nat) (bytes:Nat) (z:D) (l:Opd) (c:Opd) (id:Nat) (s:St):ev (.makeSlice T sz bytes z l c) id s=(match s.m id with
  | none=>match asI (l.ev s.r),asI (c.ev s.r) with
   | some n,some m=>some (decide (0≤n∧n=m∧bytes*n≤281474976710656∧n≤9223372036854775807),.slice id 0 n.toNat,⟨s.r,upd s.m id (some ⟨T,sz,.row (List.replicate n.toNat z),false⟩)⟩)
   | _,_=>none
  | some _=>none):=rfl
theorem st_sliceS (G:FuncId→List D→D→Prop) (dd:Option Nat) (x:Opd) (lo:Option Opd) (hi:Option Opd) (g:Option (Nat × Bool)) (K:St→Prop) (s:St):step G ⟨dd,.sliceS x lo hi,g⟩ K s=fin dd K (ev (.sliceS x lo hi) (dd.getD 0) s):=rfl
theorem ev_sliceS (x:Opd) (lo:Option Opd) (hi:Option Opd) (id:Nat) (s:St):ev (.sliceS x lo hi) id s=(match x.ev s.r with
  | .p (.str t)=>match bounds s.r t.length lo hi none with
   | some (c,l,h)=>some (c,.p (.str ((t.drop l).take (h-l))),s)
   | none=>none
  | _=>none):=rfl
theorem st_slice (G:FuncId→List D→D→Prop) (dd:Option Nat) (sz:Nat) (x:Opd) (lo:Option Opd) (hi:Option Opd) (mx:Option Opd) (g:Option (Nat × Bool)) (K:St→Prop) (s:St):step G ⟨dd,.slice sz x lo hi mx,g⟩ K s=fin dd K (ev (.slice sz x lo hi mx) (dd.getD 0) s):=rfl
theorem ev_slice (sz:Nat) (x:Opd) (lo:Option Opd) (hi:Option Opd) (mx:Option Opd) (id:Nat) (s:St):ev (.slice sz x lo hi mx) id s=(match x.ev s.r with
  | .p (.list T sz' t)=>if sz=sz' then match bounds s.r t.length lo hi mx with
   | some (c,l,h)=>some (c,.p (.list T sz ((t.drop l).take (h-l))),s)
   | none=>none else none
  | .slice i off len=>match s.m i with
   | some o=>if o.sz=sz then match bounds s.r len lo hi mx with
    | some (c,l,h)=>some (c,.slice i (off+l) (h-l),s)
    | none=>none else none
   | none=>none
  | .nils T sz=>match bounds s.r 0 lo hi mx with
   | some (c,_,_)=>some (c,.nils T sz,s)
   | none=>none
  | _=>none):=rfl
theorem st_fieldAddr (G:FuncId→List D→D→Prop) (dd:Option Nat) (off:Nat) (sz:Nat) (ag:Bool) (x:Opd) (g:Option (Nat × Bool)) (K:St→Prop) (s:St):step G ⟨dd,.fieldAddr off sz ag x,g⟩ K s=fin dd K (ev (.fieldAddr off sz ag x) (dd.getD 0) s):=rfl
theorem ev_fieldAddr (off:Nat) (sz:Nat) (ag:Bool) (x:Opd) (id:Nat) (s:St):ev (.fieldAddr off sz ag x) id s=(match x.ev s.r with
  | .ptr i j o=>some (true,.ptr i j (o+off),s)
  | .p (.ref d)=>match d.part off sz ag with
   | some e=>some (true,.p (.ref e),s)
   | none=>none
  | _=>none):=rfl
theorem st_field (G:FuncId→List D→D→Prop) (dd:Option Nat) (off:Nat) (sz:Nat) (ag:Bool) (x:Opd) (g:Option (Nat × Bool)) (K:St→Prop) (s:St):step G ⟨dd,.field off sz ag x,g⟩ K s=fin dd K (ev (.field off sz ag x) (dd.getD 0) s):=rfl
theorem ev_field (off:Nat) (sz:Nat) (ag:Bool) (x:Opd) (id:Nat) (s:St):ev (.field off sz ag x) id s=(if (x.ev s.r).isAgg=some true then match (x.ev s.r).part off sz ag with
  | some v=>some (true,v,s)
  | none=>none else none):=rfl
theorem st_indexAddr (G:FuncId→List D→D→Prop) (dd:Option Nat) (sz:Nat) (x:Opd) (i:Opd) (g:Option (Nat × Bool)) (K:St→Prop) (s:St):step G ⟨dd,.indexAddr sz x i,g⟩ K s=fin dd K (ev (.indexAddr sz x i) (dd.getD 0) s):=rfl
theorem ev_indexAddr (sz:Nat) (x:Opd) (i:Opd) (id:Nat) (s:St):ev (.indexAddr sz x i) id s=(match x.ev s.r,asI (i.ev s.r) with
  | .p (.list _ sz' t),some n=>if sz=sz' then some (decide (0≤n∧n<t.length),.p (.ref (t.getD n.toNat default)),s) else none
  | .slice j off len,some n=>match s.m j with
   | some o=>if o.sz=sz then some (decide (0≤n∧n<len),.ptr j (off+n.toNat) 0,s) else none
   | none=>none
  | _,_=>none):=rfl
theorem st_index (G:FuncId→List D→D→Prop) (dd:Option Nat) (x:Opd) (i:Opd) (g:Option (Nat × Bool)) (K:St→Prop) (s:St):step G ⟨dd,.index x i,g⟩ K s=fin dd K (ev (.index x i) (dd.getD 0) s):=rfl
theorem ev_index (x:Opd) (i:Opd) (id:Nat) (s:St):ev (.index x i) id s=(match x.ev s.r,asI (i.ev s.r) with
  | .p (.str t),some n=>some (decide (0≤n∧n<t.length),.p (.int .u8 ((t.getD n.toNat 0).toNat:Int)),s)
  | _,_=>none):=rfl
theorem st_extract (G:FuncId→List D→D→Prop) (dd:Option Nat) (x:Opd) (i:Nat) (g:Option (Nat × Bool)) (K:St→Prop) (s:St):step G ⟨dd,.extract x i,g⟩ K s=fin dd K (ev (.extract x i) (dd.getD 0) s):=rfl
theorem ev_extract (x:Opd) (i:Nat) (id:Nat) (s:St):ev (.extract x i) id s=(match x.ev s.r with
  | .p (.tup l)=>(l[i]?).map fun d=>(true,.p d,s)
  | .tup l=>(l[i]?).map fun d=>(true,d,s)
  | _=>none):=rfl
theorem st_mm (G:FuncId→List D→D→Prop) (dd:Option Nat) (mx:Bool) (x y:Opd) (g:Option (Nat × Bool)) (K:St→Prop) (s:St):step G ⟨dd,.mm mx x y,g⟩ K s=fin dd K (ev (.mm mx x y) (dd.getD 0) s):=rfl
theorem ev_mm (mx:Bool) (x y:Opd) (id:Nat) (s:St):ev (.mm mx x y) id s=(match x.ev s.r,y.ev s.r with
  | .p (.int k p),.p (.int k' q)=>if k=k' then some (true,.p (.int k (if mx then (if q > p then q else p) else (if q<p then q else p))),s) else none
  | _,_=>none):=rfl
theorem st_lenS (G:FuncId→List D→D→Prop) (dd:Option Nat) (x:Opd) (g:Option (Nat × Bool)) (K:St→Prop) (s:St):step G ⟨dd,.lenS x,g⟩ K s=fin dd K (ev (.lenS x) (dd.getD 0) s):=rfl
theorem ev_lenS (x:Opd) (id:Nat) (s:St):ev (.lenS x) id s=(match x.ev s.r with
  | .p (.str t)=>some (true,.p (.int .i64 t.length),s)
  | _=>none):=rfl
theorem st_len (G:FuncId→List D→D→Prop) (dd:Option Nat) (x:Opd) (g:Option (Nat × Bool)) (K:St→Prop) (s:St):step G ⟨dd,.len x,g⟩ K s=fin dd K (ev (.len x) (dd.getD 0) s):=rfl
theorem ev_len (x:Opd) (id:Nat) (s:St):ev (.len x) id s=(match x.ev s.r with
  | .p (.list _ _ t)=>some (true,.p (.int .i64 t.length),s)
  | .slice _ _ n=>some (true,.p (.int .i64 n),s)
  | .nils _ _=>some (true,.p (.int .i64 0),s)
  | _=>none):=rfl
def cs0:=And.intro @cops_app (And.intro @fin_some (And.intro @fin_none (And.intro @st_call (And.intro @st_append (And.intro @gs_none (And.intro @gs_some (And.intro @opd_t (And.intro @opd_k (And.intro @asI_int (And.intro @toD_p (And.intro @toD_nils (And.intro @toD_slice (And.intro @argsD_nil (And.intro @argsD_cons (And.intro @st_mov (And.intro @ev_mov (And.intro @st_nilCheck (And.intro @ev_nilCheck (And.intro @st_pick (And.intro @ev_pick (And.intro @st_alloc (And.intro @ev_alloc (And.intro @st_box (And.intro @ev_box (And.intro @st_build (And.intro @ev_build (And.intro @st_buildSlice (And.intro @ev_buildSlice (@st_load)))))))))))))))))))))))))))))
def cs1:=And.intro @ev_load (And.intro @st_store (And.intro @ev_store (And.intro @st_bin (And.intro @ev_bin (And.intro @st_eqs (And.intro @ev_eqs (And.intro @st_un (And.intro @ev_un (And.intro @st_conv (And.intro @ev_conv (And.intro @st_makeSlice (And.intro @ev_makeSlice (And.intro @st_sliceS (And.intro @ev_sliceS (And.intro @st_slice (And.intro @ev_slice (And.intro @st_fieldAddr (And.intro @ev_fieldAddr (And.intro @st_field (And.intro @ev_field (And.intro @st_indexAddr (And.intro @ev_indexAddr (And.intro @st_index (And.intro @ev_index (And.intro @st_extract (And.intro @ev_extract (And.intro @st_mm (And.intro @ev_mm (And.intro @st_lenS (And.intro @ev_lenS (@st_len)))))))))))))))))))))))))))))))
def cs2:=And.intro @ev_len (And.intro @List.all_nil.{0} (And.intro @true_and (And.intro @upd_look (And.intro @upd_lookM (And.intro @setR_nil (And.intro @setR_cons (And.intro @setM_nil (And.intro @setM_cons (And.intro @sel_nil (And.intro @sel_cons (And.intro @look_cons (And.intro @look_nil (And.intro @lookM_cons (And.intro @lookM_nil (And.intro @Option.getD_some.{0} (And.intro @eq_self.{1} (And.intro @decide_true (And.intro @decide_false (And.intro @Bool.not_true (And.intro @Bool.not_false (And.intro @Bool.false_eq_true (And.intro @Bool.true_eq_false (And.intro @dc_bool (And.intro @do_bool (And.intro @da_bool (And.intro @dc_int (And.intro @do_int (And.intro @da_int (@dc_str)))))))))))))))))))))))))))))
def cs3:=And.intro @do_str (And.intro @da_str (And.intro @dc_list (And.intro @do_list (And.intro @da_list (And.intro @dc_nilp (And.intro @do_nilp (And.intro @da_nilp (And.intro @dc_ref (And.intro @do_ref (And.intro @da_ref (And.intro @dc_fn (And.intro @do_fn (And.intro @da_fn (And.intro @dc_agg (And.intro @do_agg (And.intro @da_agg (And.intro @ac_p (And.intro @ao_p (And.intro @aa_p (And.intro @ac_agg (And.intro @aa_agg (And.intro @ao_agg (And.intro @ac_slice (And.intro @ao_slice (And.intro @aa_slice (And.intro @ac_ptr (And.intro @ao_ptr (And.intro @aa_ptr (@ac_nils)))))))))))))))))))))))))))))
def cs4:=And.intro @ao_nils (And.intro @aa_nils (And.intro @decide_eq_true_eq (And.intro @Bool.and_eq_true (And.intro @and_true (And.intro @List.length_map.{0,0} (And.intro @List.map_cons.{0,0} (And.intro @List.map_nil.{0,0} (And.intro @getD_I (And.intro @set_I (And.intro @rep_I (And.intro @take_I (And.intro @drop_I (And.intro @app_I (And.intro @cast1 (And.intro @Int.add_sub_cancel (And.intro @Int.toNat_natCast (And.intro @List.length_set.{0} (And.intro @List.length_replicate.{0} (And.intro @true_implies (And.intro @false_implies (And.intro @List.length_cons.{0} (And.intro @List.length_nil.{0} (And.intro @Nat.zero_add (And.intro @Nat.lt_add_one (And.intro @ne_eq.{1} (And.intro @not_true_eq_false (And.intro @not_false_eq_true (And.intro @Nat.add_zero (@Nat.sub_zero)))))))))))))))))))))))))))))
def cs5:=And.intro @List.drop_zero.{0} (And.intro @List.take_length.{0} (And.intro @Int.toNat_zero (And.intro @toNat1 (And.intro @cast0 (And.intro @List.all_cons.{0} (And.intro @List.append_nil.{0} (And.intro @List.nil_append.{0} (And.intro @List.cons_append.{0} (And.intro @List.take_zero.{0} (And.intro @List.take_nil.{0} (And.intro @List.take_succ_cons.{0} (And.intro @List.drop_succ_cons.{0} (And.intro @List.drop_nil.{0} (And.intro @Bool.and_self (And.intro @and_self (And.intro @List.getElem?_cons_zero.{0} (And.intro @List.getElem?_cons_succ.{0} (And.intro @Option.map_some.{0,0} (And.intro @Nat.le_refl (And.intro @Option.some.injEq.{0} (And.intro @Bool.and_true (And.intro @Bool.true_and (And.intro @if_true.{1} (And.intro @if_false.{1} (@Option.map_none.{0,0})))))))))))))))))))))))))
end Go.Proofs.Ytdjbfgfbpimakaa.M
end

section
namespace Go.Proofs.Ytdjbfgfbpimakaa.M
open Go.RowKit
set_option linter.defProp false
theorem bd_add (k:IntKind) (a b:Int):binD .add (.int k a) (.int k b)=some (inK k (a+b),.int k (a+b)):=by simp[binD]
theorem bd_sub (k:IntKind) (a b:Int):binD .sub (.int k a) (.int k b)=some (inK k (a-b),.int k (a-b)):=by simp[binD]
theorem bd_mul (k:IntKind) (a b:Int):binD .mul (.int k a) (.int k b)=some (inK k (a*b),.int k (a*b)):=by simp[binD]
theorem bd_quo (k:IntKind) (a b:Int):binD .quo (.int k a) (.int k b)=some (decide (b≠0)&&inK k (a.tdiv b),.int k (a.tdiv b)):=by simp[binD]
theorem bd_rem (k:IntKind) (a b:Int):binD .rem (.int k a) (.int k b)=some (decide (b≠0),.int k (a.tmod b)):=by simp[binD]
theorem bd_eql (k:IntKind) (a b:Int):binD .eql (.int k a) (.int k b)=some (true,.bool (decide (a=b))):=by simp[binD]
theorem bd_neq (k:IntKind) (a b:Int):binD .neq (.int k a) (.int k b)=some (true,.bool (!decide (a=b))):=by simp[binD]
theorem bd_lss (k:IntKind) (a b:Int):binD .lss (.int k a) (.int k b)=some (true,.bool (decide (a<b))):=by simp[binD]
theorem bd_leq (k:IntKind) (a b:Int):binD .leq (.int k a) (.int k b)=some (true,.bool (decide (a≤b))):=by simp[binD]
theorem bd_gtr (k:IntKind) (a b:Int):binD .gtr (.int k a) (.int k b)=some (true,.bool (decide (b<a))):=by simp[binD]
theorem bd_geq (k:IntKind) (a b:Int):binD .geq (.int k a) (.int k b)=some (true,.bool (decide (b≤a))):=by simp[binD]
theorem bd_sadd (a b:List UInt8):binD .add (.str a) (.str b)=some (decide (a.length+b.length≤9223372036854775807),.str (a++b)):=rfl
theorem bd_seql (a b:List UInt8):binD .eql (.str a) (.str b)=some (true,.bool (decide (a=b))):=rfl
theorem bd_sneq (a b:List UInt8):binD .neq (.str a) (.str b)=some (true,.bool (!decide (a=b))):=rfl
theorem bd_beql (a b:Bool):binD .eql (.bool a) (.bool b)=some (true,.bool (a == b)):=rfl
theorem bd_bneq (a b:Bool):binD .neq (.bool a) (.bool b)=some (true,.bool (!(a == b))):=rfl
theorem ud_not (a:Bool):unD .not (.bool a)=some (true,.bool (!a)):=rfl
theorem ud_neg (k:IntKind) (a:Int):unD .neg (.int k a)=some (inK k (-a),.int k (-a)):=rfl
theorem ik_i64 (n:Int):inK .i64 n=decide (-9223372036854775808≤n∧n≤9223372036854775807):=rfl
theorem ik_u8 (n:Int):inK .u8 n=decide (0≤n∧n≤255):=rfl
theorem ib_int (k:IntKind) (n:Int):D.isBool (.int k n)=false:=rfl
theorem ib_str (s:List UInt8):D.isBool (.str s)=false:=rfl
theorem ib_bool (b:Bool):D.isBool (.bool b)=true:=rfl
def cs6:=And.intro @bd_add (And.intro @bd_sub (And.intro @bd_mul (And.intro @bd_quo (And.intro @bd_rem (And.intro @bd_eql (And.intro @bd_neq (And.intro @bd_lss (And.intro @bd_leq (And.intro @bd_gtr (And.intro @bd_geq (And.intro @bd_sadd (And.intro @bd_seql (And.intro @bd_sneq (And.intro @bd_beql (And.intro @bd_bneq (And.intro @ud_not (And.intro @ud_neg (And.intro @ik_i64 (And.intro @ik_u8 (And.intro @ib_int (And.intro @ib_str (@ib_bool))))))))))))))))))))))
def fgR (i:Nat):List (Nat × AV)→List (Nat × AV)
 | []=>[]
 | (j,v)::l=>(j,v.forget i)::fgR i l
def fgM (i:Nat):List (Nat × AObj)→List (Nat × AObj)
 | []=>[]
 | (j,v)::l=>(j,v.forget i)::fgM i l
theorem fgR_nil (i:Nat):fgR i []=[]:=rfl
theorem fgR_cons (i j:Nat) (v:AV) (l:List (Nat × AV)):fgR i ((j,v)::l)=(j,v.forget i)::fgR i l:=rfl
theorem fgM_nil (i:Nat):fgM i []=[]:=rfl
theorem fgM_cons (i j:Nat) (v:AObj) (l:List (Nat × AObj)):fgM i ((j,v)::l)=(j,v.forget i)::fgM i l:=rfl
theorem forget_und (i:Nat):AV.forget i .und = .und:=by unfold AV.forget;rfl
theorem forget_p (i:Nat) (d:D):AV.forget i (.p d) = .p d:=by unfold AV.forget;rfl
theorem forget_nils (i T sz:Nat):AV.forget i (.nils T sz) = .nils T sz:=by unfold AV.forget;rfl
theorem forget_slice (i j o n:Nat):AV.forget i (.slice j o n)=if j=i then .und else .slice j o n:=by unfold AV.forget;rfl
theorem forget_ptr (i j k o:Nat):AV.forget i (.ptr j k o)=if j=i then .und else .ptr j k o:=by unfold AV.forget;rfl
theorem of_row (i T sz:Nat) (l:List D) (f:Bool):AObj.forget i ⟨T,sz,.row l,f⟩=⟨T,sz,.row l,f⟩:=rfl
theorem of_junk (i T sz:Nat) (f:Bool):AObj.forget i ⟨T,sz,.junk,f⟩=⟨T,sz,.junk,f⟩:=rfl
theorem of_boxp (i T sz:Nat) (d:D) (f:Bool):AObj.forget i ⟨T,sz,.box (.p d),f⟩=⟨T,sz,.box (.p d),f⟩:=by simp only[AObj.forget,forget_p]
theorem forgetR_look (i:Nat):∀ (l:List (Nat × AV)),forgetR i (look l)=look (fgR i l)
 | []=>by funext j;simp only[forgetR,fgR_nil,look_nil,forget_und]
 | (k,u)::l=>by
  funext j
  have ih:=congrFun (forgetR_look i l) j
  simp only[forgetR] at ih
  simp only[forgetR,fgR_cons,look_cons]
  split
  ·rfl
  ·exact ih
theorem forgetM_look (i:Nat):∀ (l:List (Nat × AObj)),forgetM i (lookM l)=lookM (fgM i l)
 | []=>by funext j;simp only[forgetM,fgM_nil,lookM_nil,Option.map_none]
 | (k,u)::l=>by
  funext j
  have ih:=congrFun (forgetM_look i l) j
  simp only[forgetM] at ih
  simp only[forgetM,fgM_cons,lookM_cons]
  split
  ·rfl
  ·exact ih
section
variable {w0:World} {base:Nat→Prop} {nt:Nat} {loc:Locs} {s:St} {a:Act} {w:World} {OT:List TypeId}
theorem Rel.freeze (h:Rel w0 base nt loc s a w) {i:Nat} {ob:AObj} (hm:s.m i=some ob):Rel w0 base nt loc ⟨s.r,upd s.m i (some ⟨ob.T,ob.sz,ob.cont,true⟩)⟩ a w:=by
 have hother:∀ j o,upd s.m i (some ⟨ob.T,ob.sz,ob.cont,true⟩) j=some o→∃ o0,s.m j=some o0∧(o.frz=false→j≠i∧o0=o):=by
  intro j o ho
  by_cases e:j=i
  ·subst e;rw[upd_same] at ho;cases ho;exact⟨ob,hm,fun hf=>by cases hf⟩
  ·rw[upd_ne _ _ e] at ho;exact⟨o,ho,fun _=>⟨e,rfl⟩⟩
 have hN:∀ b,NB base s.m loc w b→NB base (upd s.m i (some ⟨ob.T,ob.sz,ob.cont,true⟩)) loc w b:=by
  rintro b hbN
  refine⟨hbN.1,hbN.2.1,?_⟩
  rintro⟨j,o,Lj,h1,h2,h3,h4,h5⟩
  obtain⟨o0,g1,g2⟩:=hother j o h1
  obtain⟨-,rfl⟩:=g2 h2
  exact hbN.2.2 ⟨j,o0,Lj,g1,h2,h3,h4,h5⟩
 refine⟨h.ext,h.defers,h.size,h.low,?_,fun t=>(h.tmps t).mono (fun _ _=>rfl) hN (fun _ _ h=>h),?_,?_⟩
 ·intro j hj
  dsimp only at hj
  by_cases e:j=i
  ·subst e;rw[upd_same] at hj;cases hj
  ·rw[upd_ne _ _ e] at hj;exact h.dom j hj
 ·intro j o ho
  dsimp only at ho
  by_cases e:j=i
  ·subst e
   rw[upd_same] at ho
   cases ho
   obtain⟨L,hL,hok⟩:=h.objs j ob hm
   refine⟨L,hL,hok.sz,hok.nil,fun hn => ?_⟩
   obtain⟨c,fr,k1,k2,k3,k4,k5⟩:=hok.at_ hn
   refine⟨c,fr,k1,k2,k3.mono (fun _ _=>rfl) hN (fun _ _ h=>h),(fun hf=>by cases hf),fun _ => ?_⟩
   cases hf:ob.frz with
   | true=>exact hN _ (k5 hf)
   | false =>
    refine⟨h.obj_lt hm hL hn,fun hb => ?_,?_⟩
    ·have:=(k4 hf).1
     have:=h.low _ hb
     omega
    ·rintro⟨j',o',L',h1,h2,h3,h4,h5⟩
     obtain⟨o0,g1,g2⟩:=hother j' o' h1
     exact (g2 h2).1 (h.inj j j' ob o0 L L' hm g1 hf hL h3 hn h4 h5.symm).symm
  ·rw[upd_ne _ _ e] at ho
   obtain⟨L,hL,hok⟩:=h.objs j o ho
   refine⟨L,hL,hok.sz,hok.nil,fun hn => ?_⟩
   obtain⟨c,fr,k1,k2,k3,k4,k5⟩:=hok.at_ hn
   exact⟨c,fr,k1,k2,k3.mono (fun _ _=>rfl) hN (fun _ _ h=>h),k4,fun hf=>hN _ (k5 hf)⟩
 ·intro j j' o o' Lj Lj' ho ho' hf hLj hLj' hn hn' hbb
  obtain⟨o0,g1,g2⟩:=hother j o ho
  obtain⟨o0',g1',-⟩:=hother j' o' ho'
  obtain⟨-,rfl⟩:=g2 hf
  exact h.inj j j' o0 o0' Lj Lj' g1 g1' hf hLj hLj' hn hn' hbb
theorem Sub.freeze {i:Nat} {r:Nat→AV} {m:Mem} {ob:AObj} (hm:m i=some ob):Sub OT ⟨r,m⟩ ⟨r,upd m i (some ⟨ob.T,ob.sz,ob.cont,true⟩)⟩:=by
 rintro C a w rfl ⟨⟨loc,hr⟩,h2⟩
 refine⟨⟨_,hr.freeze hm⟩,fun j o ho => ?_⟩
 dsimp only at ho
 by_cases e:j=i
 ·subst e;rw[upd_same] at ho;cases ho;exact h2 j ob hm
 ·rw[upd_ne _ _ e] at ho;exact h2 j o ho
theorem keepF (i:Nat) (ob:AObj) (ts:List Nat) {r:Nat→AV} {m:Mem} {R:St→Prop} (hm:m i=some ob) (h:R ⟨look (sel r ts),upd m i (some ⟨ob.T,ob.sz,ob.cont,true⟩)⟩):∃ u,Sub OT ⟨r,m⟩ u∧R u:=⟨_,(Sub.freeze hm).tr (Sub.und (sel_or ts)),h⟩
end
end Go.Proofs.Ytdjbfgfbpimakaa.M
end

section
namespace Go.Proofs.Ytdjbfgfbpimakaa.M
open Go.RowKit
set_option linter.defProp false
mutual
def AV.men (L:List Nat):AV→Bool
 | .slice i _ _=>L.contains i
 | .ptr i _ _=>L.contains i
 | .agg l=>menL L l
 | .tup l=>menL L l
 | _=>false
def menL (L:List Nat):List AV→Bool
 | []=>false
 | v::l=>v.men L||menL L l
end
def AObj.men (L:List Nat) (o:AObj):Bool:=match o.cont with
 | .box v=>v.men L
 | _=>false
def closedR (L:List Nat):List (Nat × AV)→Bool
 | []=>true
 | (_,v)::l => !v.men L&&closedR L l
def closedM (L:List Nat):List (Nat × AObj)→Bool
 | []=>true
 | (i,o)::l=>(L.contains i||!o.men L)&&closedM L l
def memN (i:Nat):List Nat→Bool
 | []=>false
 | j::l=>if i=j then true else memN i l
theorem memN_eq (i:Nat):∀ l:List Nat,l.contains i=memN i l
 | []=>rfl
 | j::l=>by
  rw[List.contains_cons,memN_eq i l,memN]
  by_cases h:i=j<;>simp[h]
def delL (L:List Nat):List (Nat × AObj)→List (Nat × AObj)
 | []=>[]
 | (i,o)::l=>if memN i L=true then delL L l else (i,o)::delL L l
theorem delL_nil (L:List Nat):delL L []=[]:=rfl
theorem delL_cons (L:List Nat) (i:Nat) (o:AObj) (l:List (Nat × AObj)):delL L ((i,o)::l)=if memN i L=true then delL L l else (i,o)::delL L l:=rfl
theorem memN_nil (i:Nat):memN i []=false:=rfl
theorem memN_cons (i j:Nat) (l:List Nat):memN i (j::l)=if i=j then true else memN i l:=rfl
def csG:=And.intro @delL_nil (And.intro @delL_cons (And.intro @memN_nil (@memN_cons)))
theorem menL_mem {L:List Nat} {l:List AV} (h:menL L l=false):∀ v∈l,v.men L=false:=by
 induction l with
 | nil=>simp
 | cons u l ih =>
  simp only[menL,Bool.or_eq_false_iff] at h
  intro v hv
  rcases List.mem_cons.1 hv with rfl | hv
  ·exact h.1
  ·exact ih h.2 v hv
theorem men_cells {L:List Nat} {x:AV} (h:x.men L=false):∀ e∈x.cells,e.men L=false:=by
 cases x with
 | p d =>
  intro e he
  simp only[AV.cells,List.mem_map] at he
  obtain⟨_,_,rfl⟩:=he
  unfold AV.men;rfl
 | agg l=>rw[AV.men] at h;exact menL_mem h
 | _=>intro e he;simp only[AV.cells,List.mem_singleton] at he;subst he;exact h
section
variable {w0:World} {base:Nat→Prop} {nt:Nat} {loc loc':Locs} {a:Act} {w:World} {OT:List TypeId} {N N':Nat→Prop} {r:Nat→AV} {m:Mem}
theorem RV.lose {L:List Nat} {v:Value} {x:AV} (h:RV w N loc v x) (hx:x.men L=false) (hn:∀ b,N b→N' b) (hl:∀ id K,L.contains id=false→loc id=some K→loc' id=some K):RV w N' loc' v x:=by
 induction h with
 | und v=>exact .und v
 | p v d h=>exact .p v d (h.mono (fun _ _=>rfl) hn)
 | agg cs l h1 h2 _ ih=>rw[AV.men] at hx;exact .agg cs l h1 h2 fun i d hd=>ih i d hd (menL_mem hx d (List.mem_of_getElem? hd))
 | tup cs l h1 _ ih=>rw[AV.men] at hx;exact .tup cs l h1 fun i d hd=>ih i d hd (menL_mem hx d (List.mem_of_getElem? hd))
 | nils T sz=>exact .nils T sz
 | slice K id off len cap h1 h2 h3 h4 h5=>rw[AV.men] at hx;exact .slice K id off len cap (hl _ _ hx h1) h2 h3 h4 h5
 | sliceEmp K id off p h1=>rw[AV.men] at hx;exact .sliceEmp K id off p (hl _ _ hx h1)
 | ptr K id i off h1 h2=>rw[AV.men] at hx;exact .ptr K id i off (hl _ _ hx h1) h2
theorem Rel.dropL (h:Rel w0 base nt loc ⟨r,m⟩ a w) (L:List Nat) {r':Nat→AV} {m':Mem} (hr:∀ t,r' t = .und∨(r' t=r t∧(r t).men L=false)) (hm:∀ i,m' i=if L.contains i then none else m i)
  (hc:∀ i o,m' i=some o→o.men L=false):Rel w0 base nt (fun i=>if L.contains i then none else loc i) ⟨r',m'⟩ a w:=by
 have hl:∀ j K,L.contains j=false→loc j=some K→(fun i=>if L.contains i then none else loc i) j=some K:=fun j K hj hK=>by simp only[hj];exact hK
 have hother:∀ j ob,m' j=some ob→L.contains j=false∧m j=some ob:=by
  intro j ob hob
  rw[hm] at hob
  cases hj:L.contains j with
  | true=>rw[hj] at hob;cases hob
  | false=>rw[hj] at hob;exact⟨rfl,hob⟩
 have hN:∀ b,NB base m loc w b→NB base m' (fun i=>if L.contains i then none else loc i) w b:=by
  rintro b hbN
  refine⟨hbN.1,hbN.2.1,?_⟩
  rintro⟨j,ob,Lj,h1,h2,h3,h4,h5⟩
  obtain⟨hj,g1⟩:=hother j ob h1
  simp only[hj] at h3
  exact hbN.2.2 ⟨j,ob,Lj,g1,h2,h3,h4,h5⟩
 refine⟨h.ext,h.defers,h.size,h.low,?_,fun t => ?_,?_,?_⟩
 ·intro j hj
  dsimp only at hj ⊢
  rw[hm] at hj
  cases e:L.contains j with
  | true=>rfl
  | false=>rw[e] at hj;exact h.dom j hj
 ·dsimp only
  rcases hr t with e | ⟨e,e2⟩<;>rw[e]
  ·exact .und _
  ·exact RV.lose (L:=L) (h.tmps t) e2 hN hl
 ·intro j ob hob
  obtain⟨e,g1⟩:=hother j ob hob
  obtain⟨Lj,hLj,hokj⟩:=h.objs j ob g1
  refine⟨Lj,hl j Lj e hLj,hokj.sz,hokj.nil,fun hn => ?_⟩
  obtain⟨c,fr,k1,k2,k3,k4,k5⟩:=hokj.at_ hn
  refine⟨c,fr,k1,k2,?_,k4,fun hf=>hN _ (k5 hf)⟩
  have hmen:=hc j ob hob
  unfold AObj.men at hmen
  cases hcont:ob.cont with
  | row l=>rw[hcont] at k3;exact⟨k3.1,k3.2.1,fun i e j d h1 h2=>⟨(k3.2.2 i e j d h1 h2).1,(k3.2.2 i e j d h1 h2).2.mono (fun _ _=>rfl) hN⟩⟩
  | junk=>rw[hcont] at k3;exact k3
  | box v =>
   rw[hcont] at k3 hmen
   exact⟨k3.1,k3.2.1,k3.2.2.1,fun j d h1=>(k3.2.2.2 j d h1).lose (men_cells hmen d (List.mem_of_getElem? h1)) hN hl⟩
 ·intro j j' ob ob' Lj Lj' hob hob' hf hLj hLj' hn hn' hbb
  obtain⟨e,g1⟩:=hother j ob hob
  obtain⟨e',g1'⟩:=hother j' ob' hob'
  simp only[e] at hLj
  simp only[e'] at hLj'
  exact h.inj j j' ob ob' Lj Lj' g1 g1' hf hLj hLj' hn hn' hbb
theorem Sub.dropL (L:List Nat) {r':Nat→AV} {m':Mem} (hr:∀ t,r' t = .und∨(r' t=r t∧(r t).men L=false)) (hm:∀ i,m' i=if L.contains i then none else m i)
  (hc:∀ i o,m' i=some o→o.men L=false):Sub OT ⟨r,m⟩ ⟨r',m'⟩:=by
 rintro C a w rfl ⟨⟨loc,hR⟩,h2⟩
 refine⟨⟨_,hR.dropL L hr hm hc⟩,fun j o ho => ?_⟩
 dsimp only at ho
 rw[hm] at ho
 split at ho
 ·cases ho
 ·exact h2 j o ho
theorem look_closed {L:List Nat}:∀ {l:List (Nat × AV)} (t:Nat),closedR L l=true→(look l t).men L=false
 | [],t,_=>by rw[look_nil];unfold AV.men;rfl
 | (i,v)::l,t,h=>by
  simp only[closedR,Bool.and_eq_true,Bool.not_eq_true'] at h
  rw[look_cons]
  split
  ·exact h.1
  ·exact look_closed t h.2
theorem lookM_del (L:List Nat):∀ (l:List (Nat × AObj)) (i:Nat),lookM (delL L l) i=if L.contains i then none else lookM l i
 | [],i=>by rw[delL_nil,lookM_nil];split<;>rfl
 | (j,o)::l,i=>by
  have ih:=lookM_del L l i
  rw[delL_cons,lookM_cons]
  by_cases hj:memN j L=true
  ·rw[if_pos hj,ih]
   by_cases e:i=j
   ·subst e;rw[memN_eq,hj];rfl
   ·rw[if_neg e]
  ·rw[if_neg hj,lookM_cons,ih]
   by_cases e:i=j
   ·subst e;rw[if_pos rfl,memN_eq,if_neg hj,if_pos rfl]
   ·rw[if_neg e,if_neg e]
theorem lookM_closed {L:List Nat}:∀ {l:List (Nat × AObj)} (i:Nat) (o:AObj),closedM L l=true→lookM (delL L l) i=some o→o.men L=false
 | [],i,o,_,h=>by rw[delL_nil] at h;cases h
 | (j,q)::l,i,o,h,ho=>by
  simp only[closedM,Bool.and_eq_true,Bool.or_eq_true,Bool.not_eq_true'] at h
  rw[delL_cons] at ho
  split at ho
  ·exact lookM_closed i o h.2 ho
  ·rename_i hj
   rw[lookM_cons] at ho
   split at ho
   ·cases ho
    rw[memN_eq] at h
    exact h.1.resolve_left hj
   ·exact lookM_closed i o h.2 ho
theorem Sub.keepG (ts L:List Nat) {R:List (Nat × AV)} {M:List (Nat × AObj)} (h1:closedR L (sel (look R) ts)=true) (h2:closedM L M=true):Sub OT ⟨look R,lookM M⟩ ⟨look (sel (look R) ts),lookM (delL L M)⟩:=
 (Sub.und (sel_or ts)).tr (Sub.dropL L (fun t => .inr ⟨rfl,look_closed t h1⟩) (lookM_del L M) (fun i o ho=>lookM_closed i o h2 ho))
theorem keepG (ts L:List Nat) {R:List (Nat × AV)} {M:List (Nat × AObj)} {K:St→Prop} (h1:closedR L (sel (look R) ts)=true) (h2:closedM L M=true) (h:K ⟨look (sel (look R) ts),lookM (delL L M)⟩):∃ u,Sub OT ⟨look R,lookM M⟩ u∧K u:=
 ⟨_,Sub.keepG ts L h1 h2,h⟩
theorem Sub.toG (ts L:List Nat) {R:List (Nat × AV)} {M:List (Nat × AObj)} {r':Nat→AV} {m':Mem} (h1:closedR L (sel (look R) ts)=true) (h2:closedM L M=true) (e1:look (sel (look R) ts)=r') (e2:lookM (delL L M)=m'):Sub OT ⟨look R,lookM M⟩ ⟨r',m'⟩:=by
 subst e1 e2;exact Sub.keepG ts L h1 h2
theorem Sub.nilG (t i T sz:Nat) {R:List (Nat × AV)} {M:List (Nat × AObj)} {r':Nat→AV} {m':Mem} (ht:look R t = .nils T sz) (hm:lookM M i=none) (hT:OT.contains T=true)
  (e1:look (setR t (.slice i 0 0) R)=r') (e2:lookM (setM i ⟨T,sz,.row [],false⟩ M)=m'):Sub OT ⟨look R,lookM M⟩ ⟨r',m'⟩:=by
 subst e1 e2
 rw[←upd_look,←upd_lookM]
 exact Sub.nil t i ht hm (by simpa using hT)
theorem ea_nils (T sz bytes:Nat) (x y:Opd) (id:Nat) (s:St):evApp T sz bytes x y id s=(match elemsOf sz s.m (y.ev s.r) with
 | none=>none
 | some ys=>match x.ev s.r with
  | .nils _ sz'=>match s.m id with
   | none=>if sz'=sz then some (decide (ys.length*bytes≤140737488355328∧ys.length≤9223372036854775807),.slice id 0 ys.length,⟨s.r,upd s.m id (some ⟨T,sz,.row ys,false⟩)⟩) else none
   | some _=>none
  | .slice i 0 n=>match s.m i with
   | some ⟨T',sz',.row l,false⟩=>if sz'=sz∧T'=T∧n=l.length then
     some (decide ((n+ys.length)*bytes≤140737488355328∧n+ys.length≤9223372036854775807),.slice i 0 (n+ys.length),⟨forgetR i s.r,upd (forgetM i s.m) i (some ⟨T,sz,.row (l++ys),false⟩)⟩) else none
   | _=>none
  | _=>none):=rfl
theorem eo_eq (sz:Nat) (m:Mem) (v:AV):elemsOf sz m v=(match v with
 | .slice j off n=>match m j with
  | some ⟨_,sz',.row l,_⟩=>if sz'=sz∧off+n≤l.length then some ((l.drop off).take n) else none
  | _=>none
 | .p (.list _ sz' l)=>if sz'=sz then some l else none
 | .nils _ sz'=>if sz'=sz then some [] else none
 | _=>none):=rfl
theorem fr_nil (sz:Nat) (l:List D) (r:Nat→AV) (M:Mem):fillR sz l r M []=some l:=rfl
theorem fr_cons (sz:Nat) (l:List D) (r:Nat→AV) (M:Mem) (i:Nat) (x:Opd) (rest:List (Nat × Opd)):fillR sz l r M ((i,x)::rest)=(match (x.ev r).toD false M 20 with
 | some d=>if d.cells.length=sz∧d.cells.all D.one=true∧i<l.length then fillR sz (l.set i d) r M rest else none
 | none=>none):=rfl
theorem rep_1 (z:D):List.replicate 1 z=[z]:=rfl
theorem rep_2 (z:D):List.replicate 2 z=[z,z]:=rfl
theorem set_0 (x z:D) (l:List D):(z::l).set 0 x=x::l:=rfl
theorem set_1 (x y z:D) (l:List D):(z::y::l).set 1 x=z::x::l:=rfl
theorem st_bsF (G:FuncId→List D→D→Prop) (dd:Option Nat) (T:Nat) (sz:Nat) (z:D) (n:Nat) (parts:List (Nat × Opd)) (g:Option (Nat × Bool)) (K:St→Prop) (s:St):step G ⟨dd,.buildSliceF T sz z n parts,g⟩ K s=fin dd K (ev (.buildSliceF T sz z n parts) (dd.getD 0) s):=rfl
theorem ev_bsF (T:Nat) (sz:Nat) (z:D) (n:Nat) (parts:List (Nat × Opd)) (id:Nat) (s:St):ev (.buildSliceF T sz z n parts) id s=(match s.m id with
  | none=>match fillR sz (List.replicate n z) s.r s.m parts with
   | some l=>some (true,.slice id 0 n,⟨s.r,upd s.m id (some ⟨T,sz,.row l,true⟩)⟩)
   | none=>none
  | some _=>none):=rfl
def frzO (id:Nat):Option (Bool × AV × St)→Option (Bool × AV × St)
 | some (p,v,t)=>some (p,v,frzS id t)
 | none=>none
theorem frzO_some (id:Nat) (p:Bool) (v:AV) (t:St):frzO id (some (p,v,t))=some (p,v,frzS id t):=rfl
theorem st_appF (G:FuncId→List D→D→Prop) (d:Option Nat) (T sz b:Nat) (x y:Opd) (g:Option (Nat × Bool)) (K:St→Prop) (s:St):step G ⟨d,.appendF T sz b x y,g⟩ K s=fin d K (frzO (d.getD 0) (evApp T sz b x y (d.getD 0) s)):=by
 unfold step frzO
 simp only
 cases evApp T sz b x y (d.getD 0) s<;>rfl
theorem frzS_eq (id:Nat) (r:Nat→AV) (m:Mem):frzS id ⟨r,m⟩=(match m id with
 | some o=>⟨r,upd m id (some ⟨o.T,o.sz,o.cont,true⟩)⟩
 | none=>⟨r,m⟩):=rfl
def csA:=And.intro @st_bsF (And.intro @ev_bsF (And.intro @frzO_some (And.intro @st_appF (And.intro @frzS_eq (And.intro @fr_nil (And.intro @fr_cons (And.intro @rep_1 (And.intro @rep_2 (And.intro @set_0 (And.intro @set_1 (And.intro @ea_nils (And.intro @eo_eq (And.intro @forgetR_look (And.intro @forgetM_look (And.intro @fgR_nil (And.intro @fgR_cons (And.intro @fgM_nil (And.intro @fgM_cons (And.intro @forget_und (And.intro @forget_p (And.intro @forget_nils (And.intro @forget_slice (And.intro @forget_ptr (And.intro @of_row (And.intro @of_junk (@of_boxp))))))))))))))))))))))))))
def csW:=And.intro cs0 (And.intro cs1 (And.intro cs2 (And.intro cs3 (And.intro cs4 (And.intro cs5 (And.intro cs6 (And.intro csG (And.intro csA (And.intro @St.put.eq_1 (And.intro @St.put.eq_2 (And.intro @apOk.eq_1 (And.intro @bounds.eq_1 (And.intro @bounds.eq_2 (And.intro @bounds.eq_3 (And.intro @bounds.eq_4 (And.intro @bounds.eq_5 (And.intro @Option.getD_none.{0} (And.intro @forall_const.{0} (@forall_const.{1})))))))))))))))))))
end
end Go.Proofs.Ytdjbfgfbpimakaa.M
end

section
namespace Go.Proofs.Ytdjbfgfbpimakaa.M
open Go.RowKit
section
variable {OT:List TypeId} {r:Nat→AV} {m:Mem}
theorem keepF2 (i:Nat) (ob:AObj) (j:Nat) (ob':AObj) (ts:List Nat) {R:St→Prop} (hm:m i=some ob) (hm':upd m i (some ⟨ob.T,ob.sz,ob.cont,true⟩) j=some ob')
  (h:R ⟨look (sel r ts),upd (upd m i (some ⟨ob.T,ob.sz,ob.cont,true⟩)) j (some ⟨ob'.T,ob'.sz,ob'.cont,true⟩)⟩):∃ u,Sub OT ⟨r,m⟩ u∧R u:=
 ⟨_,((Sub.freeze hm).tr (Sub.freeze hm')).tr (Sub.und (sel_or ts)),h⟩
end
end Go.Proofs.Ytdjbfgfbpimakaa.M
end

section
namespace Go.Proofs.Ytdjbfgfbpimakaa.M
open Go.RowKit
end Go.Proofs.Ytdjbfgfbpimakaa.M
end

section
namespace Go.Proofs.Ytdjbfgfbpimakaa.M
open Go.RowKit
def l5_0:List COp:=[
 ⟨some 6,.mov (.k (.p (.bool false))),none⟩]
def c5_1:CC:=.ops [] (l5_0)
def l5_2:List COp:=[
 ⟨some 21,.mov (.t 0),none⟩,
 ⟨some 22,.call 6 [(.t 21)],none⟩]
def l5_3:List COp:=[
 ⟨some 20,.mov (.t 22),none⟩,
 ⟨some 23,.extract (.t 20) 0,none⟩,
 ⟨some 24,.extract (.t 20) 1,none⟩,
 ⟨some 7,.alloc 25 1 (.p (.agg [(.list 39 4 [])])),none⟩,
 ⟨some 8,.alloc 27 2 (.p (.agg [(.int .i64 0),(.int .i64 0)])),none⟩,
 ⟨none,.store 1 (.t 7) (.t 23),none⟩,
 ⟨none,.store 2 (.t 8) (.t 24),none⟩]
def c5_4:CC:=.ops [] (l5_2++(l5_3))
def l5_5:List COp:=[
 ⟨some 26,.mov (.t 1),none⟩,
 ⟨some 27,.call 6 [(.t 26)],none⟩]
def l5_6:List COp:=[
 ⟨some 25,.mov (.t 27),none⟩,
 ⟨some 28,.extract (.t 25) 0,none⟩,
 ⟨some 29,.extract (.t 25) 1,none⟩,
 ⟨some 9,.alloc 25 1 (.p (.agg [(.list 39 4 [])])),none⟩,
 ⟨some 10,.alloc 27 2 (.p (.agg [(.int .i64 0),(.int .i64 0)])),none⟩,
 ⟨none,.store 1 (.t 9) (.t 28),none⟩,
 ⟨none,.store 2 (.t 10) (.t 29),none⟩]
def c5_7:CC:=.ops [] (l5_5++(l5_6))
def l5_8:List COp:=[
 ⟨some 31,.mov (.t 2),none⟩,
 ⟨some 32,.call 6 [(.t 31)],none⟩]
def l5_9:List COp:=[
 ⟨some 30,.mov (.t 32),none⟩,
 ⟨some 33,.extract (.t 30) 0,none⟩,
 ⟨some 34,.extract (.t 30) 1,none⟩,
 ⟨some 11,.alloc 25 1 (.p (.agg [(.list 39 4 [])])),none⟩,
 ⟨some 12,.alloc 27 2 (.p (.agg [(.int .i64 0),(.int .i64 0)])),none⟩,
 ⟨none,.store 1 (.t 11) (.t 33),none⟩,
 ⟨none,.store 2 (.t 12) (.t 34),none⟩]
def c5_10:CC:=.ops [] (l5_8++(l5_9))
def l5_11:List COp:=[
 ⟨some 35,.call 8 [],none⟩]
def l5_12:List COp:=[
 ⟨some 36,.un .not (.t 35),none⟩]
def c5_13:CC:=.ops [] (l5_11++(l5_12))
def l5_14:List COp:=[
 ⟨some 6,.mov (.k (.p (.bool false))),none⟩]
def c5_15:CC:=.ops [] (l5_14)
def c5_16:CC:=.seq c5_15 .ret
def c5_17:CC:=.cond (.t 36) c5_16 .skip
def c5_18:CC:=.seq c5_13 c5_17
def l5_19:List COp:=[
 ⟨some 37,.fieldAddr 0 1 false (.t 8),none⟩,
 ⟨some 38,.load false 1 (.t 37),none⟩,
 ⟨some 39,.bin false .neq (.t 38) (.k (.p (.int .i64 0))),none⟩,
 ⟨some 40,.mov (.t 39),none⟩,
 ⟨some 41,.fieldAddr 0 1 false (.t 10),some (40,false)⟩,
 ⟨some 42,.load false 1 (.t 41),some (40,false)⟩,
 ⟨some 43,.bin false .neq (.t 42) (.k (.p (.int .i64 0))),some (40,false)⟩,
 ⟨some 44,.pick (.t 40) (.k (.p (.bool true))) (.t 43),none⟩,
 ⟨some 45,.mov (.t 44),none⟩,
 ⟨some 46,.fieldAddr 0 1 false (.t 12),some (45,false)⟩,
 ⟨some 47,.load false 1 (.t 46),some (45,false)⟩,
 ⟨some 48,.bin false .neq (.t 47) (.k (.p (.int .i64 0))),some (45,false)⟩,
 ⟨some 49,.pick (.t 45) (.k (.p (.bool true))) (.t 48),none⟩,
 ⟨some 50,.mov (.t 49),none⟩,
 ⟨some 51,.load true 1 (.t 7),some (50,false)⟩,
 ⟨some 52,.call 22 [(.t 51)],some (50,false)⟩]
def l5_20:List COp:=[
 ⟨some 53,.load true 1 (.t 9),some (50,false)⟩,
 ⟨some 54,.call 22 [(.t 53)],some (50,false)⟩]
def l5_21:List COp:=[
 ⟨some 56,.load true 1 (.t 11),some (50,false)⟩,
 ⟨some 57,.call 22 [(.t 56)],some (50,false)⟩]
def l5_22:List COp:=[
 ⟨some 55,.bin false .add (.t 52) (.t 54),some (50,false)⟩,
 ⟨some 58,.bin false .add (.t 55) (.t 57),some (50,false)⟩,
 ⟨some 59,.bin false .gtr (.t 58) (.k (.p (.int .i64 24))),some (50,false)⟩,
 ⟨some 60,.pick (.t 50) (.k (.p (.bool true))) (.t 59),none⟩]
def c5_23:CC:=.ops [] (l5_19++(l5_20++(l5_21++(l5_22))))
def l5_24:List COp:=[
 ⟨some 6,.mov (.k (.p (.bool true))),none⟩]
def c5_25:CC:=.ops [] (l5_24)
def c5_26:CC:=.seq c5_25 .ret
def c5_27:CC:=.cond (.t 60) c5_26 .skip
def c5_28:CC:=.seq c5_23 c5_27
def l5_29:List COp:=[
 ⟨some 62,.load true 1 (.t 7),none⟩,
 ⟨some 63,.call 25 [(.t 62)],none⟩]
def l5_30:List COp:=[
 ⟨some 61,.mov (.t 63),none⟩,
 ⟨some 64,.extract (.t 61) 0,none⟩,
 ⟨some 65,.extract (.t 61) 1,none⟩,
 ⟨some 13,.alloc 39 4 (.p (.agg [(.bool false),(.list 116 1 []),(.bool false),(.list 116 1 [])])),none⟩,
 ⟨some 14,.alloc 25 1 (.p (.agg [(.list 39 4 [])])),none⟩,
 ⟨none,.store 4 (.t 13) (.t 64),none⟩,
 ⟨none,.store 1 (.t 14) (.t 65),none⟩]
def c5_31:CC:=.ops [] (l5_29++(l5_30))
def l5_32:List COp:=[
 ⟨some 67,.load true 1 (.t 9),none⟩,
 ⟨some 68,.call 25 [(.t 67)],none⟩]
def l5_33:List COp:=[
 ⟨some 66,.mov (.t 68),none⟩,
 ⟨some 69,.extract (.t 66) 0,none⟩,
 ⟨some 70,.extract (.t 66) 1,none⟩,
 ⟨some 15,.alloc 39 4 (.p (.agg [(.bool false),(.list 116 1 []),(.bool false),(.list 116 1 [])])),none⟩,
 ⟨some 16,.alloc 25 1 (.p (.agg [(.list 39 4 [])])),none⟩,
 ⟨none,.store 4 (.t 15) (.t 69),none⟩,
 ⟨none,.store 1 (.t 16) (.t 70),none⟩]
def c5_34:CC:=.ops [] (l5_32++(l5_33))
def l5_35:List COp:=[
 ⟨some 72,.load true 1 (.t 7),none⟩,
 ⟨some 73,.load true 1 (.t 9),none⟩,
 ⟨some 74,.call 26 [(.t 72),(.t 73)],none⟩]
def l5_36:List COp:=[
 ⟨some 75,.call 25 [(.t 74)],none⟩]
def l5_37:List COp:=[
 ⟨some 71,.mov (.t 75),none⟩,
 ⟨some 76,.extract (.t 71) 0,none⟩,
 ⟨some 77,.extract (.t 71) 1,none⟩,
 ⟨some 17,.alloc 39 4 (.p (.agg [(.bool false),(.list 116 1 []),(.bool false),(.list 116 1 [])])),none⟩,
 ⟨some 18,.alloc 25 1 (.p (.agg [(.list 39 4 [])])),none⟩,
 ⟨none,.store 4 (.t 17) (.t 76),none⟩,
 ⟨none,.store 1 (.t 18) (.t 77),none⟩]
def c5_38:CC:=.ops [] (l5_35++(l5_36++(l5_37)))
def l5_39:List COp:=[
 ⟨some 78,.load true 4 (.t 13),none⟩,
 ⟨some 79,.load true 4 (.t 15),none⟩,
 ⟨some 80,.call 27 [(.t 78),(.t 79)],none⟩]
def l5_40:List COp:=[
 ⟨some 81,.load true 4 (.t 17),none⟩,
 ⟨some 82,.call 23 [(.t 80),(.t 81)],none⟩]
def l5_41:List COp:=[
 ⟨some 83,.bin false .neq (.t 82) (.k (.p (.int .i64 0))),none⟩,
 ⟨some 84,.mov (.t 83),none⟩,
 ⟨some 85,.load true 1 (.t 14),some (84,false)⟩,
 ⟨some 86,.load true 1 (.t 16),some (84,false)⟩,
 ⟨some 87,.call 26 [(.t 85),(.t 86)],some (84,false)⟩]
def l5_42:List COp:=[
 ⟨some 88,.load true 1 (.t 18),some (84,false)⟩,
 ⟨some 89,.call 28 [(.t 87),(.t 88)],some (84,false)⟩]
def l5_43:List COp:=[
 ⟨some 90,.un .not (.t 89),some (84,false)⟩,
 ⟨some 91,.pick (.t 84) (.k (.p (.bool true))) (.t 90),none⟩]
def c5_44:CC:=.ops [] (l5_39++(l5_40++(l5_41++(l5_42++(l5_43)))))
def l5_45:List COp:=[
 ⟨some 6,.mov (.k (.p (.bool false))),none⟩]
def c5_46:CC:=.ops [] (l5_45)
def c5_47:CC:=.seq c5_46 .ret
def c5_48:CC:=.cond (.t 91) c5_47 .skip
def c5_49:CC:=.seq c5_44 c5_48
def l5_50:List COp:=[
 ⟨some 92,.load true 1 (.t 7),none⟩,
 ⟨some 93,.load true 1 (.t 9),none⟩,
 ⟨some 94,.call 26 [(.t 92),(.t 93)],none⟩]
def l5_51:List COp:=[
 ⟨some 95,.call 29 [(.t 94)],none⟩]
def l5_52:List COp:=[
 ⟨some 96,.load true 1 (.t 7),none⟩,
 ⟨some 97,.call 29 [(.t 96)],none⟩]
def l5_53:List COp:=[
 ⟨some 98,.load true 1 (.t 9),none⟩,
 ⟨some 99,.call 26 [(.t 97),(.t 98)],none⟩]
def l5_54:List COp:=[
 ⟨some 100,.load true 1 (.t 7),none⟩,
 ⟨some 101,.load true 1 (.t 9),none⟩,
 ⟨some 102,.call 29 [(.t 101)],none⟩]
def l5_55:List COp:=[
 ⟨some 103,.call 26 [(.t 100),(.t 102)],none⟩]
def l5_56:List COp:=[
 ⟨some 104,.call 30 [(.t 99),(.t 103)],none⟩]
def l5_57:List COp:=[
 ⟨some 105,.call 28 [(.t 95),(.t 104)],none⟩]
def l5_58:List COp:=[
 ⟨some 106,.un .not (.t 105),none⟩,
 ⟨some 107,.mov (.t 106),none⟩,
 ⟨some 108,.load true 1 (.t 7),some (107,false)⟩,
 ⟨some 109,.load true 1 (.t 9),some (107,false)⟩,
 ⟨some 110,.call 30 [(.t 108),(.t 109)],some (107,false)⟩]
def l5_59:List COp:=[
 ⟨some 111,.load true 1 (.t 11),some (107,false)⟩,
 ⟨some 112,.call 26 [(.t 110),(.t 111)],some (107,false)⟩]
def l5_60:List COp:=[
 ⟨some 113,.load true 1 (.t 7),some (107,false)⟩,
 ⟨some 114,.load true 1 (.t 11),some (107,false)⟩,
 ⟨some 115,.call 26 [(.t 113),(.t 114)],some (107,false)⟩]
def l5_61:List COp:=[
 ⟨some 116,.load true 1 (.t 9),some (107,false)⟩,
 ⟨some 117,.load true 1 (.t 11),some (107,false)⟩,
 ⟨some 118,.call 26 [(.t 116),(.t 117)],some (107,false)⟩]
def l5_62:List COp:=[
 ⟨some 119,.call 30 [(.t 115),(.t 118)],some (107,false)⟩]
def l5_63:List COp:=[
 ⟨some 120,.call 28 [(.t 112),(.t 119)],some (107,false)⟩]
def l5_64:List COp:=[
 ⟨some 121,.un .not (.t 120),some (107,false)⟩,
 ⟨some 122,.pick (.t 107) (.k (.p (.bool true))) (.t 121),none⟩]
def c5_65:CC:=.ops [] (l5_50++(l5_51++(l5_52++(l5_53++(l5_54++(l5_55++(l5_56++(l5_57++(l5_58++(l5_59++(l5_60++(l5_61++(l5_62++(l5_63++(l5_64)))))))))))))))
def l5_66:List COp:=[
 ⟨some 6,.mov (.k (.p (.bool false))),none⟩]
def c5_67:CC:=.ops [] (l5_66)
def c5_68:CC:=.seq c5_67 .ret
def c5_69:CC:=.cond (.t 122) c5_68 .skip
def c5_70:CC:=.seq c5_65 c5_69
def l5_71:List COp:=[
 ⟨some 123,.load true 1 (.t 7),none⟩,
 ⟨some 124,.load true 1 (.t 11),none⟩,
 ⟨some 125,.call 9 [(.t 123),(.t 124)],none⟩]
def l5_72:List COp:=[
 ⟨some 19,.alloc 39 4 (.p (.agg [(.bool false),(.list 116 1 []),(.bool false),(.list 116 1 [])])),none⟩,
 ⟨none,.store 4 (.t 19) (.t 125),none⟩]
def c5_73:CC:=.ops [] (l5_71++(l5_72))
def l5_74:List COp:=[
 ⟨some 126,.load true 1 (.t 7),none⟩,
 ⟨some 127,.call 22 [(.t 126)],none⟩]
def l5_75:List COp:=[
 ⟨some 128,.bin false .geq (.t 127) (.k (.p (.int .i64 0))),none⟩,
 ⟨some 129,.mov (.t 128),none⟩,
 ⟨some 130,.load true 1 (.t 11),some (129,true)⟩,
 ⟨some 131,.call 22 [(.t 130)],some (129,true)⟩]
def l5_76:List COp:=[
 ⟨some 132,.bin false .geq (.t 131) (.k (.p (.int .i64 0))),some (129,true)⟩,
 ⟨some 133,.pick (.t 129) (.t 132) (.k (.p (.bool false))),none⟩,
 ⟨some 134,.mov (.t 133),none⟩,
 ⟨some 135,.load true 4 (.t 19),some (134,true)⟩,
 ⟨some 136,.call 15 [(.t 135)],some (134,true)⟩]
def l5_77:List COp:=[
 ⟨some 138,.load true 1 (.t 7),some (134,true)⟩,
 ⟨some 139,.load true 1 (.t 11),some (134,true)⟩,
 ⟨some 140,.call 31 [(.t 138),(.t 139)],some (134,true)⟩]
def l5_78:List COp:=[
 ⟨some 141,.call 22 [(.t 140)],some (134,true)⟩]
def l5_79:List COp:=[
 ⟨some 137,.bin false .eql (.t 136) (.k (.p (.int .i64 0))),some (134,true)⟩,
 ⟨some 142,.bin false .gtr (.t 141) (.k (.p (.int .i64 0))),some (134,true)⟩,
 ⟨some 143,.bin true .neq (.t 137) (.t 142),some (134,true)⟩,
 ⟨some 144,.pick (.t 134) (.t 143) (.k (.p (.bool false))),none⟩]
def c5_80:CC:=.ops [] (l5_74++(l5_75++(l5_76++(l5_77++(l5_78++(l5_79))))))
def l5_81:List COp:=[
 ⟨some 6,.mov (.k (.p (.bool false))),none⟩]
def c5_82:CC:=.ops [] (l5_81)
def c5_83:CC:=.seq c5_82 .ret
def c5_84:CC:=.cond (.t 144) c5_83 .skip
def c5_85:CC:=.seq c5_80 c5_84
def l5_86:List COp:=[
 ⟨some 145,.load true 1 (.t 7),none⟩,
 ⟨some 146,.load true 1 (.t 9),none⟩,
 ⟨some 147,.call 26 [(.t 145),(.t 146)],none⟩]
def l5_87:List COp:=[
 ⟨some 148,.load true 1 (.t 11),none⟩,
 ⟨some 149,.call 9 [(.t 147),(.t 148)],none⟩]
def l5_88:List COp:=[
 ⟨some 150,.load true 4 (.t 19),none⟩,
 ⟨some 151,.load true 1 (.t 9),none⟩,
 ⟨some 152,.load true 1 (.t 11),none⟩,
 ⟨some 153,.call 9 [(.t 151),(.t 152)],none⟩]
def l5_89:List COp:=[
 ⟨some 154,.call 27 [(.t 150),(.t 153)],none⟩]
def l5_90:List COp:=[
 ⟨some 155,.call 23 [(.t 149),(.t 154)],none⟩]
def l5_91:List COp:=[
 ⟨some 156,.bin false .eql (.t 155) (.k (.p (.int .i64 0))),none⟩,
 ⟨some 6,.mov (.t 156),none⟩]
def c5_92:CC:=.ops [] (l5_86++(l5_87++(l5_88++(l5_89++(l5_90++(l5_91))))))
def c5_93:CC:=.seq c5_92 .ret
def c5_94:CC:=.seq c5_85 c5_93
def c5_95:CC:=.seq c5_73 c5_94
def c5_96:CC:=.seq c5_70 c5_95
def c5_97:CC:=.seq c5_49 c5_96
def c5_98:CC:=.seq c5_38 c5_97
def c5_99:CC:=.seq c5_34 c5_98
def c5_100:CC:=.seq c5_31 c5_99
def c5_101:CC:=.seq c5_28 c5_100
def c5_102:CC:=.seq c5_18 c5_101
def c5_103:CC:=.seq c5_10 c5_102
def c5_104:CC:=.seq c5_7 c5_103
def c5_105:CC:=.seq c5_4 c5_104
def c5_106:CC:=.seq c5_1 c5_105
def c5:CC:=c5_106
theorem fn5:FnOk Try.prog 5 [25,27,39] c5 [(6,none)] 157:=
 ⟨Try.f5,[⟨6,[0,1,2,3,4,5,6,7,8,9,10,11,12,13,14,15,16,17,19,20,18,21,22,23],[0,1,3,7,15,31,63,127,255,511,1023,2047,4095,8191,16383,32767,16383,131071,262143,16383,786431,2097151,4194303,8388607],[]⟩,⟨11,[0,1,2,3,4,5,6,7,8,9,10,11,12,13],[0,0,3,0,15,31,63,127,127,511,127,2047,4095,8191],[]⟩,⟨13,[0,1,2,3,4,5,6,7,8,9,10,11,12,13,14,15,16,17,18,19,20,21,22,23,24,25,26,27,28,29,30],[0,0,3,7,0,31,0,127,0,0,767,2047,4095,8191,16383,32767,65535,65535,262143,65535,1048575,65535,65535,8388607,65535,65535,67108863,134217727,268435455,536870911,1073741823],[]⟩,⟨16,[0,1,2,3,4,5,6,7,8,9,10,12,13,14,15,11,16,17,18],[0,1,3,7,15,31,63,127,255,511,1023,2047,511,511,14335,30719,63487,131071,262143],[]⟩,⟨18,[0,1,2,3,4,5,6,7,8,9,10,11,12],[0,0,3,0,15,0,0,0,223,511,1023,2047,4095],[]⟩],Try.func5,by kernel_rfl,by kernel_rfl,by kernel_rfl,by kernel_rfl,by kernel_rfl⟩
end Go.Proofs.Ytdjbfgfbpimakaa.M
end

section
namespace Go.Proofs.Ytdjbfgfbpimakaa.M
open Go.RowKit
end Go.Proofs.Ytdjbfgfbpimakaa.M
end

section
namespace Go.Proofs.Ytdjbfgfbpimakaa.M
open Go.RowKit
def l69_0:List COp:=[
 ⟨some 2,.box 37 2 (.t 0),none⟩,
 ⟨some 3,.box 37 2 (.t 1),none⟩,
 ⟨some 4,.alloc 39 4 (.p (.agg [(.bool false),(.list 116 1 []),(.bool false),(.list 116 1 [])])),none⟩,
 ⟨some 5,.alloc 27 2 (.p (.agg [(.int .i64 0),(.int .i64 0)])),none⟩]
def c69_1:CC:=.ops [] (l69_0)
def l69_2:List COp:=[
 ⟨some 6,.load true 2 (.t 3),none⟩,
 ⟨some 7,.call 43 [(.t 6)],none⟩]
def l69_3:List COp:=[
 ⟨some 8,.bin false .eql (.t 7) (.k (.p (.int .i64 0))),none⟩]
def c69_4:CC:=.ops [] (l69_2++(l69_3))
def l69_5:List COp:=[
 ⟨some 9,.build [(.p (.bool false)),(.p (.list 116 1 [])),(.p (.bool false)),(.p (.list 116 1 []))] [],none⟩,
 ⟨some 10,.build [(.p (.int .i64 0)),(.p (.int .i64 0))] [(0,1,(.k (.p (.int .i64 4))))],none⟩,
 ⟨none,.store 4 (.t 4) (.t 9),none⟩,
 ⟨none,.store 2 (.t 5) (.t 10),none⟩]
def c69_6:CC:=.ops [] (l69_5)
def c69_7:CC:=.seq c69_6 .ret
def c69_8:CC:=.cond (.t 8) c69_7 .skip
def c69_9:CC:=.seq c69_4 c69_8
def l69_10:List COp:=[
 ⟨some 11,.load true 2 (.t 2),none⟩,
 ⟨some 12,.load true 2 (.t 3),none⟩,
 ⟨some 13,.call 59 [(.t 11),(.t 12)],none⟩]
def l69_11:List COp:=[
 ⟨some 14,.build [(.p (.int .i64 0)),(.p (.int .i64 0))] [],none⟩,
 ⟨none,.store 4 (.t 4) (.t 13),none⟩,
 ⟨none,.store 2 (.t 5) (.t 14),none⟩]
def c69_12:CC:=.ops [] (l69_10++(l69_11))
def c69_13:CC:=.seq c69_12 .ret
def c69_14:CC:=.seq c69_9 c69_13
def c69_15:CC:=.seq c69_1 c69_14
def c69:CC:=c69_15
theorem fn69:FnOk Try.prog 69 [37,39,27] c69 [(4,some (true,4)),(5,some (true,2))] 15:=
 ⟨Try.f69,[],Try.func69,by kernel_rfl,by kernel_rfl,by kernel_rfl,by kernel_rfl,by kernel_rfl⟩
end Go.Proofs.Ytdjbfgfbpimakaa.M
end

section
namespace Go.Proofs.Ytdjbfgfbpimakaa.M
open Go.RowKit
def l21_0:List COp:=[
 ⟨some 4,.alloc 25 1 (.p (.agg [(.list 39 4 [])])),none⟩,
 ⟨some 5,.alloc 27 2 (.p (.agg [(.int .i64 0),(.int .i64 0)])),none⟩]
def c21_1:CC:=.ops [] (l21_0)
def l21_2:List COp:=[
 ⟨some 12,.mov (.t 0),none⟩,
 ⟨some 13,.len (.t 12),none⟩,
 ⟨some 14,.mov (.t 1),none⟩,
 ⟨some 15,.len (.t 14),none⟩,
 ⟨some 16,.bin false .neq (.t 13) (.t 15),none⟩]
def c21_3:CC:=.ops [] (l21_2)
def l21_4:List COp:=[
 ⟨some 17,.build [(.p (.list 39 4 []))] [],none⟩,
 ⟨some 18,.call 32 [(.k (.p (.int .i64 8))),(.k (.p (.int .i64 0)))],none⟩]
def l21_5:List COp:=[
 ⟨none,.store 1 (.t 4) (.t 17),none⟩,
 ⟨none,.store 2 (.t 5) (.t 18),none⟩]
def c21_6:CC:=.ops [] (l21_4++(l21_5))
def c21_7:CC:=.seq c21_6 .ret
def c21_8:CC:=.cond (.t 16) c21_7 .skip
def c21_9:CC:=.seq c21_3 c21_8
def l21_10:List COp:=[
 ⟨some 19,.build [(.p (.list 39 4 []))] [],none⟩,
 ⟨some 20,.call 38 [(.k (.p (.int .i64 1)))],none⟩]
def l21_11:List COp:=[
 ⟨some 21,.call 37 [(.t 20)],none⟩]
def l21_12:List COp:=[
 ⟨some 22,.buildSliceF 39 4 (.agg [(.bool false),(.list 116 1 []),(.bool false),(.list 116 1 [])]) 1 [(0,(.t 21))],none⟩,
 ⟨some 23,.call 60 [(.t 22)],none⟩]
def l21_13:List COp:=[
 ⟨some 6,.alloc 25 1 (.p (.agg [(.list 39 4 [])])),none⟩,
 ⟨some 7,.alloc 25 1 (.p (.agg [(.list 39 4 [])])),none⟩,
 ⟨none,.store 1 (.t 6) (.t 19),none⟩,
 ⟨none,.store 1 (.t 7) (.t 23),none⟩]
def c21_14:CC:=.ops [] (l21_10++(l21_11++(l21_12++(l21_13))))
def l21_15:List COp:=[
 ⟨some 24,.mov (.t 0),none⟩,
 ⟨some 25,.len (.t 24),none⟩,
 ⟨some 26,.mov (.k (.p (.int .i64 0))),none⟩]
def c21_16:CC:=.ops [] (l21_15)
def l21_17:List COp:=[
 ⟨some 27,.bin false .lss (.t 26) (.t 25),none⟩]
def c21_18:CC:=.ops [] (l21_17)
def c21_19:CC:=.cond (.t 27) .skip (.exit 0)
def l21_20:List COp:=[
 ⟨some 28,.mov (.t 26),none⟩,
 ⟨some 29,.indexAddr 4 (.t 24) (.t 26),none⟩,
 ⟨some 30,.load true 4 (.t 29),none⟩,
 ⟨some 9,.alloc 39 4 (.p (.agg [(.bool false),(.list 116 1 []),(.bool false),(.list 116 1 [])])),none⟩,
 ⟨some 8,.mov (.t 28),none⟩,
 ⟨none,.store 4 (.t 9) (.t 30),none⟩]
def c21_21:CC:=.ops [] (l21_20)
def l21_22:List COp:=[
 ⟨some 36,.load true 1 (.t 6),none⟩,
 ⟨some 37,.load true 4 (.t 9),none⟩,
 ⟨some 38,.call 24 [(.t 36),(.t 37)],none⟩]
def l21_23:List COp:=[
 ⟨some 40,.load true 1 (.t 7),none⟩,
 ⟨some 41,.load true 4 (.t 9),none⟩,
 ⟨some 32,.mov (.t 1),none⟩,
 ⟨some 33,.mov (.t 8),none⟩,
 ⟨some 34,.indexAddr 4 (.t 32) (.t 33),none⟩,
 ⟨some 35,.load true 4 (.t 34),none⟩,
 ⟨some 39,.call 61 [(.t 35),(.t 38)],none⟩]
def l21_24:List COp:=[
 ⟨some 42,.call 24 [(.t 40),(.t 41)],none⟩]
def l21_25:List COp:=[
 ⟨some 43,.call 50 [(.t 39),(.t 42)],none⟩]
def l21_26:List COp:=[
 ⟨some 31,.mov (.t 43),none⟩,
 ⟨some 44,.extract (.t 31) 0,none⟩,
 ⟨some 45,.extract (.t 31) 1,none⟩,
 ⟨some 10,.alloc 39 4 (.p (.agg [(.bool false),(.list 116 1 []),(.bool false),(.list 116 1 [])])),none⟩,
 ⟨some 11,.alloc 27 2 (.p (.agg [(.int .i64 0),(.int .i64 0)])),none⟩,
 ⟨none,.store 4 (.t 10) (.t 44),none⟩,
 ⟨none,.store 2 (.t 11) (.t 45),none⟩]
def c21_27:CC:=.ops [] (l21_22++(l21_23++(l21_24++(l21_25++(l21_26)))))
def l21_28:List COp:=[
 ⟨some 46,.fieldAddr 0 1 false (.t 11),none⟩,
 ⟨some 47,.load false 1 (.t 46),none⟩,
 ⟨some 48,.bin false .neq (.t 47) (.k (.p (.int .i64 0))),none⟩]
def c21_29:CC:=.ops [] (l21_28)
def l21_30:List COp:=[
 ⟨some 49,.build [(.p (.list 39 4 []))] [],none⟩,
 ⟨some 50,.mov (.t 8),none⟩,
 ⟨some 51,.call 32 [(.k (.p (.int .i64 12))),(.t 50)],none⟩]
def l21_31:List COp:=[
 ⟨none,.store 1 (.t 4) (.t 49),none⟩,
 ⟨none,.store 2 (.t 5) (.t 51),none⟩]
def c21_32:CC:=.ops [] (l21_30++(l21_31))
def c21_33:CC:=.seq c21_32 .ret
def c21_34:CC:=.cond (.t 48) c21_33 .skip
def c21_35:CC:=.seq c21_29 c21_34
def l21_36:List COp:=[
 ⟨some 52,.load true 1 (.t 6),none⟩,
 ⟨some 53,.load true 1 (.t 7),none⟩,
 ⟨some 54,.load true 4 (.t 10),none⟩,
 ⟨some 55,.call 62 [(.t 53),(.t 54)],none⟩]
def l21_37:List COp:=[
 ⟨some 56,.call 30 [(.t 52),(.t 55)],none⟩]
def l21_38:List COp:=[
 ⟨none,.store 1 (.t 6) (.t 56),none⟩]
def c21_39:CC:=.ops [] (l21_36++(l21_37++(l21_38)))
def l21_40:List COp:=[
 ⟨some 57,.load true 1 (.t 7),none⟩,
 ⟨some 58,.load true 4 (.t 9),none⟩,
 ⟨some 59,.call 40 [(.t 58)],none⟩]
def l21_41:List COp:=[
 ⟨some 60,.call 38 [(.k (.p (.int .i64 1)))],none⟩]
def l21_42:List COp:=[
 ⟨some 61,.call 37 [(.t 60)],none⟩]
def l21_43:List COp:=[
 ⟨some 62,.buildSliceF 39 4 (.agg [(.bool false),(.list 116 1 []),(.bool false),(.list 116 1 [])]) 2 [(0,(.t 59)),(1,(.t 61))],none⟩,
 ⟨some 63,.call 60 [(.t 62)],none⟩]
def l21_44:List COp:=[
 ⟨some 64,.call 26 [(.t 57),(.t 63)],none⟩]
def l21_45:List COp:=[
 ⟨none,.store 1 (.t 7) (.t 64),none⟩]
def c21_46:CC:=.ops [] (l21_40++(l21_41++(l21_42++(l21_43++(l21_44++(l21_45))))))
def c21_47:CC:=.seq c21_39 c21_46
def c21_48:CC:=.seq c21_35 c21_47
def c21_49:CC:=.seq c21_27 c21_48
def c21_50:CC:=.seq c21_21 c21_49
def c21_51:CC:=.block 1 c21_50
def l21_52:List COp:=[
 ⟨some 65,.bin false .add (.t 26) (.k (.p (.int .i64 1))),none⟩,
 ⟨some 26,.mov (.t 65),none⟩]
def c21_53:CC:=.ops [] (l21_52)
def c21_54:CC:=.seq c21_51 c21_53
def c21_55:CC:=.seq c21_19 c21_54
def c21_56:CC:=.seq c21_18 c21_55
def c21_57:CC:=.loop c21_56
def c21_58:CC:=.block 0 c21_57
def c21_59:CC:=.seq c21_16 c21_58
def l21_60:List COp:=[
 ⟨some 66,.load true 1 (.t 6),none⟩,
 ⟨some 67,.build [(.p (.int .i64 0)),(.p (.int .i64 0))] [],none⟩,
 ⟨none,.store 1 (.t 4) (.t 66),none⟩,
 ⟨none,.store 2 (.t 5) (.t 67),none⟩]
def c21_61:CC:=.ops [] (l21_60)
def c21_62:CC:=.seq c21_61 .ret
def c21_63:CC:=.seq c21_59 c21_62
def c21_64:CC:=.seq c21_14 c21_63
def c21_65:CC:=.seq c21_9 c21_64
def c21_66:CC:=.seq c21_1 c21_65
def c21:CC:=c21_66
theorem fn21:FnOk Try.prog 21 [25,27,39,2000022,2000062] c21 [(4,some (true,1)),(5,some (true,2))] 68:=
 ⟨Try.f21,[⟨7,[4,5,6,8,9,0,1,2,3,7,10,11,12,13,14,15,16,17,18],[0,0,3,7,0,0,48,127,0,0,1023,2047,4095,8191,8191,0,0,114687,262143],[]⟩,⟨10,[0,1,2,3,4,5],[0,0,0,6,15,31],[]⟩,⟨11,[0,1,2,3,4,5,6,7,8],[0,0,2,6,14,30,62,127,255],[]⟩],Try.func21,by kernel_rfl,by kernel_rfl,by kernel_rfl,by kernel_rfl,by kernel_rfl⟩
def l4_0:List COp:=[
 ⟨some 4,.mov (.k (.p (.bool false))),none⟩]
def c4_1:CC:=.ops [] (l4_0)
def l4_2:List COp:=[
 ⟨some 5,.mov (.k (.nils 39 4)),none⟩,
 ⟨some 6,.mov (.k (.nils 39 4)),none⟩]
def c4_3:CC:=.ops [] (l4_2)
def l4_4:List COp:=[
 ⟨some 7,.mov (.k (.p (.int .i64 0))),none⟩]
def c4_5:CC:=.ops [] (l4_4)
def l4_6:List COp:=[
 ⟨some 18,.mov (.t 7),none⟩,
 ⟨some 19,.mov (.t 0),none⟩,
 ⟨some 20,.len (.t 19),none⟩,
 ⟨some 21,.bin false .lss (.t 18) (.t 20),none⟩]
def c4_7:CC:=.ops [] (l4_6)
def c4_8:CC:=.cond (.t 21) .skip (.exit 0)
def c4_9:CC:=.seq c4_7 c4_8
def l4_10:List COp:=[
 ⟨some 25,.mov (.t 0),none⟩,
 ⟨some 26,.mov (.t 7),none⟩,
 ⟨some 27,.indexAddr 1 (.t 25) (.t 26),none⟩,
 ⟨some 28,.load false 1 (.t 27),none⟩,
 ⟨some 29,.call 20 [(.t 28)],none⟩]
def l4_11:List COp:=[
 ⟨some 24,.mov (.t 29),none⟩,
 ⟨some 30,.extract (.t 24) 0,none⟩,
 ⟨some 31,.extract (.t 24) 1,none⟩,
 ⟨some 8,.alloc 39 4 (.p (.agg [(.bool false),(.list 116 1 []),(.bool false),(.list 116 1 [])])),none⟩,
 ⟨some 9,.alloc 27 2 (.p (.agg [(.int .i64 0),(.int .i64 0)])),none⟩,
 ⟨none,.store 4 (.t 8) (.t 30),none⟩,
 ⟨none,.store 2 (.t 9) (.t 31),none⟩]
def c4_12:CC:=.ops [] (l4_10++(l4_11))
def l4_13:List COp:=[
 ⟨some 32,.mov (.t 5),none⟩,
 ⟨some 33,.load true 4 (.t 8),none⟩,
 ⟨some 34,.buildSlice 39 4 (.agg [(.bool false),(.list 116 1 []),(.bool false),(.list 116 1 [])]) 1 [(0,(.t 33))],none⟩,
 ⟨some 35,.append 39 4 64 (.t 32) (.t 34),none⟩,
 ⟨some 5,.mov (.t 35),none⟩]
def c4_14:CC:=.ops [] (l4_13)
def c4_15:CC:=.seq c4_12 c4_14
def c4_16:CC:=.block 1 c4_15
def l4_17:List COp:=[
 ⟨some 22,.mov (.t 7),none⟩,
 ⟨some 23,.bin false .add (.t 22) (.k (.p (.int .i64 1))),none⟩,
 ⟨some 7,.mov (.t 23),none⟩]
def c4_18:CC:=.ops [] (l4_17)
def c4_19:CC:=.seq c4_16 c4_18
def c4_20:CC:=.seq c4_9 c4_19
def c4_21:CC:=.loop c4_20
def c4_22:CC:=.block 0 c4_21
def c4_23:CC:=.seq c4_5 c4_22
def l4_24:List COp:=[
 ⟨some 10,.mov (.k (.p (.int .i64 0))),none⟩]
def c4_25:CC:=.ops [] (l4_24)
def l4_26:List COp:=[
 ⟨some 36,.mov (.t 10),none⟩,
 ⟨some 37,.mov (.t 1),none⟩,
 ⟨some 38,.len (.t 37),none⟩,
 ⟨some 39,.bin false .lss (.t 36) (.t 38),none⟩]
def c4_27:CC:=.ops [] (l4_26)
def c4_28:CC:=.cond (.t 39) .skip (.exit 2)
def c4_29:CC:=.seq c4_27 c4_28
def l4_30:List COp:=[
 ⟨some 43,.mov (.t 1),none⟩,
 ⟨some 44,.mov (.t 10),none⟩,
 ⟨some 45,.indexAddr 1 (.t 43) (.t 44),none⟩,
 ⟨some 46,.load false 1 (.t 45),none⟩,
 ⟨some 47,.call 20 [(.t 46)],none⟩]
def l4_31:List COp:=[
 ⟨some 42,.mov (.t 47),none⟩,
 ⟨some 48,.extract (.t 42) 0,none⟩,
 ⟨some 49,.extract (.t 42) 1,none⟩,
 ⟨some 11,.alloc 39 4 (.p (.agg [(.bool false),(.list 116 1 []),(.bool false),(.list 116 1 [])])),none⟩,
 ⟨some 12,.alloc 27 2 (.p (.agg [(.int .i64 0),(.int .i64 0)])),none⟩,
 ⟨none,.store 4 (.t 11) (.t 48),none⟩,
 ⟨none,.store 2 (.t 12) (.t 49),none⟩]
def c4_32:CC:=.ops [] (l4_30++(l4_31))
def l4_33:List COp:=[
 ⟨some 50,.mov (.t 6),none⟩,
 ⟨some 51,.load true 4 (.t 11),none⟩,
 ⟨some 52,.buildSlice 39 4 (.agg [(.bool false),(.list 116 1 []),(.bool false),(.list 116 1 [])]) 1 [(0,(.t 51))],none⟩,
 ⟨some 53,.append 39 4 64 (.t 50) (.t 52),none⟩,
 ⟨some 6,.mov (.t 53),none⟩]
def c4_34:CC:=.ops [] (l4_33)
def c4_35:CC:=.seq c4_32 c4_34
def c4_36:CC:=.block 3 c4_35
def l4_37:List COp:=[
 ⟨some 40,.mov (.t 10),none⟩,
 ⟨some 41,.bin false .add (.t 40) (.k (.p (.int .i64 1))),none⟩,
 ⟨some 10,.mov (.t 41),none⟩]
def c4_38:CC:=.ops [] (l4_37)
def c4_39:CC:=.seq c4_36 c4_38
def c4_40:CC:=.seq c4_29 c4_39
def c4_41:CC:=.loop c4_40
def c4_42:CC:=.block 2 c4_41
def c4_43:CC:=.seq c4_25 c4_42
def l4_44:List COp:=[
 ⟨some 55,.mov (.t 5),none⟩,
 ⟨some 56,.mov (.t 6),none⟩,
 ⟨some 57,.call 21 [(.t 55),(.t 56)],none⟩]
def l4_45:List COp:=[
 ⟨some 54,.mov (.t 57),none⟩,
 ⟨some 58,.extract (.t 54) 0,none⟩,
 ⟨some 59,.extract (.t 54) 1,none⟩,
 ⟨some 13,.alloc 25 1 (.p (.agg [(.list 39 4 [])])),none⟩,
 ⟨some 14,.alloc 27 2 (.p (.agg [(.int .i64 0),(.int .i64 0)])),none⟩,
 ⟨none,.store 1 (.t 13) (.t 58),none⟩,
 ⟨none,.store 2 (.t 14) (.t 59),none⟩]
def c4_46:CC:=.ops [] (l4_44++(l4_45))
def l4_47:List COp:=[
 ⟨some 60,.call 8 [],none⟩]
def l4_48:List COp:=[
 ⟨some 61,.un .not (.t 60),none⟩]
def c4_49:CC:=.ops [] (l4_47++(l4_48))
def l4_50:List COp:=[
 ⟨some 4,.mov (.k (.p (.bool false))),none⟩]
def c4_51:CC:=.ops [] (l4_50)
def c4_52:CC:=.seq c4_51 .ret
def c4_53:CC:=.cond (.t 61) c4_52 .skip
def c4_54:CC:=.seq c4_49 c4_53
def l4_55:List COp:=[
 ⟨some 62,.mov (.t 0),none⟩,
 ⟨some 63,.len (.t 62),none⟩,
 ⟨some 64,.mov (.t 1),none⟩,
 ⟨some 65,.len (.t 64),none⟩,
 ⟨some 66,.bin false .neq (.t 63) (.t 65),none⟩]
def c4_56:CC:=.ops [] (l4_55)
def l4_57:List COp:=[
 ⟨some 67,.load true 2 (.t 14),none⟩,
 ⟨some 68,.call 14 [(.k (.p (.int .i64 8))),(.k (.p (.int .i64 0)))],none⟩]
def l4_58:List COp:=[
 ⟨some 69,.eqs 2 false (.t 67) (.t 68),none⟩,
 ⟨some 70,.mov (.t 69),none⟩,
 ⟨some 71,.load true 1 (.t 13),some (70,true)⟩,
 ⟨some 72,.call 22 [(.t 71)],some (70,true)⟩]
def l4_59:List COp:=[
 ⟨some 73,.bin false .lss (.t 72) (.k (.p (.int .i64 0))),some (70,true)⟩,
 ⟨some 74,.pick (.t 70) (.t 73) (.k (.p (.bool false))),none⟩,
 ⟨some 4,.mov (.t 74),none⟩]
def c4_60:CC:=.ops [] (l4_57++(l4_58++(l4_59)))
def c4_61:CC:=.seq c4_60 .ret
def c4_62:CC:=.cond (.t 66) c4_61 .skip
def c4_63:CC:=.seq c4_56 c4_62
def l4_64:List COp:=[
 ⟨some 75,.mov (.t 0),none⟩,
 ⟨some 76,.len (.t 75),none⟩,
 ⟨some 77,.bin false .gtr (.t 76) (.k (.p (.int .i64 40))),none⟩]
def c4_65:CC:=.ops [] (l4_64)
def l4_66:List COp:=[
 ⟨some 4,.mov (.k (.p (.bool true))),none⟩]
def c4_67:CC:=.ops [] (l4_66)
def c4_68:CC:=.seq c4_67 .ret
def c4_69:CC:=.cond (.t 77) c4_68 .skip
def c4_70:CC:=.seq c4_65 c4_69
def l4_71:List COp:=[
 ⟨some 15,.mov (.k (.p (.int .i64 0))),none⟩]
def c4_72:CC:=.ops [] (l4_71)
def l4_73:List COp:=[
 ⟨some 78,.mov (.t 15),none⟩,
 ⟨some 79,.mov (.t 0),none⟩,
 ⟨some 80,.len (.t 79),none⟩,
 ⟨some 81,.bin false .lss (.t 78) (.t 80),none⟩]
def c4_74:CC:=.ops [] (l4_73)
def c4_75:CC:=.cond (.t 81) .skip (.exit 4)
def c4_76:CC:=.seq c4_74 c4_75
def l4_77:List COp:=[
 ⟨some 16,.mov (.k (.p (.int .i64 0))),none⟩]
def c4_78:CC:=.ops [] (l4_77)
def l4_79:List COp:=[
 ⟨some 84,.mov (.t 16),none⟩,
 ⟨some 85,.mov (.t 15),none⟩,
 ⟨some 86,.bin false .lss (.t 84) (.t 85),none⟩]
def c4_80:CC:=.ops [] (l4_79)
def c4_81:CC:=.cond (.t 86) .skip (.exit 6)
def c4_82:CC:=.seq c4_80 c4_81
def l4_83:List COp:=[
 ⟨some 89,.mov (.t 5),none⟩,
 ⟨some 90,.mov (.t 15),none⟩,
 ⟨some 91,.indexAddr 4 (.t 89) (.t 90),none⟩,
 ⟨some 92,.load true 4 (.t 91),none⟩,
 ⟨some 93,.mov (.t 5),none⟩,
 ⟨some 94,.mov (.t 16),none⟩,
 ⟨some 95,.indexAddr 4 (.t 93) (.t 94),none⟩,
 ⟨some 96,.load true 4 (.t 95),none⟩,
 ⟨some 97,.call 23 [(.t 92),(.t 96)],none⟩]
def l4_84:List COp:=[
 ⟨some 98,.bin false .eql (.t 97) (.k (.p (.int .i64 0))),none⟩]
def c4_85:CC:=.ops [] (l4_83++(l4_84))
def l4_86:List COp:=[
 ⟨some 99,.load true 2 (.t 14),none⟩,
 ⟨some 100,.mov (.t 15),none⟩,
 ⟨some 101,.call 14 [(.k (.p (.int .i64 12))),(.t 100)],none⟩]
def l4_87:List COp:=[
 ⟨some 102,.eqs 2 false (.t 99) (.t 101),none⟩,
 ⟨some 103,.mov (.t 102),none⟩,
 ⟨some 104,.load true 1 (.t 13),some (103,true)⟩,
 ⟨some 105,.call 22 [(.t 104)],some (103,true)⟩]
def l4_88:List COp:=[
 ⟨some 106,.bin false .lss (.t 105) (.k (.p (.int .i64 0))),some (103,true)⟩,
 ⟨some 107,.pick (.t 103) (.t 106) (.k (.p (.bool false))),none⟩,
 ⟨some 4,.mov (.t 107),none⟩]
def c4_89:CC:=.ops [] (l4_86++(l4_87++(l4_88)))
def c4_90:CC:=.seq c4_89 .ret
def c4_91:CC:=.cond (.t 98) c4_90 .skip
def c4_92:CC:=.seq c4_85 c4_91
def c4_93:CC:=.block 7 c4_92
def l4_94:List COp:=[
 ⟨some 87,.mov (.t 16),none⟩,
 ⟨some 88,.bin false .add (.t 87) (.k (.p (.int .i64 1))),none⟩,
 ⟨some 16,.mov (.t 88),none⟩]
def c4_95:CC:=.ops [] (l4_94)
def c4_96:CC:=.seq c4_93 c4_95
def c4_97:CC:=.seq c4_82 c4_96
def c4_98:CC:=.loop c4_97
def c4_99:CC:=.block 6 c4_98
def c4_100:CC:=.seq c4_78 c4_99
def c4_101:CC:=.block 5 c4_100
def l4_102:List COp:=[
 ⟨some 82,.mov (.t 15),none⟩,
 ⟨some 83,.bin false .add (.t 82) (.k (.p (.int .i64 1))),none⟩,
 ⟨some 15,.mov (.t 83),none⟩]
def c4_103:CC:=.ops [] (l4_102)
def c4_104:CC:=.seq c4_101 c4_103
def c4_105:CC:=.seq c4_76 c4_104
def c4_106:CC:=.loop c4_105
def c4_107:CC:=.block 4 c4_106
def c4_108:CC:=.seq c4_72 c4_107
def l4_109:List COp:=[
 ⟨some 108,.fieldAddr 0 1 false (.t 14),none⟩,
 ⟨some 109,.load false 1 (.t 108),none⟩,
 ⟨some 110,.bin false .neq (.t 109) (.k (.p (.int .i64 0))),none⟩,
 ⟨some 111,.mov (.t 110),none⟩,
 ⟨some 112,.load true 1 (.t 13),some (111,false)⟩,
 ⟨some 113,.call 22 [(.t 112)],some (111,false)⟩]
def l4_110:List COp:=[
 ⟨some 114,.mov (.t 0),some (111,false)⟩,
 ⟨some 115,.len (.t 114),some (111,false)⟩,
 ⟨some 116,.bin false .geq (.t 113) (.t 115),some (111,false)⟩,
 ⟨some 117,.pick (.t 111) (.k (.p (.bool true))) (.t 116),none⟩]
def c4_111:CC:=.ops [] (l4_109++(l4_110))
def l4_112:List COp:=[
 ⟨some 4,.mov (.k (.p (.bool false))),none⟩]
def c4_113:CC:=.ops [] (l4_112)
def c4_114:CC:=.seq c4_113 .ret
def c4_115:CC:=.cond (.t 117) c4_114 .skip
def c4_116:CC:=.seq c4_111 c4_115
def l4_117:List COp:=[
 ⟨some 17,.mov (.k (.p (.int .i64 0))),none⟩]
def c4_118:CC:=.ops [] (l4_117)
def l4_119:List COp:=[
 ⟨some 118,.mov (.t 17),none⟩,
 ⟨some 119,.mov (.t 0),none⟩,
 ⟨some 120,.len (.t 119),none⟩,
 ⟨some 121,.bin false .lss (.t 118) (.t 120),none⟩]
def c4_120:CC:=.ops [] (l4_119)
def c4_121:CC:=.cond (.t 121) .skip (.exit 8)
def c4_122:CC:=.seq c4_120 c4_121
def l4_123:List COp:=[
 ⟨some 124,.load true 1 (.t 13),none⟩,
 ⟨some 125,.mov (.t 5),none⟩,
 ⟨some 126,.mov (.t 17),none⟩,
 ⟨some 127,.indexAddr 4 (.t 125) (.t 126),none⟩,
 ⟨some 128,.load true 4 (.t 127),none⟩,
 ⟨some 129,.call 24 [(.t 124),(.t 128)],none⟩]
def l4_124:List COp:=[
 ⟨some 130,.mov (.t 6),none⟩,
 ⟨some 131,.mov (.t 17),none⟩,
 ⟨some 132,.indexAddr 4 (.t 130) (.t 131),none⟩,
 ⟨some 133,.load true 4 (.t 132),none⟩,
 ⟨some 134,.call 23 [(.t 129),(.t 133)],none⟩]
def l4_125:List COp:=[
 ⟨some 135,.bin false .neq (.t 134) (.k (.p (.int .i64 0))),none⟩]
def c4_126:CC:=.ops [] (l4_123++(l4_124++(l4_125)))
def l4_127:List COp:=[
 ⟨some 4,.mov (.k (.p (.bool false))),none⟩]
def c4_128:CC:=.ops [] (l4_127)
def c4_129:CC:=.seq c4_128 .ret
def c4_130:CC:=.cond (.t 135) c4_129 .skip
def c4_131:CC:=.seq c4_126 c4_130
def c4_132:CC:=.block 9 c4_131
def l4_133:List COp:=[
 ⟨some 122,.mov (.t 17),none⟩,
 ⟨some 123,.bin false .add (.t 122) (.k (.p (.int .i64 1))),none⟩,
 ⟨some 17,.mov (.t 123),none⟩]
def c4_134:CC:=.ops [] (l4_133)
def c4_135:CC:=.seq c4_132 c4_134
def c4_136:CC:=.seq c4_122 c4_135
def c4_137:CC:=.loop c4_136
def c4_138:CC:=.block 8 c4_137
def c4_139:CC:=.seq c4_118 c4_138
def l4_140:List COp:=[
 ⟨some 4,.mov (.k (.p (.bool true))),none⟩]
def c4_141:CC:=.ops [] (l4_140)
def c4_142:CC:=.seq c4_141 .ret
def c4_143:CC:=.seq c4_139 c4_142
def c4_144:CC:=.seq c4_116 c4_143
def c4_145:CC:=.seq c4_108 c4_144
def c4_146:CC:=.seq c4_70 c4_145
def c4_147:CC:=.seq c4_63 c4_146
def c4_148:CC:=.seq c4_54 c4_147
def c4_149:CC:=.seq c4_46 c4_148
def c4_150:CC:=.seq c4_43 c4_149
def c4_151:CC:=.seq c4_23 c4_150
def c4_152:CC:=.seq c4_3 c4_151
def c4_153:CC:=.seq c4_1 c4_152
def c4:CC:=c4_153
theorem fn4:FnOk Try.prog 4 [39,27,25] c4 [(4,none)] 136:=
 ⟨Try.f4,[⟨16,[0,1,2,3,4,5,6,7,8],[0,0,3,7,15,31,63,127,255],[]⟩,⟨25,[0,1,2,3,4,5,6,7,8,9],[0,0,3,7,0,0,48,112,255,511],[]⟩,⟨26,[0,1,2,3,4,5,6,7,8,9],[0,0,2,7,15,31,63,127,255,511],[]⟩,⟨32,[0,1,2,3,4,5,6,7,8,9,10,11],[0,0,0,6,14,31,0,0,192,448,1023,2047],[]⟩],Try.func4,by kernel_rfl,by kernel_rfl,by kernel_rfl,by kernel_rfl,by kernel_rfl⟩
end Go.Proofs.Ytdjbfgfbpimakaa.M
end
