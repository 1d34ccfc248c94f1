/- Lemmas. -/
import Derived.Test.YtbnhgnhgbhjkcaaGreatQ22
set_option linter.defProp false
namespace Go.Proofs.YtbnhgnhgbhjkcaaGreat.M
set_option linter.unusedSimpArgs false
open Go.RowKit
theorem Ts (G:FuncId→List D→D→Prop) (dd:Option Nat) (f:FuncId) (k:Nat) (args:List Opd) (g:Option (Nat×Bool)) (K:St→Prop) (s:St):step G ⟨dd,.callL f k args,g⟩ K s=(match eF s k args with
  |.slice i 0 n=>match s.m i with
   |some ⟨T,sz,.row l,false⟩=>match dv s (.list T sz l) k args with
    |some ds=>n=l.length∧∃r l',G (f+LB*(k+1)) ds (.tup [r,.list T sz l'])∧K ((⟨s.r,upd s.m i (some ⟨T,sz,.row l',false⟩)⟩:St).put dd (if l=[] then .p (cQ T sz r) else dR i r))
    |none=>False
   |_=>False
  |.p (.list T sz [])=>match a7 s args with
   |some ds => ∃r l',G (f+LB*(k+1)) ds (.tup [r,.list T sz l'])∧K (s.put dd (.p (cQ T sz r)))
   |none=>False
  |_=>False):=rfl
theorem Tt (G:FuncId→List D→D→Prop) (dd:Option Nat) (fs:List FuncId) (x:Opd) (args:List Opd) (g:Option (Nat×Bool)) (K:St→Prop) (s:St):step G ⟨dd,.callv fs x args,g⟩ K s=(match (x.ev s.r).toD false s.m 20,a7 s args with
  |some (.fn (.func f) a b),some ds=>fs.contains f=true∧∃d,G f (a++ds++b) d∧K (s.put dd (.p d))
  |_,_=>False):=rfl
theorem Tu (G:FuncId→List D→D→Prop) (dd:Option Nat) (f:FuncId) (T:TypeId) (args:List Opd) (g:Option (Nat×Bool)) (K:St→Prop) (s:St):step G ⟨dd,.callN f T args,g⟩ K s=(match a7 s args with
  |some ds=>match s.m (dd.getD 0) with
   |none => ∃sz l,G (f+LB*(8+1)) ds (.list T sz l)∧K ((⟨s.r,upd s.m (dd.getD 0) (some ⟨T,sz,.row l,false⟩)⟩:St).put dd (.slice (dd.getD 0) 0 l.length))
   |some _=>False
  |none=>False):=rfl
theorem Tv (G:FuncId→List D→D→Prop) (dd:Option Nat) (f:FuncId) (B:List TypeId) (args:List Opd) (g:Option (Nat×Bool)) (K:St→Prop) (s:St):step G ⟨dd,.callW f B args,g⟩ K s=(match a7 s args with
  |some ds=>(∀id o,s.m id=some o→o.frz=true∨o.T ∉ B)∧∃d,G (f+LB*(9+1)) (.tup (B.map fun T => .int .i64 (T:Nat))::ds) d∧K (s.put dd (.p d))
  |none=>False):=rfl
theorem Tw (s:St) (x:Opd) (l:List Opd):eF s 0 (x::l)=x.ev s.r:=rfl
theorem Tx (s:St) (x y:Opd) (l:List Opd):eF s 1 (x::y::l)=y.ev s.r:=rfl
theorem Tz (s:St) (d:D) (x:Opd) (l:List Opd):dv s d 0 (x::l)=(match a7 s l with
  |some ds=>some (d::ds)
  |none=>none):=rfl
theorem TA (s:St) (d:D) (x y:Opd) (l:List Opd):dv s d 1 (x::y::l)=(match (x.ev s.r).toD false s.m 20,(match a7 s l with
  |some ds=>some (d::ds)
  |none=>none) with
  |some e,some es=>some (e::es)
  |_,_=>none):=rfl
theorem r6 (i:Nat) (m:Int):dR i (.tup [.int .i64 m]) = .slice i 0 m.toNat:=rfl
theorem r7 (i:Nat):dR i (.tup []) = .p (.tup []):=rfl
theorem r8 (i:Nat) (k:IntKind) (m:Int):dR i (.int k m) = .p (.int k m):=rfl
theorem TB (T sz:Nat) (m:Int):cQ T sz (.tup [.int .i64 m]) = .list T sz []:=rfl
theorem TC (T sz:Nat):cQ T sz (.tup []) = .tup []:=rfl
theorem io (T sz:Nat) (l:List D) (a b:D):bL 0 T sz l [a,b]=⟨ar [(0,.slice 999999 0 l.length),(1,.p b)],au [(999999,⟨T,sz,.row l,false⟩)]⟩:=by
 unfold bL;congr 1;funext t
 match t with
 |0=>rfl
 |1=>rfl
 |k+2=>simp[ar]
theorem nJ (T sz:Nat) (l:List D) (a b c:D):bL 0 T sz l [a,b,c]=⟨ar [(0,.slice 999999 0 l.length),(1,.p b),(2,.p c)],au [(999999,⟨T,sz,.row l,false⟩)]⟩:=by
 unfold bL;congr 1;funext t
 match t with
 |0=>rfl
 |1=>rfl
 |2=>rfl
 |k+3=>simp[ar]
theorem r9 (T sz:Nat) (l:List D) (a b c d:D):bL 0 T sz l [a,b,c,d]=⟨ar [(0,.slice 999999 0 l.length),(1,.p b),(2,.p c),(3,.p d)],au [(999999,⟨T,sz,.row l,false⟩)]⟩:=by
 unfold bL;congr 1;funext t
 match t with
 |0=>rfl
 |1=>rfl
 |2=>rfl
 |3=>rfl
 |k+4=>simp[ar]
theorem eW (T sz:Nat) (l:List D) (a b c d e:D):bL 0 T sz l [a,b,c,d,e]=⟨ar [(0,.slice 999999 0 l.length),(1,.p b),(2,.p c),(3,.p d),(4,.p e)],au [(999999,⟨T,sz,.row l,false⟩)]⟩:=by
 unfold bL;congr 1;funext t
 match t with
 |0=>rfl
 |1=>rfl
 |2=>rfl
 |3=>rfl
 |4=>rfl
 |k+5=>simp[ar]
theorem TD (T sz:Nat) (l':List D) (r:D) (rs:List (Nat×Option (Bool×Nat))) (s:St):fi T sz l' r rs .ret s=(s.m 999999=some ⟨T,sz,.row l',false⟩∧ResLt s rs r):=rfl
theorem TE (T sz:Nat) (l':List D) (r:D) (rs:List (Nat×Option (Bool×Nat))) (s:St):fi T sz l' r rs .normal s=(s.m 999999=some ⟨T,sz,.row l',false⟩∧ResLt s rs r):=rfl
theorem TF (T sz:Nat) (l':List D) (r:D) (rs:List (Nat×Option (Bool×Nat))) (i:Nat) (s:St):fi T sz l' r rs (.exit i) s=False:=rfl
theorem TG (G:FuncId→List D→D→Prop) (dd:Option Nat) (n esz:Nat) (ag:Bool) (x i:Opd) (g:Option (Nat×Bool)) (K:St→Prop) (s:St):step G ⟨dd,.indexAddrA n esz ag x i,g⟩ K s=fin dd K (ev (.indexAddrA n esz ag x i) (dd.getD 0) s):=rfl
theorem TH (n esz:Nat) (ag:Bool) (x i:Opd) (id:Nat) (s:St):ev (.indexAddrA n esz ag x i) id s=(match x.ev s.r,asI (i.ev s.r) with
  |.ptr j k off,some q=>some (decide (0≤q∧q<n),.ptr j k (off+q.toNat*esz),s)
  |.p (.ref d),some q=>match d.part (q.toNat*esz) esz ag with
   |some e=>some (decide (0≤q∧q<n),.p (.ref e),s)
   |none=>none
  |_,_=>none):=rfl
theorem TI (G:FuncId→List D→D→Prop) (dd:Option Nat) (n esz:Nat) (ag:Bool) (x i:Opd) (g:Option (Nat×Bool)) (K:St→Prop) (s:St):step G ⟨dd,.indexA n esz ag x i,g⟩ K s=fin dd K (ev (.indexA n esz ag x i) (dd.getD 0) s):=rfl
theorem TJ (n esz:Nat) (ag:Bool) (x i:Opd) (id:Nat) (s:St):ev (.indexA n esz ag x i) id s=(match asI (i.ev s.r) with
  |some q=>if (x.ev s.r).isAgg=some true then match (x.ev s.r).part (q.toNat*esz) esz ag with
   |some v=>some (decide (0≤q∧q<n),v,s)
   |none=>none else none
  |none=>none):=rfl
theorem TK (G:FuncId→List D→D→Prop) (dd:Option Nat) (T sz bytes:Nat) (y:Opd) (g:Option (Nat×Bool)) (K:St→Prop) (s:St):step G ⟨dd,.copyS T sz bytes y,g⟩ K s=fin dd K (ev (.copyS T sz bytes y) (dd.getD 0) s):=rfl
theorem TM (T sz bytes:Nat) (y:Opd) (id:Nat) (s:St):ev (.copyS T sz bytes y) id s=(match s.m id,bO sz s.m (y.ev s.r) with
  |none,some ys=>some (decide (ys.length*bytes≤140737488355328∧ys.length≤9223372036854775807),.slice id 0 ys.length,⟨s.r,upd s.m id (some ⟨T,sz,.row ys,false⟩)⟩)
  |_,_=>none):=rfl
theorem TO (G:FuncId→List D→D→Prop) (dd:Option Nat) (T sz bytes:Nat) (y:Opd) (g:Option (Nat×Bool)) (K:St→Prop) (s:St):step G ⟨dd,.copyF T sz bytes y,g⟩ K s=fin dd K (ev (.copyF T sz bytes y) (dd.getD 0) s):=rfl
theorem TP (T sz bytes:Nat) (y:Opd) (id:Nat) (s:St):ev (.copyF T sz bytes y) id s=(if id=999999 then none else match s.m id,bO sz s.m (y.ev s.r) with
  |none,some ys=>some (decide (ys.length*bytes≤140737488355328∧ys.length≤9223372036854775807),.slice id 0 ys.length,⟨s.r,upd s.m id (some ⟨T,sz,.row ys,true⟩)⟩)
  |_,_=>none):=rfl
theorem TQ (G:FuncId→List D→D→Prop) (dd:Option Nat) (fn:Fn) (x y:List Opd) (g:Option (Nat×Bool)) (K:St→Prop) (s:St):step G ⟨dd,.fnv fn x y,g⟩ K s=fin dd K (ev (.fnv fn x y) (dd.getD 0) s):=rfl
theorem TR (fn:Fn) (x y:List Opd) (id:Nat) (s:St):ev (.fnv fn x y) id s=(match cL s.r s.m x,cL s.r s.m y with
  |some l,some k=>some (true,.p (.fn fn l k),s)
  |_,_=>none):=rfl
theorem TS (r:Nat→AV) (M:Mem):cL r M []=some []:=rfl
theorem TU (r:Nat→AV) (M:Mem) (x:Opd) (l:List Opd):cL r M (x::l)=(match (x.ev r).toD false M 20,cL r M l with
  |some d,some ds=>some (d::ds)
  |_,_=>none):=rfl
theorem TV (any:Bool) (M:Mem) (id i off:Nat):AV.toD any M 20 (.ptr id i off)=(if i=0∧off=0 then match M id with
   |some o=>match o.cont with
    |.box v=>if o.frz||any then (AV.toD any M 19 v).map .ref else none
    |_=>none
   |none=>none else none):=rfl
theorem TW (any:Bool) (M:Mem) (d:D):AV.toD any M 19 (.p d)=some d:=rfl
theorem TX (G:FuncId→List D→D→Prop) (dd:Option Nat) (n:Nat) (x:Opd) (lo hi mx:Option Opd) (g:Option (Nat×Bool)) (K:St→Prop) (s:St):step G ⟨dd,.sliceA n x lo hi mx,g⟩ K s=fin dd K (ev (.sliceA n x lo hi mx) (dd.getD 0) s):=rfl
theorem TY (n:Nat) (x:Opd) (lo hi mx:Option Opd) (id:Nat) (s:St):ev (.sliceA n x lo hi mx) id s=(match x.ev s.r with
  |.ptr i 0 off=>match s.m i with
   |some ⟨_,osz,.box _,_⟩=>if off+n≤osz∧n≤9223372036854775807 then match cd s.r n lo hi mx with
    |some (c,l,h)=>some (c,.arr i (off+l) (h-l),s)
    |none=>none else none
   |_=>none
  |_=>none):=rfl
theorem T3 (any:Bool) (M:Mem) (id off len:Nat):AV.toD any M 20 (.arr id off len)=(match M id with
   |some o=>match o.cont with
    |.box (.p d)=>if (o.frz||any)&&decide (off+len≤d.cells.length)&&decide (len≤9223372036854775807) then some (.list 1000000 1 ((d.cells.drop off).take len)) else none
    |_=>none
   |none=>none):=rfl
theorem T4 (i j o n:Nat):AV.forget i (.arr j o n)=if j=i then .und else .arr j o n:=by unfold AV.forget;rfl
theorem T5 (G:FuncId→List D→D→Prop) (dd:Option Nat) (x y:Opd) (g:Option (Nat×Bool)) (K:St→Prop) (s:St):step G ⟨dd,.copyA x y,g⟩ K s=fin dd K (ev (.copyA x y) (dd.getD 0) s):=rfl
theorem T6 (x y:Opd) (id:Nat) (s:St):ev (.copyA x y) id s=(match x.ev s.r,bO 1 s.m (y.ev s.r) with
  |.arr i off len,some ys=>match s.m i with
   |some ⟨T,osz,.box u,false⟩=>if off+len≤osz∧ys.all D.one=true then
     some (decide (ys.length≤len),.p (.int .i64 (ys.length:Nat)),⟨s.r,upd s.m i (some ⟨T,osz,.box (AV.mk (u.cells.take off++ys.map .p++u.cells.drop (off+ys.length))),false⟩)⟩) else none
   |_=>none
  |_,_=>none):=rfl
theorem T7 (G:FuncId→List D→D→Prop) (dd:Option Nat) (sz:Nat) (z:D) (x:Opd) (g:Option (Nat×Bool)) (K:St→Prop) (s:St):step G ⟨dd,.clearS sz z x,g⟩ K s=fin dd K (ev (.clearS sz z x) (dd.getD 0) s):=rfl
theorem T8 (sz:Nat) (z:D) (x:Opd) (id:Nat) (s:St):ev (.clearS sz z x) id s=(match x.ev s.r with
  |.slice i off len=>match s.m i with
   |some ⟨T,osz,.row l,false⟩=>if osz=sz then some (decide (off+len≤l.length),.und,⟨s.r,upd s.m i (some ⟨T,osz,.row (l.take off++List.replicate len z++l.drop (off+len)),false⟩)⟩) else none
   |_=>none
  |_=>none):=rfl
theorem T9 (G:FuncId→List D→D→Prop) (dd:Option Nat) (neg:Bool) (x:Opd) (g:Option (Nat×Bool)) (K:St→Prop) (s:St):step G ⟨dd,.isNil neg x,g⟩ K s=(match x.ev s.r with
  |.nils _ _=>K (s.put dd (.p (.bool (!neg))))
  |.p (.list _ _ l) => ∀b:Bool,(l≠[]→b=false)→K (s.put dd (.p (.bool (b != neg))))
  |_=>False):=rfl
theorem Ua (T sz:Nat) (l:List D) (rs:List (Nat×Option (Bool×Nat))) (s:St):iE T sz l rs .ret s=ResNew s rs T sz l:=rfl
theorem Ub (T sz:Nat) (l:List D) (rs:List (Nat×Option (Bool×Nat))) (s:St):iE T sz l rs .normal s=ResNew s rs T sz l:=rfl
theorem Uc (T sz:Nat) (l:List D) (rs:List (Nat×Option (Bool×Nat))) (i:Nat) (s:St):iE T sz l rs (.exit i) s=False:=rfl
theorem Ud (G:FuncId→List D→D→Prop) (dd:Option Nat) (x:Opd) (g:Option (Nat×Bool)) (K:St→Prop) (s:St):step G ⟨dd,.strB x,g⟩ K s=fin dd K (ev (.strB x) (dd.getD 0) s):=rfl
theorem Ue (x:Opd) (id:Nat) (s:St):ev (.strB x) id s=(match bO 1 s.m (x.ev s.r) with
  |some ys=>match iJ ys with
   |some b=>some (true,.p (.str b),s)
   |none=>none
  |none=>none):=rfl
theorem Uf (G:FuncId→List D→D→Prop) (dd:Option Nat) (T:TypeId) (x:Opd) (g:Option (Nat×Bool)) (K:St→Prop) (s:St):step G ⟨dd,.bytS T x,g⟩ K s=fin dd K (ev (.bytS T x) (dd.getD 0) s):=rfl
theorem Ug (T:TypeId) (x:Opd) (id:Nat) (s:St):ev (.bytS T x) id s=(match s.m id with
  |none=>match x.ev s.r with
   |.p (.str t)=>some (decide (t.length≤9223372036854775807),.slice id 0 t.length,⟨s.r,upd s.m id (some ⟨T,1,.row (t.map fun b => .int .u8 b.toNat),false⟩)⟩)
   |_=>none
  |some _=>none):=rfl
theorem Uh (k:IntKind) (a b:Int):aO .and (.int k a) (.int k b)=some (eK k a b,.int k (dM .and a.toNat b.toNat:Nat)):=by simp[aO]
theorem Ui (k:IntKind) (a b:Int):aO .or (.int k a) (.int k b)=some (eK k a b,.int k (dM .or a.toNat b.toNat:Nat)):=by simp[aO]
theorem Uj (k:IntKind) (a b:Int):aO .xor (.int k a) (.int k b)=some (eK k a b,.int k (dM .xor a.toNat b.toNat:Nat)):=by simp[aO]
theorem Uk (k:IntKind) (a b:Int):aO .andNot (.int k a) (.int k b)=some (eK k a b,.int k (dM .andNot a.toNat b.toNat:Nat)):=by simp[aO]
theorem Ul (k k':IntKind) (a b:Int):aO .shr (.int k a) (.int k' b)=some (decide (0≤b∧b<k.bits),.int k (a / 2^b.toNat)):=by simp[aO]
theorem Um (k k':IntKind) (a b:Int):aO .shl (.int k a) (.int k' b)=some (decide (0≤b∧b<k.bits)&&inK k (a*2^b.toNat),.int k (a*2^b.toNat)):=by simp[aO]
def csL:=an @Tv (an @Ud (an @Ue (an @Uf (an @Ug (an @Uh (an @Ui (an @Uj (an @Uk (an @Ul (an @Um (an @T9 (an @T8 (an @T7 (an @T6 (an @T5 (an @T4 (an @T3 (an @TY (an @TX (an @Option.map_some.{0,0} (an @TW (an @TV (an @TU (an @TS (an @TR (an @TQ (an @TP (an @TO (an @TM (an @TK (an @TJ (an @TI (an @TH (an @TG (an @Tu (an @Ua (an @Ub (an @Uc (an @Ts (an @Tt (an @Tw (an @Tx (an @Tz (an @TA (an @r6 (an @r7 (an @r8 (an @TB (an @TC (an @TD (an @TE @TF)))))))))))))))))))))))))))))))))))))))))))))))))))
theorem ResLt.unit (s:St):ResLt s [] (.tup []):=.plain rfl (fun m h=>by cases h)
theorem ResLt.one {s:St}{t:Nat}{d:D} (h:s.r t = .p d) (hd:∀m,d≠.tup [.int .i64 m]):ResLt s [(t,none)] d:=.plain (by simp[ai,aq,ah,dY,h,qt]) hd
def du (P:Program) (A:List TypeId) (f:FuncId) (k:Nat) (ds:List D) (T sz:Nat) (l:List D) (r:D) (l':List D):Prop:=
 f<LB∧k<8∧ds[k]? = some (.list T sz l)∧l'.length=l.length∧(l=[]→Con P A f ds (cQ T sz r))∧(l≠[]→dF P A f k ds T sz l r l')
theorem du.x {P:Program}{A:List TypeId}{f:FuncId}{k:Nat}{ds:List D}{T sz:Nat}{l:List D}{r:D}{l':List D} (h:du P A f k ds T sz l r l'):ConX P A (f+LB*(k+1)) ds (.tup [r,.list T sz l']):=
 .lent h.1 h.2.1 h.2.2.1 h.2.2.2.1 h.2.2.2.2.1 h.2.2.2.2.2
theorem fQ.x {P:Program}{A:List TypeId}{f:FuncId}{ds:List D}{T sz:Nat}{l:List D} (h:fQ P A f ds T sz l) (hf:f<LB:=by decide):ConX P A (f+LB*(8+1)) ds (.list T sz l):=.fresh hf h
set_option linter.unusedSimpArgs false
open Go.RowKit
mutual
def AV.ren (ρ:Nat→Nat):AV→AV
 |.slice i o n => .slice (ρ i) o n
 |.ptr i j o => .ptr (ρ i) j o
 |.arr i o n => .arr (ρ i) o n
 |.agg l => .agg (iA ρ l)
 |.tup l => .tup (iA ρ l)
 |v=>v
def iA (ρ:Nat→Nat):List AV→List AV
 |[]=>[]
 |v::l=>v.ren ρ::iA ρ l
end
theorem lw (ρ:Nat→Nat):∀l:List AV,iA ρ l=l.map (AV.ren ρ)
 |[]=>by simp[iA]
 |v::l=>by simp[iA,lw ρ l]
def AObj.ren (ρ:Nat→Nat) (o:AObj):AObj:=match o.cont with
 |.box v=>⟨o.T,o.sz,.box (v.ren ρ),o.frz⟩
 |_=>o
theorem AObj.ren_T (ρ:Nat→Nat) (o:AObj):(o.ren ρ).T=o.T∧(o.ren ρ).sz=o.sz∧(o.ren ρ).frz=o.frz:=by
 unfold AObj.ren;split<;>exact⟨rfl,rfl,rfl⟩
theorem AV.ren_one (ρ:Nat→Nat) (v:AV):(v.ren ρ).one=v.one:=by
 cases v<;>simp[AV.ren,AV.one]
theorem AV.ren_cells (ρ:Nat→Nat) (v:AV):(v.ren ρ).cells=v.cells.map (AV.ren ρ):=by
 cases v<;>simp[AV.ren,AV.cells,lw]
theorem RV.ren {w:World}{N:Nat→Prop}{loc:aX}{ρ:Nat→Nat} (hρ:∀i,ρ (ρ i)=i){v:Value}{d:AV} (h:RV w N loc v d):RV w N (fun i=>loc (ρ i)) v (d.ren ρ):=by
 induction h with
 |und v=>unfold AV.ren;exact .und v
 |p v d h=>unfold AV.ren;exact .p v d h
 |agg cs l h1 h2 _ ih =>
  unfold AV.ren;rw[lw];refine .agg cs _ (by simpa using h1) (fun e he => ?_) (fun i e he => ?_)
  ·simp only[z9Q] at he;obtain⟨x,hx,rfl⟩:=he;rw[AV.ren_one];exact h2 x hx
  ·simp only[z9B,z94] at he;obtain⟨x,hx,rfl⟩:=he;exact ih i x hx
 |tup cs l h1 _ ih =>
  unfold AV.ren;rw[lw];refine .tup cs _ (by simpa using h1) (fun i e he => ?_);simp only[z9B,z94] at he;obtain⟨x,hx,rfl⟩:=he;exact ih i x hx
 |nils T sz=>unfold AV.ren;exact .nils T sz
 |slice L id off len cap h1 h2 h3 h4 h5=>unfold AV.ren;exact .slice L _ off len cap (by simpa only[hρ] using h1) h2 h3 h4 h5
 |sliceEmp L id off p h1=>unfold AV.ren;exact .sliceEmp L _ off p (by simpa only[hρ] using h1)
 |arr L id off len cap h1 h2 h3 h4 h5=>unfold AV.ren;exact .arr L _ off len cap (by simpa only[hρ] using h1) h2 h3 h4 h5
 |arrEmp L id off p h1=>unfold AV.ren;exact .arrEmp L _ off p (by simpa only[hρ] using h1)
 |ptr L id i off h1 h2=>unfold AV.ren;exact .ptr L _ i off (by simpa only[hρ] using h1) h2
section
variable {w0:World}{base:Bs}{nt:Nat}{loc:aX}{a:Act}{w:World}{OT:List TypeId}{s:St}{ρ:Nat→Nat}
theorem Rel.ren (h:Rel w0 base nt loc s a w) (hρ:∀i,ρ (ρ i)=i) (hL:ρ aF=aF):Rel w0 base nt (fun i=>loc (ρ i)) ⟨fun t=>(s.r t).ren ρ,fun j=>(s.m (ρ j)).map (AObj.ren ρ)⟩ a w:=by
 have hm:∀j o,(s.m (ρ j)).map (AObj.ren ρ)=some o→∃o0,s.m (ρ j)=some o0∧o=o0.ren ρ:=by
  intro j o ho;simp only[z94] at ho;obtain⟨x,hx,rfl⟩:=ho;exact⟨x,hx,rfl⟩
 have hN:NB base (fun j=>(s.m (ρ j)).map (AObj.ren ρ)) (fun i=>loc (ρ i)) w=NB base s.m loc w:=by
  funext b
  refine propext ⟨fun ⟨h1,h2,h3⟩=>⟨h1,h2,?_⟩,fun ⟨h1,h2,h3⟩=>⟨h1,h2,?_⟩⟩
  ·rintro⟨id,o,L,g1,g2,g3,g4,g5⟩;exact h3 ⟨ρ id,o.ren ρ,L,by simp only[hρ,g1,Option.map_some],by rw[(o.ren_T ρ).2.2];exact g2,by simp only[hρ];exact g3,g4,g5⟩
  ·rintro⟨id,o,L,g1,g2,g3,g4,g5⟩;obtain⟨o0,k1,rfl⟩:=hm id o g1;exact h3 ⟨ρ id,o0,L,k1,by rw[(o0.ren_T ρ).2.2] at g2;exact g2,g3,g4,g5⟩
 refine⟨h.ext,h.defers,h.size,h.low,fun j hj => ?_,fun t => ?_,fun j o ho => ?_,fun j j' o o' L L' ho ho' hf hLj hLj' hn hn' hb => ?_,fun L hB => ?_⟩
 ·dsimp only at hj;simp only[Option.map_eq_none_iff] at hj;exact h.dom _ hj
 ·rw[hN];exact (h.tmps t).ren hρ
 ·obtain⟨o0,k1,rfl⟩:=hm j o ho;obtain⟨L,hL1,hok⟩:=h.objs _ _ k1;obtain⟨e1,e2,e3⟩:=o0.ren_T ρ;refine⟨L,hL1,by rw[e2];exact hok.sz,fun hn => ?_,fun hn => ?_⟩
  ·have:=hok.nil hn;unfold AObj.ren;rw[this];exact this
  ·obtain⟨c,fr,q1,q2,q3,q4,q5⟩:=hok.at_ hn;rw[e1,e2,e3,hN];refine⟨c,fr,q1,q2,?_,q4,q5⟩;unfold AObj.ren;cases hc:o0.cont with
   |row l=>rw[hc] at q3;simp only[hc];exact q3
   |junk=>rw[hc] at q3;simp only[hc];exact q3
   |box v =>
    rw[hc] at q3;obtain⟨m1,m2,m3,m4⟩:=q3;refine⟨m1,by rw[AV.ren_cells];simpa using m2,fun e he => ?_,fun i e he => ?_⟩
    ·rw[AV.ren_cells] at he;simp only[z9Q] at he;obtain⟨x,hx,rfl⟩:=he;rw[AV.ren_one];exact m3 x hx
    ·rw[AV.ren_cells] at he;simp only[z9B,z94] at he;obtain⟨x,hx,rfl⟩:=he;exact (m4 i x hx).ren hρ
 ·obtain⟨o0,k1,rfl⟩:=hm j o ho;obtain⟨o1,k2,rfl⟩:=hm j' o' ho';have:=h.inj (ρ j) (ρ j') o0 o1 L L' k1 k2 (by rw[(o0.ren_T ρ).2.2] at hf;exact hf) hLj hLj' hn hn' hb;have:=congrArg ρ this;simpa only[hρ] using this
 ·obtain⟨h1,h2,h3,o,h4,h5⟩:=h.keepL L hB;exact⟨by simp only[hL];exact h1,h2,h3,o.ren ρ,by simp only[hL,h4,Option.map_some],by rw[(o.ren_T ρ).2.2];exact h5⟩
theorem Sub.renF (hρ:∀i,ρ (ρ i)=i) (hL:ρ aF=aF):Sub OT s ⟨fun t=>(s.r t).ren ρ,fun j=>(s.m (ρ j)).map (AObj.ren ρ)⟩:=by
 rintro C a w rfl ⟨⟨loc,hr⟩,h2⟩;refine⟨⟨_,hr.ren hρ hL⟩,fun j o ho => ?_⟩;simp only[z94] at ho;obtain⟨x,hx,rfl⟩:=ho;rw[(x.ren_T ρ).1];exact h2 _ _ hx
end
def rnR (ρ:Nat→Nat):List (Nat×AV)→List (Nat×AV)
 |[]=>[]
 |(i,v)::l=>(i,v.ren ρ)::rnR ρ l
def rnM (ρ:Nat→Nat):List (Nat×AObj)→List (Nat×AObj)
 |[]=>[]
 |(i,o)::l=>(ρ i,o.ren ρ)::rnM ρ l
theorem tO (ρ:Nat→Nat):∀(l:List (Nat×AV)) (t:Nat),ar (rnR ρ l) t=(ar l t).ren ρ
 |[],t=>by rw[rnR,eQ];simp[AV.ren]
 |(i,v)::l,t=>by
  rw[rnR,cZ,cZ];split
  ·rfl
  ·exact tO ρ l t
theorem tP (ρ:Nat→Nat) (hρ:∀i,ρ (ρ i)=i):∀(l:List (Nat×AObj)) (j:Nat),au (rnM ρ l) j=(au l (ρ j)).map (AObj.ren ρ)
 |[],j=>by rw[rnM,iY,iY];rfl
 |(i,o)::l,j=>by
  rw[rnM,ek,ek,tP ρ hρ l j];by_cases e:j=ρ i
  ·rw[if_pos e,if_pos (by rw[e,hρ])];rfl
  ·rw[if_neg e,if_neg (fun h=>e (by rw[←h,hρ]))]
theorem Sub.ren {OT:List TypeId}{R:List (Nat×AV)}{M:List (Nat×AObj)}{ρ:Nat→Nat} (hρ:∀i,ρ (ρ i)=i) (hL:ρ aF=aF):Sub OT ⟨ar R,au M⟩ ⟨ar (rnR ρ R),au (rnM ρ M)⟩:=by
 have h:(⟨ar (rnR ρ R),au (rnM ρ M)⟩:St)=⟨fun t=>(ar R t).ren ρ,fun j=>(au M (ρ j)).map (AObj.ren ρ)⟩:=by
  congr 1
  ·funext t;exact tO ρ R t
  ·funext j;exact tP ρ hρ M j
 rw[h];exact Sub.renF hρ hL
def swp (K i:Nat):Nat:=if i<100000 then i+K else if K≤i∧i<K+100000 then i-K else i
theorem Xf {K:Nat} (hK:1000000≤K) (i:Nat):swp K (swp K i)=i:=by
 unfold swp;by_cases h1:i<100000
 ·rw[if_pos h1,if_neg (by omega),if_pos (by omega)];omega
 ·rw[if_neg h1];by_cases h2:K≤i∧i<K+100000
  ·rw[if_pos h2,if_pos (by omega)];omega
  ·rw[if_neg h2,if_neg h1,if_neg h2]
theorem Xg {K:Nat} (hK:1000000≤K):swp K aF=aF:=by
 unfold swp aF;rw[if_neg (by decide),if_neg (by omega)]
section
variable {w0:World}{base:Bs}{nt:Nat}{loc:aX}{a:Act}{w:World}{OT:List TypeId}{s:St}
end
set_option linter.unusedSimpArgs false
open Go.RowKit
def apL (l l':List COp):List COp:=l++l'
section
variable {OT:List TypeId}{G:FuncId→List D→D→Prop}
def kw (OT:List TypeId) (G:FuncId→List D→D→Prop) (c:CC) (Q:AExit→St→Prop) (s:St):Prop:=cw OT G c Q s
def kc (G:FuncId→List D→D→Prop) (l:List COp) (K:St→Prop) (s:St):Prop:=bC G l K s
theorem ulk {c:CC}{Q:AExit→St→Prop}{s:St} (h:cw OT G c Q s):kw OT G c Q s:=h
theorem ulc {l:List COp}{K:St→Prop}{s:St} (h:bC G l K s):kc G l K s:=h
theorem kp {r:Nat→AV}{m:Mem}{c:CC}{Q:AExit→St→Prop} (ts:List Nat) (h:cw OT G c Q ⟨ar (sel r ts),m⟩):∃u,Sub OT ⟨r,m⟩ u∧kw OT G c Q u:=keep ts h
theorem dk {a b:CC}{Q:AExit→St→Prop}{s:St} (h:cw OT G a (fun e t=>match e with
  |.normal => ∃u,Sub OT t u∧kw OT G b Q u
  |e=>Q e t) s):cw OT G (.seq a b) Q s:=h
theorem pC {id:Nat}{a:CC}{Q:AExit→St→Prop}{s:St} (h:cw OT G a (fun e t=>match e with
  |.exit j=>if j=id then Q .normal t else Q (.exit j) t
  |e=>Q e t) s):cw OT G (.block id a) Q s:=h
theorem kw1 (Q:AExit→St→Prop) (s:St):cw OT G .skip Q s=Q .normal s:=rfl
theorem kw2 (ap:List (Nat×Nat)) (l:List COp) (Q:AExit→St→Prop) (s:St):cw OT G (.ops ap l) Q s=(ez ap s.r=true∧bC G l (Q .normal) s):=rfl
theorem kw3 (a b:CC) (Q:AExit→St→Prop) (s:St):cw OT G (.seq a b) Q s=cw OT G a (fun e t=>match e with
  |.normal => ∃u,Sub OT t u∧kw OT G b Q u
  |e=>Q e t) s:=rfl
theorem kw4 (x:Opd) (a b:CC) (Q:AExit→St→Prop) (s:St):cw OT G (.cond x a b) Q s=(match x.ev s.r with
  |.p (.bool c)=>(c=true→kw OT G a Q s)∧(c=false→kw OT G b Q s)
  |_=>False):=rfl
theorem kw5 (id:Nat) (a:CC) (Q:AExit→St→Prop) (s:St):cw OT G (.block id a) Q s=cw OT G a (fun e t=>match e with
  |.exit j=>if j=id then Q .normal t else Q (.exit j) t
  |e=>Q e t) s:=rfl
theorem kw6 (id:Nat) (Q:AExit→St→Prop) (s:St):cw OT G (.exit id) Q s=Q (.exit id) s:=rfl
theorem kw7 (Q:AExit→St→Prop) (s:St):cw OT G .ret Q s=Q .ret s:=rfl
theorem kc1 (l l':List COp) (K:St→Prop) (s:St):bC G (apL l l') K s=bC G l (kc G l' K) s:=pO G K l l' s
theorem kc2 (K:St→Prop) (s:St):bC G [] K s=K s:=rfl
theorem kc3 (c:COp) (l:List COp) (K:St→Prop) (s:St):bC G (c::l) K s=bK G c (bC G l K) s:=rfl
end
theorem wq{p:Prop}{q r:D→Prop}{d:D}(h:q d)(k:r d)(g:p:=by first|exact aw_look (by rfl)|(intros;trivial)|(intro id o h;(repeat' split at h)<;>first|(cases h;done)|(simp only[z99] at h;subst h;simp))):p∧∃d,q d∧r d:=⟨g,d,h,k⟩
def kV:=an @kw1 (an @kw2 (an @kw3 (an @kw4 (an @kw5 (an @kw6 (an @kw7 (an @kc1 (an @kc2 (an @kc3 (an csW csL))))))))))
set_option linter.unusedSimpArgs false
open Go.RowKit
abbrev Mq:List COp:=[o2 11 (.build [(.p (.bool false)),(.p (.list 3 1 []))] []),o2 12 (.call 62 [(ki 1)])]
abbrev Mr:List COp:=[o2 13 (.build [(.p (.bool false)),(.p (.list 3 1 [])),(.p (.bool false)),(.p (.list 3 1 []))] [(0,2,(.t 11)),(2,2,(.t 12))]),o2 4 (.alloc 50 4 (.p (.agg [(.bool false),(.list 3 1 []),(.bool false),(.list 3 1 [])]))),b8 4 4 13]
abbrev Ms:List COp:=[o1 15 0,o2 16 (.call 63 [(.t 15),(kb true),(kb true)])]
abbrev Mt:List COp:=[o1 14 16,b9 17 14 0,b9 18 14 1,o1 5 17,o1 6 18]
abbrev Mu:List COp:=[o1 34 0,o1 35 5,b2 36 .add 35 1,o2 37 (.sliceS (.t 34) (some (.t 36)) none),o2 38 (.call 63 [(.t 37),(kb false),(kb false)])]
abbrev Mv:List COp:=[o1 33 38,b9 39 33 0,b9 40 33 1,o1 8 39,o1 9 40]
abbrev Mw:CC:=.ops [] [o1 45 9,o1 6 45]
abbrev Mx:CC:=.seq (.ops [] [o1 41 5,b2 42 .add 41 1,o1 43 8,b1 44 .add 42 43,o1 7 44]) Mw
abbrev My:CC:=.seq (.ops [] (apL Mu (Mv))) Mx
abbrev Mz:CC:=.cond (.t 32) My .skip
abbrev MA:CC:=.seq (.ops [] [b4 54 true 4 4,o1 55 7,o2 56 (.build [(.p (.int .i64 0)),(.p (.int .i64 0))] [(0,1,(ki 1)),(1,1,(.t 55))]),b8 4 2 54,b8 2 3 56]) .ret
abbrev MB:CC:=.cond (.t 53) MA .skip
abbrev MC:List COp:=[o1 57 0,o1 58 5,o2 59 (.sliceS (.t 57) none (some (.t 58))),o2 60 (.call 64 [(.t 59)])]
abbrev MD:List COp:=[b2 61 .gtr 60 1000,o1 62 61,o5 63 7 62 false,o5 64 5 62 false,o4 65 (.bin false .sub (.t 63) (.t 64)) 62 false,o4 66 (.bin false .sub (.t 65) (ki 1)) 62 false,o4 67 (.bin false .gtr (.t 66) (ki 1000)) 62 false,o2 68 (.pick (.t 62) (kb true) (.t 67))]
abbrev ME:CC:=.seq (.ops [] [b4 69 true 4 4,o2 70 (.build [(.p (.int .i64 0)),(.p (.int .i64 0))] [(0,1,(ki 2))]),b8 4 2 69,b8 2 3 70]) .ret
abbrev MF:CC:=.cond (.t 68) ME .skip
abbrev MG:List COp:=[o1 71 0,o1 72 5,o2 73 (.sliceS (.t 71) none (some (.t 72))),o2 74 (.call 65 [(.t 73)])]
abbrev MH:List COp:=[o2 75 (.call 62 [(ki 1)])]
abbrev MI:List COp:=[o2 76 (.build [(.p (.bool false)),(.p (.list 3 1 [])),(.p (.bool false)),(.p (.list 3 1 []))] [(0,2,(.t 74)),(2,2,(.t 75))]),o2 10 (.alloc 50 4 (.p (.agg [(.bool false),(.list 3 1 []),(.bool false),(.list 3 1 [])]))),b8 4 10 76]
abbrev MJ:List COp:=[o1 80 0,o1 81 5,o2 82 (.sliceS (.t 80) none (some (.t 81))),o2 83 (.call 65 [(.t 82)])]
abbrev MK:List COp:=[o1 84 0,o1 85 5,b2 86 .add 85 1,o2 87 (.sliceS (.t 84) (some (.t 86)) none),o2 88 (.call 65 [(.t 87)])]
abbrev ML:List COp:=[o2 89 (.call 66 [(.t 83),(.t 88)])]
abbrev MM:List COp:=[b8 4 10 89]
abbrev MN:CC:=.ops [] (apL MJ (apL MK (apL ML (MM))))
abbrev MO:CC:=.cond (.t 79) MN .skip
abbrev MP:List COp:=[b4 90 true 4 10,o2 91 (.call 27 [(.t 90)])]
abbrev MQ:List COp:=[o1 92 0,b1 93 .neq 91 92]
abbrev MR:CC:=.seq (.ops [] [b4 94 true 4 4,o2 95 (.build [(.p (.int .i64 0)),(.p (.int .i64 0))] [(0,1,(ki 3))]),b8 4 2 94,b8 2 3 95]) .ret
abbrev MS:CC:=.cond (.t 93) MR .skip
abbrev MT:CC:=.seq (.ops [] [b4 96 true 4 10,o2 97 (.build [(.p (.int .i64 0)),(.p (.int .i64 0))] []),b8 4 2 96,b8 2 3 97]) .ret
abbrev MU:CC:=.seq (.seq (.ops [] (apL MP (MQ))) MS) MT
abbrev MV:CC:=.seq (.seq (.ops [] [o1 77 7,o1 78 5,b1 79 .gtr 77 78]) MO) MU
abbrev MW:CC:=.seq (.ops [] (apL MG (apL MH (MI)))) MV
abbrev MX:CC:=.seq (.seq (.ops [] (apL MC (MD))) MF) MW
abbrev MY:CC:=.seq (.seq (.ops [] [o1 46 6,o2 47 (.un .not (.t 46)),o1 48 47,o5 49 7 48 false,o5 50 0 48 false,o4 51 (.lenS (.t 50)) 48 false,o4 52 (.bin false .lss (.t 49) (.t 51)) 48 false,o2 53 (.pick (.t 48) (kb true) (.t 52))]) MB) MX
abbrev M0:CC:=.seq (.seq (.ops [] [o1 20 6,o1 21 20,o5 22 5 21 true,o5 23 0 21 true,o4 24 (.lenS (.t 23)) 21 true,o4 25 (.bin false .lss (.t 22) (.t 24)) 21 true,o2 26 (.pick (.t 21) (.t 25) (kb false)),o1 27 26,o5 28 0 27 true,o5 29 5 27 true,o4 30 (.index (.t 28) (.t 29)) 27 true,o4 31 (.bin false .eql (.t 30) (.k (.p (.int .u8 47)))) 27 true,o2 32 (.pick (.t 27) (.t 31) (kb false))]) Mz) MY
abbrev M1:CC:=.seq (.ops [] [o1 19 5,o1 7 19]) M0
abbrev M2:CC:=.seq (.ops [] (apL Ms (Mt))) M1
abbrev M3:CC:=.seq (.ops [] (apL Mq (Mr))) M2
abbrev c25:CC:=.seq (.ops [] [o2 2 (.alloc 50 4 (.p (.agg [(.bool false),(.list 3 1 []),(.bool false),(.list 3 1 [])]))),o2 3 (.alloc 25 2 (.p (.agg [(.int .i64 0),(.int .i64 0)])))]) M3
theorem M4:az Tryz.prog 25 [50,25] c25 [(2,some (true,4)),(3,some (true,2))] 98:=
 fk _ [⟨14,[0,1,2,3,4,5,6,7,8,9,10],[0,0,3,7,0,0,32,112,255,511,1023],[]⟩] Tryz.func25
abbrev M5:List COp:=[b4 7 true 4 3,o2 8 (.call 92 [(.t 7)])]
abbrev M6:List COp:=[b4 12 true 4 2,b4 16 true 4 2,b4 18 true 4 3,b6 5 0 2 true 2,b4 6 true 2 5,o2 9 (.call 116 [(.t 6),(.t 8)])]
abbrev M7:List COp:=[o2 13 (.call 92 [(.t 12)])]
abbrev M8:List COp:=[b6 10 0 2 true 3,b4 11 true 2 10,o2 14 (.call 116 [(.t 11),(.t 13)])]
abbrev M9:List COp:=[o2 15 (.call 119 [(.t 9),(.t 14)])]
abbrev Na:List COp:=[o2 17 (.call 92 [(.t 16)])]
abbrev Nb:List COp:=[o2 19 (.call 92 [(.t 18)])]
abbrev Nc:List COp:=[o2 20 (.call 116 [(.t 17),(.t 19)])]
abbrev Nd:List COp:=[o2 21 (.call 82 [(.t 15),(.t 20)])]
abbrev Ng:List COp:=[b8 4 4 21]
abbrev Nh:CC:=.seq (.ops [] (apL M5 (apL M6 (apL M7 (apL M8 (apL M9 (apL Na (apL Nb (apL Nc (apL Nd (Ng))))))))))) .ret
abbrev Ni:CC:=.seq (.ops [] [o2 2 (.box 88 4 (.t 0)),o2 3 (.box 88 4 (.t 1)),o2 4 (.alloc 88 4 (.p (.agg [(.bool false),(.list 173 1 []),(.bool false),(.list 173 1 [])])))]) Nh
theorem rA:az Tryz.prog 112 [88] Ni [(4,some (true,4))] 22:=
 fk _ [⟨1,[2,3,7,11,13,0,1,4,8,5,6,9,10,12,14,15,16,17],[0,1,0,4,15,0,32,0,159,511,1023,0,4095,0,16383,32767,65535,131071],[]⟩] Tryz.func112
abbrev Nj:List COp:=[b4 10 true 4 2,b4 12 true 4 3,b6 5 0 2 true 2,b4 6 true 2 5,b6 7 0 2 true 3,b4 8 true 2 7,o2 9 (.call 116 [(.t 6),(.t 8)])]
abbrev Nk:List COp:=[o2 11 (.call 92 [(.t 10)])]
abbrev Nl:List COp:=[o2 13 (.call 92 [(.t 12)])]
abbrev Nm:List COp:=[o2 14 (.call 116 [(.t 11),(.t 13)])]
abbrev Nn:List COp:=[o2 15 (.call 82 [(.t 9),(.t 14)])]
abbrev No:List COp:=[b8 4 4 15]
abbrev Np:CC:=.seq (.ops [] (apL Nj (apL Nk (apL Nl (apL Nm (apL Nn (No))))))) .ret
abbrev c86:CC:=.seq (.ops [] [o2 2 (.box 88 4 (.t 0)),o2 3 (.box 88 4 (.t 1)),o2 4 (.alloc 88 4 (.p (.agg [(.bool false),(.list 173 1 []),(.bool false),(.list 173 1 [])])))]) Np
theorem rB:az Tryz.prog 86 [88] c86 [(4,some (true,4))] 16:=
 fk _ [⟨1,[5,7,0,1,2,3,4,6,8,9,10,11],[0,1,0,4,15,0,63,0,255,511,1023,2047],[]⟩] Tryz.func86
abbrev Nq:List COp:=[b6 3 0 2 true 1,b4 4 true 2 3,o2 5 (.call 90 [(.t 4)])]
abbrev Nr:List COp:=[o1 2 5]
abbrev Ns:CC:=.seq (.ops [] (apL Nq (Nr))) .ret
abbrev c78:CC:=.seq (.ops [] [o2 1 (.box 88 4 (.t 0)),o2 2 (.mov (ki 0))]) Ns
theorem rC:az Tryz.prog 78 [88] c78 [(2,none)] 6:=
 fk _ [] Tryz.func78
abbrev Nt:List COp:=[b6 5 0 2 true 2,b4 6 true 2 5,b6 7 2 2 true 3,b4 8 true 2 7,o2 9 (.call 69 [(.t 6),(.t 8)])]
abbrev Nu:List COp:=[b6 10 0 2 true 3,b4 11 true 2 10,b6 12 2 2 true 2,b4 13 true 2 12,o2 14 (.call 69 [(.t 11),(.t 13)])]
abbrev Nv:List COp:=[o2 15 (.call 98 [(.t 9),(.t 14)])]
abbrev Nw:List COp:=[b6 16 2 2 true 2,b4 17 true 2 16,b6 18 2 2 true 3,b4 19 true 2 18,o2 20 (.call 69 [(.t 17),(.t 19)])]
abbrev Nx:List COp:=[o2 21 (.call 66 [(.t 15),(.t 20)])]
abbrev Ny:List COp:=[b8 4 4 21]
abbrev Nz:CC:=.seq (.ops [] (apL Nt (apL Nu (apL Nv (apL Nw (apL Nx (Ny))))))) .ret
abbrev c68:CC:=.seq (.ops [] [o2 2 (.box 50 4 (.t 0)),o2 3 (.box 50 4 (.t 1)),o2 4 (.alloc 50 4 (.p (.agg [(.bool false),(.list 3 1 []),(.bool false),(.list 3 1 [])])))]) Nz
theorem NC:az Tryz.prog 68 [50] c68 [(4,some (true,4))] 22:=
 fk _ [⟨1,[0,1,2,3,4,5,6,7,8,9,10,11,12,13,14,15,16,17],[0,1,0,4,15,0,32,0,128,511,1023,0,2048,0,8192,32767,65535,131071],[]⟩] Tryz.func68
abbrev ND:List COp:=[b6 5 0 2 true 2,b4 6 true 2 5,b6 7 0 2 true 3,b4 8 true 2 7,o2 9 (.call 69 [(.t 6),(.t 8)])]
abbrev NE:List COp:=[b6 10 2 2 true 2,b4 11 true 2 10,b6 12 2 2 true 3,b4 13 true 2 12,o2 14 (.call 69 [(.t 11),(.t 13)])]
abbrev NF:List COp:=[o2 15 (.call 66 [(.t 9),(.t 14)])]
abbrev NG:List COp:=[b8 4 4 15]
abbrev NH:CC:=.seq (.ops [] (apL ND (apL NE (apL NF (NG))))) .ret
abbrev c32:CC:=.seq (.ops [] [o2 2 (.box 50 4 (.t 0)),o2 3 (.box 50 4 (.t 1)),o2 4 (.alloc 50 4 (.p (.agg [(.bool false),(.list 3 1 []),(.bool false),(.list 3 1 [])])))]) NH
theorem NI:az Tryz.prog 32 [50] c32 [(4,some (true,4))] 16:=
 fk _ [⟨1,[0,1,2,3,4,5,6,7,8,9,10,11],[0,1,0,4,15,0,32,0,128,511,1023,2047],[]⟩] Tryz.func32
abbrev NJ:List COp:=[b6 3 0 2 true 1,b4 4 true 2 3,o2 5 (.call 77 [(.t 4)])]
abbrev NK:List COp:=[o1 2 5]
abbrev NL:CC:=.seq (.ops [] (apL NJ (NK))) .ret
abbrev c40:CC:=.seq (.ops [] [o2 1 (.box 50 4 (.t 0)),o2 2 (.mov (ki 0))]) NL
theorem NM:az Tryz.prog 40 [50] c40 [(2,none)] 6:=
 fk _ [] Tryz.func40
abbrev NN:List COp:=[b4 8 true 2 2,b4 9 true 2 3,o2 10 (.call 97 [(.t 8),(.t 9)])]
abbrev NO:List COp:=[o1 7 10,b9 11 7 0,b9 12 7 1,o2 5 (.alloc 50 4 (.p (.agg [(.bool false),(.list 3 1 []),(.bool false),(.list 3 1 [])]))),o2 6 (.alloc 25 2 (.p (.agg [(.int .i64 0),(.int .i64 0)]))),b8 4 5 11,b8 2 6 12]
abbrev NP:CC:=.seq (.ops [] [b4 13 true 4 5,b8 4 4 13]) .ret
abbrev NQ:CC:=.seq (.ops [] (apL NN (NO))) NP
abbrev c66:CC:=.seq (.ops [] [o2 2 (.box 48 2 (.t 0)),o2 3 (.box 48 2 (.t 1)),o2 4 (.alloc 50 4 (.p (.agg [(.bool false),(.list 3 1 []),(.bool false),(.list 3 1 [])])))]) NQ
theorem NR:az Tryz.prog 66 [48,50,25] c66 [(4,some (true,4))] 14:=
 fk _ [] Tryz.func66
end Go.Proofs.YtbnhgnhgbhjkcaaGreat.M
