/- Lemmas. -/
import Derived.Test.YtbnhgnhgbhjkcaaGreatQ6
import Derived.Test.YtbnhgnhgbhjkcaaGreatQ5
import Derived.Test.YtbnhgnhgbhjkcaaGreatQ4
namespace Go.Proofs.YtbnhgnhgbhjkcaaGreat.M
set_option linter.unusedSimpArgs false
open Go.RowKit
def opd (P:Program) (T:Option TypeId):Operand→Opd
 |.tmp t => .t t
 |.const (.bool b) => .k (.p (.bool b))
 |.const (.int k n) => .k (.p (.int k n))
 |.const (.string s) => .k (.p (.str s.data.toList))
 |.const (.pointer none) => .k (.p .nilp)
 |.const (.slice none 0 0)=>match T.bind P.underlying with
  |some (.slice e) => .k (.nils e (P.cellsOf e))
  |_ => .k .und
 |.func f => .k (.p (.fn (.func f) [] []))
 |_ => .k .und
theorem Xj (P:Program) (T:Option TypeId) (x:Operand){w:World}{N:Nat→Prop}{loc:aX}{a:Act}{r:Nat→AV} (h:∀t,RV w N loc (a.tmps.getD t undef) (r t)) :
  RV w N loc (a.eval x) ((opd P T x).ev r):=by
 unfold opd;split
 ·exact h _
 ·exact .p _ _ (.bool _)
 ·exact .p _ _ (.int _ _)
 ·exact .p _ _ (.str _)
 ·exact .p _ _ .nilp
 ·split
  ·exact .nils _ _
  ·exact .und _
 ·exact .p _ _ (.fn _ _ _ [] [] rfl rfl (fun i d h=>by simp at h) (fun i d h=>by simp at h))
 ·exact .und _
def df (P:Program) (T:TypeId):Option (Bool×Nat):=match P.underlying T,P.info? T with
 |some d,some i=>some (sk d,i.size)
 |_,_=>none
theorem dX {P:Program}{T:TypeId}{ag:Bool}{sz:Nat} (h:df P T=some (ag,sz)):bU P T ag sz:=by
 unfold df at h;split at h
 ·rename_i d i h1 h2;simp only[z99,z97] at h;exact⟨d,i,h1,h.1,h2,h.2⟩
 ·cases h
def om (P:Program):Nat→TypeId→Option (List D)
 |0,_=>none
 |n+1,T=>match P.underlying T with
  |some .bool=>some [.bool false]
  |some (.int k)=>some [.int k 0]
  |some .string=>some [.str []]
  |some (.pointer _)=>some [.nilp]
  |some (.slice e)=>some [.list e (P.cellsOf e) []]
  |some (.struct fs)=>(fs.toList.mapM fun f=>om P n f.type).map List.flatten
  |some (.array k e)=>(om P n e).map fun l=>(List.replicate k l).flatten
  |_=>none
def jw:Value→D→Bool
 |.bool a,.bool b=>a == b
 |.int k a,.int k' b=>k == k'&&a == b
 |.string s,.str l=>s.data.toList == l
 |.pointer none,.nilp=>true
 |.slice none 0 0,.list _ _ []=>true
 |_,_=>false
def fX:List Value→List D→Bool
 |[],[]=>true
 |v::vs,d::ds=>jw v d&&fX vs ds
 |_,_=>false
theorem tQ {v:Value}{d:D} (h:jw v d=true) (w:World) (N:Nat→Prop):V w N v d∧d.one=true:=by
 unfold jw at h;split at h
 ·have:=eq_of_beq h;subst this;exact⟨.bool _,rfl⟩
 ·simp only[z9S,beq_iff_eq] at h;obtain⟨rfl,rfl⟩:=h;exact⟨.int _ _,rfl⟩
 ·simp only[beq_iff_eq] at h;subst h;exact⟨.str _,rfl⟩
 ·exact⟨.nilp,rfl⟩
 ·exact⟨.empty _ _ _ _ (by omega),rfl⟩
 ·cases h
theorem iB:∀{vs:List Value}{ds:List D},fX vs ds=true→vs.length=ds.length∧∀i d,ds[i]? = some d→d.one=true∧∀(w:World) (N:Nat→Prop),V w N (vs.getD i undef) d
 |[],[],_=>⟨rfl,fun i d h=>by simp at h⟩
 |v::vs,d::ds,h=>by
  simp only[fX,z9S] at h;obtain⟨g1,g2⟩:=iB h.2;refine⟨by simp[g1],fun i d' hi => ?_⟩
  match i,hi with
  |0,hi=>simp at hi;subst hi;exact⟨(tQ h.1 default (fun _=>True)).2,fun w N=>(tQ h.1 w N).1⟩
  |i+1,hi=>simpa using g2 i d' (by simpa using hi)
 |[],_::_,h=>by simp[fX] at h
 |_::_,[],h=>by simp[fX] at h
def fd (P:Program) (T:TypeId):Option (List D×Bool×Nat):=match P.info? T,df P T,om P 20 T with
 |some i,some (ag,sz),some l=>match i.zero with
  |some z=>if fX z.cells.toList l&&l.length == sz&&(ag||sz == 1) then some (l,ag,sz) else none
  |none=>none
 |_,_,_=>none
def ZOk (P:Program) (T:TypeId) (l:List D) (ag:Bool) (sz:Nat):Prop:=∃i z,P.info? T=some i∧i.zero=some z∧bU P T ag sz∧fX z.cells.toList l=true∧l.length=sz∧(ag=false→sz=1)
theorem fY {P:Program}{T:TypeId}{l:List D}{ag:Bool}{sz:Nat} (h:fd P T=some (l,ag,sz)):ZOk P T l ag sz:=by
 unfold fd at h;split at h
 ·rename_i i ag' sz' l' h1 h2 h3;split at h
  ·rename_i z hz;split at h
   ·rename_i hc;simp only[z9S,z83,beq_iff_eq] at hc;simp only[z99,z97] at h;obtain⟨rfl,rfl,rfl⟩:=h;exact⟨i,z,h1,hz,dX h2,hc.1.1,hc.1.2,fun e=>hc.2.resolve_left (by simp[e])⟩
   ·cases h
  ·cases h
 ·cases h
def eG (l:List D) (ag:Bool):AV:=if ag then .p (.agg l) else match l with
 |[.list T sz []] => .nils T sz
 |[d] => .p d
 |_ => .und
def tR (v:AV) (sz:Nat):Bool:=v.cells.length == sz&&v.cells.all AV.one
def lx (P:Program) (T:TypeId):Bool:=match P.underlying T with
 |some (.struct fs) => !P.stoodInHeld T && !P.eqGuardType P.depth T && fs.toList.zipIdx.all fun (f, i) => f.offset == i && f.name != "_" && (match P.underlying f.type with | some (.int _) => true | _ => false)
 |_=>false
def oo (P:Program) (T e:TypeId):Bool:=!P.eqGuardType P.depth T&&(P.cellsOf e == 1)&&(P.info? e).isSome&&(match P.underlying e with | some (.int _)=>true | _=>false)
def iC (e sz b:Nat) (x y:Opd):AOp:=match x with
 |.k (.nils e2 sz2)=>if sz2 == sz&&e2 == e then .copyS e sz b y else .append e sz b x y
 |_ => .append e sz b x y
theorem tS (e sz b:Nat) (x y:Opd):iC e sz b x y = .append e sz b x y∨(iC e sz b x y = .copyS e sz b y∧x = .k (.nils e sz)):=by
 unfold iC;split
 ·rename_i e2 sz2;split
  ·rename_i hh;simp only[z9S,beq_iff_eq] at hh;obtain⟨rfl,rfl⟩:=hh;exact .inr ⟨rfl,rfl⟩
  ·exact .inl rfl
 ·exact .inl rfl
theorem dg {e sz b:Nat}{x y:Opd}{z:AOp} (h:iC e sz b x y=z):(∃T sz b x y,z = .append T sz b x y)∨∃T sz b y,z = .copyS T sz b y:=by
 rcases tS e sz b x y with h1 | ⟨h1,-⟩<;>rw[h1] at h<;>subst h
 ·exact .inl ⟨_,_,_,_,_,rfl⟩
 ·exact .inr ⟨_,_,_,_,rfl⟩
def aop (P:Program) (o:Oper):Option AOp:=
 match o.op with
 |.move x=>some (.mov (opd P (some o.type) x))
 |.assign x=>some (.mov (opd P (some o.type) x))
 |.nilCheck x=>some (.nilCheck (opd P none x))
 |.pick c a b=>some (.pick (opd P none c) (opd P (some o.type) a) (opd P (some o.type) b))
 |.alloc T=>match fd P T with
  |some (l,ag,sz)=>if tR (eG l ag) sz then some (.alloc T sz (eG l ag)) else none
  |none=>none
 |.box T x=>match df P T with
  |some (_,sz)=>some (.box T sz (opd P (some T) x))
  |none=>none
 |.build T parts=>match fd P T,P.underlying T with
  |some (l,true,_),some (.struct fs)=>match fs.toList.mapM (fun f=>(P.info? f.type).map fun i=>(f.offset,i.size)) with
   |some places=>match parts.toList.mapM (fun p:Nat×Operand=>match places[p.1]?,fs[p.1]? with
     |some (off,sz),some f=>some (off,sz,opd P (some f.type) p.2)
     |_,_=>none) with
    |some ps=>some (.build (l.map .p) ps)
    |none=>none
   |none=>none
  |some (l,true,_),some (.array _ e)=>match P.info? e with
   |some i=>some (.build (l.map .p) (parts.toList.map fun p:Nat×Operand=>(p.1*i.size,i.size,opd P (some e) p.2)))
   |none=>none
  |_,_=>none
 |.buildSlice T n parts=>match P.underlying T with
  |some (.slice e)=>match fd P e with
   |some (l,ag,sz)=>if n*sz≤16777216∧n≤9223372036854775807 then some (.buildSlice e sz (if ag then .agg l else l.headD default) n (parts.toList.map fun (i,x)=>(i,opd P (some e) x))) else none
   |none=>none
  |_=>none
 |.load T x=>match df P T with
  |some (ag,sz)=>if ag||sz == 1 then some (.load ag sz (opd P none x)) else none
  |none=>none
 |.store T x v=>match df P T with
  |some (_,sz)=>some (.store sz (opd P none x) (opd P (some T) v))
  |none=>none
 |.binOp op T x y _=>match P.underlying T with
  |some (.int _)=>some (.bin false op (opd P none x) (opd P none y))
  |some .string=>some (.bin false op (opd P none x) (opd P none y))
  |some .bool=>some (.bin true op (opd P none x) (opd P none y))
  |some (.struct fs)=>if lx P T then match op with
    |.eql=>some (.eqs fs.size false (opd P none x) (opd P none y))
    |.neq=>some (.eqs fs.size true (opd P none x) (opd P none y))
    |_=>none else none
  |some (.slice _)=>match op,y with
   |.eql,.const (.slice none 0 0)=>some (.isNil false (opd P none x))
   |.neq,.const (.slice none 0 0)=>some (.isNil true (opd P none x))
   |_,_=>none
  |some (.array n e)=>if oo P T e then match op with
    |.eql=>some (.eqs n false (opd P none x) (opd P none y))
    |.neq=>some (.eqs n true (opd P none x) (opd P none y))
    |_=>none else none
  |_=>none
 |.unOp op _ x=>some (.un op (opd P none x))
 |.convert S T x=>match P.underlying S,P.underlying T with
  |some _,some (.int k)=>some (.conv k (opd P none x))
  |some (.slice e),some .string=>match P.underlying e with
   |some (.int .u8)=>some (.strB (opd P none x))
   |_=>none
  |some .string,some (.slice e)=>match P.underlying e with
   |some (.int .u8)=>some (.bytS e (opd P none x))
   |_=>none
  |_,_=>none
 |.makeSlice T l c=>match P.underlying T with
  |some (.slice e)=>match fd P e,P.info? e with
   |some (z,ag,sz),some i=>some (.makeSlice e sz i.bytes (if ag then .agg z else z.headD default) (opd P none l) (opd P none c))
   |_,_=>none
  |_=>none
 |.slice T x lo hi mx=>match P.underlying T with
  |some .string=>if mx.isSome then none else some (.sliceS (opd P none x) (lo.map (opd P none)) (hi.map (opd P none)))
  |some (.slice e)=>match df P e with
   |some (_,sz)=>if mx.isSome&&hi.isNone then none else some (.slice sz (opd P none x) (lo.map (opd P none)) (hi.map (opd P none)) (mx.map (opd P none)))
   |none=>none
  |some (.array n e)=>match df P e with
   |some (_,1)=>if mx.isSome&&hi.isNone then none else some (.sliceA n (opd P none x) (lo.map (opd P none)) (hi.map (opd P none)) (mx.map (opd P none)))
   |_=>none
  |_=>none
 |.fieldAddr S x f=>match P.underlying S with
  |some (.struct fs)=>match fs[f]? with
   |some g=>match df P g.type with
    |some (ag,sz)=>if sz == 0 then none else some (.fieldAddr g.offset sz ag (opd P none x))
    |none=>none
   |none=>none
  |_=>none
 |.field S x f=>match P.underlying S with
  |some (.struct fs)=>match fs[f]? with
   |some g=>match df P g.type with
    |some (ag,sz)=>some (.field g.offset sz ag (opd P none x))
    |none=>none
   |none=>none
  |_=>none
 |.indexAddr T x i=>match P.underlying T with
  |some (.slice e)=>match df P e with
   |some (_,sz)=>some (.indexAddr sz (opd P none x) (opd P none i))
   |none=>none
  |some (.array n e)=>match df P e with
   |some (ag,sz)=>some (.indexAddrA n sz ag (opd P none x) (opd P none i))
   |none=>none
  |_=>none
 |.index T x i=>match P.underlying T with
  |some .string=>some (.index (opd P none x) (opd P none i))
  |some (.array n e)=>match df P e with
   |some (ag,sz)=>some (.indexA n sz ag (opd P none x) (opd P none i))
   |none=>none
  |_=>none
 |.makeFunc fn x y=>some (.fnv fn (x.toList.map (opd P none)) (y.toList.map (opd P none)))
 |.panic _=>some .bad
 |.makeInterface _ _=>some .bad
 |.extract x i=>some (.extract (opd P none x) i)
 |.call c=>match c.callee with
  |.value (.func f)=>some (.call f (c.args.toList.zipIdx.map fun (x,i)=>opd P c.argTypes[i]? x))
  |.value (.tmp n)=>some (.callv [] (.t n) (c.args.toList.zipIdx.map fun (x,i)=>opd P c.argTypes[i]? x))
  |.builtin .len=>match c.args.toList,c.argTypes.toList with
   |[x],[T]=>match P.underlying T with
    |some .string=>some (.lenS (opd P none x))
    |some (.slice _)=>some (.len (opd P none x))
    |_=>none
   |_,_=>none
  |.builtin .cap=>match c.args.toList,c.argTypes.toList with
   |[x],[T]=>match P.underlying T with
    |some (.slice _)=>some (.cap (opd P none x))
    |_=>none
   |_,_=>none
  |.builtin .max=>match c.args.toList with
   |[x,y]=>some (.mm true (opd P none x) (opd P none y))
   |_=>none
  |.builtin .min=>match c.args.toList with
   |[x,y]=>some (.mm false (opd P none x) (opd P none y))
   |_=>none
  |.builtin .append=>match c.args.toList,c.argTypes.toList with
   |[x,y],[T,U]=>match P.underlying T,P.underlying U with
    |some (.slice e),some (.slice e')=>match fd P e,P.info? e with
     |some (_,_,sz),some i=>if e == e'&&T == U then some (iC e sz i.bytes (opd P (some T) x) (opd P (some U) y)) else none
     |_,_=>none
    |some (.slice e),some (.int _)=>match fd P e,P.info? e with
     |some (l,ag,sz),some i=>some (.appZ e sz i.bytes (if ag then .agg l else l.headD default) (opd P (some T) x) (opd P none y))
     |_,_=>none
    |_,_=>none
   |_,_=>none
  |.builtin .copy=>match c.args.toList,c.argTypes.toList with
   |[x,y],[T,U]=>match P.underlying T,P.underlying U with
    |some (.slice e),some (.slice _)=>match df P e with
     |some (_,1)=>some (.copyA (opd P none x) (opd P none y))
     |_=>none
    |_,_=>none
   |_,_=>none
  |.builtin .clear=>match c.args.toList,c.argTypes.toList with
   |[x],[T]=>match P.underlying T with
    |some (.slice e)=>match fd P e with
     |some (l,ag,sz)=>some (.clearS sz (if ag then .agg l else l.headD default) (opd P none x))
     |none=>none
    |_=>none
   |_,_=>none
  |_=>none
 |_=>none
end Go.Proofs.YtbnhgnhgbhjkcaaGreat.M
namespace Go.Proofs.YtbnhgnhgbhjkcaaGreat
set_option linter.unusedSimpArgs false
set_option maxHeartbeats 400000
open Go.RowKit
theorem Wo (x:IV) (z:Int) (w:World) (h:IsI w x z) :
  Calls Tryz.prog 90 #[.agg #[.bool x.n,.slice x.s.a x.s.len x.s.cap]] w (fun e w'=>e = .returned (.int .i64 (bM z))∧Ext w w'):=by
 obtain⟨l,hl,hn,hd,hle,hz,h0,hs⟩:=h.open_;have hneg:=neg_iff hd hn h0;obtain⟨n,s⟩:=x;obtain⟨ao,cap,rfl,hcap,hcm,hop⟩:=hl.open_;simp only at hz h0 hneg;rw[←hz] at hneg;have hz0:z=0↔l=[]:=by
  rw[hz,←valL_eq_zero hd hn];unfold sg;split<;>omega
 by_cases hl0:l=[]
 ·subst hl0;have H:=hd_ (hz0.2 rfl);clear hz0 hz h0 hneg;go_enter Tryz.func90,Tryz.ntmps90;go_wp2;go_ret;exact⟨by rw[H.out];rfl,(Ext.rf _).al _⟩
 ·have hlen:0<l.length:=by
   rcases z9D l.length with h | h
   ·exact absurd (z9Z h) hl0
   ·exact h
  cases n
  ·have H:Hd (bM z=1):=hd_ (by
    have:¬ z<0:=by simpa using hneg
    have:¬ z=0:=fun e=>hl0 (hz0.1 e)
    unfold bM;rw[if_neg (by omega),if_neg (by omega)])
   clear hz0 hz h0 hneg hl0;go_enter Tryz.func90,Tryz.ntmps90;go_wp2;go_ret;exact⟨by rw[H.out];rfl,(Ext.rf _).al _⟩
  ·have H:Hd (bM z = -1):=hd_ (by
    have:z<0:=by simpa using hneg
    unfold bM;rw[if_pos (by omega)])
   clear hz0 hz h0 hneg hl0;go_enter Tryz.func90,Tryz.ntmps90;go_wp2;go_ret;exact⟨by rw[H.out];rfl,(Ext.rf _).al _⟩
theorem tg {n:Bool}{z:Int}:sg (!n) z = - sg n z:=by cases n<;>simp[sg]
theorem th (x:IV) (z:Int) (w:World) (h:IsI w x z) :
  Calls Tryz.prog 107 #[.agg #[.bool x.n,.slice x.s.a x.s.len x.s.cap]] w (g8 w (-z)):=by
 obtain⟨l,hl,hn,hd,hle,hz,h0,hs⟩:=h.open_;replace hz:=hd_ hz;replace h0:=hd_ h0;go_enter Tryz.func107,Tryz.ntmps107;go_wp2_with fail;refine (made_any _ x.s l _ (hl.keep (((Ext.rf _).al _).al _)) (by rw[tg,←hz.out];exact hs.neg)).mono ?_;rintro e w1 ⟨y,rfl,hy,hx⟩;have hz1:=hx.size;obtain⟨hc1,hf1⟩:=cS hx;go_wp2;refine bodyPost_ret (v:=.agg #[.bool y.n,.slice y.s.a y.s.len y.s.cap]) (by simp[results,Tryz.results107,go_sem,hc1]) rfl ⟨y,rfl,?_,?_⟩
 ·rw[hz.out,←tg];exact hy.kept ((bn.rf _ _).st2 ((Ty.new' (by simp)).keep hx) (by decide) _ _)
 ·exact (((Ext.rf w).al _).al _ |>.tr hx).st2 (by simp) _ _
theorem tj (x y:Int):valL [x,y]=x+4294967296*y:=by simp[valL]
theorem Wp {n:Int} (h:-9223372036854775808≤n∧n≤9223372036854775807):Bt n 64:=by
 unfold Bt;have:(2:Nat)^64=18446744073709551616:=by decide
 omega
theorem Wq {n:Int} (h:-9223372036854775808≤n∧n<0):sg true (valL [IntKind.u64.wrap (-IntKind.u64.wrap n) % 4294967296,IntKind.u64.wrap (-IntKind.u64.wrap n) / 4294967296 % 4294967296])=n:=by
 have e:IntKind.u64.wrap (-IntKind.u64.wrap n) = -n:=by
  rw[IntKind.wrap_u64,IntKind.wrap_u64];omega
 rw[e,tj];simp only[sg,if_true];omega
theorem Wr {n:Int}:sg false (valL [n % 4294967296,n / 4294967296])=n:=by
 rw[tj];simp only[sg,z9m,if_false];omega
theorem Ws (n:Int) (w:World) (h:-9223372036854775808≤n∧n≤9223372036854775807) :
  Calls Tryz.prog 95 #[.int .i64 n] w (g8 w n):=by
 have hb:=(Wp h).sm (by omega);by_cases hn:n<0
 ·have hv:=hd_ (Wq ⟨h.1,hn⟩);go_enter Tryz.func95,Tryz.ntmps95;go_wp2_with fail;refine (made_any _ ⟨some ⟨w.heap.size+1,0,none⟩,2,2⟩ [IntKind.u64.wrap (-IntKind.u64.wrap n) % 4294967296,IntKind.u64.wrap (-IntKind.u64.wrap n) / 4294967296 % 4294967296] _ ?_ (by rw[hv.out];exact hb)).mono ?_
  ·refine uj (by simp) rfl rfl (by simp) ?_;intro x hx;simp only[z9L,List.not_mem_nil,or_false] at hx;rcases hx with rfl | rfl<;>(show 0≤_∧_≤_)<;>omega
  rintro e w1 ⟨y,rfl,hy,hx⟩;obtain⟨hc1,hf1⟩:=cS hx;have hz1:=hx.size;have k0:w1.cell? ⟨w.heap.size,0,none⟩=some (Value.bool false):=cell_later hx (by simp[go_sem]);have k1:w1.cell? ⟨w.heap.size,1,none⟩=some (Value.slice none 0 0):=cell_later hx (by simp[go_sem]);go_wp2;refine bodyPost_ret (v:=.agg #[.bool y.n,.slice y.s.a y.s.len y.s.cap]) (by simp[results,Tryz.results95,go_sem,k0,k1]) rfl ⟨y,rfl,?_,?_⟩
  ·rw[hv.out] at hy;exact hy.kept ((bn.rf _ _).st2 (T':=86) ((Ty.keep (by first | exact Ty.new' (by simp) | exact (Ty.new' (by simp)).al _) hx)) (by decide) _ _)
  ·exact (((Ext.rf w).al _).al _ |>.tr hx).st2 (by simp) _ _
 ·have hv:=hd_ (Wr (n:=n));go_enter Tryz.func95,Tryz.ntmps95;go_wp2_with fail;refine (made_any _ ⟨some ⟨w.heap.size+1,0,none⟩,2,2⟩ [n % 4294967296,n / 4294967296] _ ?_ (by rw[hv.out];exact hb)).mono ?_
  ·refine uj (by simp) rfl rfl (by simp) ?_;intro x hx;simp only[z9L,List.not_mem_nil,or_false] at hx;rcases hx with rfl | rfl<;>(show 0≤_∧_≤_)<;>omega
  rintro e w1 ⟨y,rfl,hy,hx⟩;obtain⟨hc1,hf1⟩:=cS hx;have hz1:=hx.size;have k0:w1.cell? ⟨w.heap.size,0,none⟩=some (Value.bool false):=cell_later hx (by simp[go_sem]);have k1:w1.cell? ⟨w.heap.size,1,none⟩=some (Value.slice none 0 0):=cell_later hx (by simp[go_sem]);go_wp2;refine bodyPost_ret (v:=.agg #[.bool y.n,.slice y.s.a y.s.len y.s.cap]) (by simp[results,Tryz.results95,go_sem,k0,k1]) rfl ⟨y,rfl,?_,?_⟩
  ·rw[hv.out] at hy;exact hy.kept ((bn.rf _ _).st2 (T':=86) ((Ty.keep (by first | exact Ty.new' (by simp) | exact (Ty.new' (by simp)).al _) hx)) (by decide) _ _)
  ·exact (((Ext.rf w).al _).al _ |>.tr hx).st2 (by simp) _ _
end Go.Proofs.YtbnhgnhgbhjkcaaGreat
namespace Go.Proofs.YtbnhgnhgbhjkcaaGreat.M
set_option linter.unusedSimpArgs false
open Go.RowKit
def aM (P:Program) (w0:World) (base:Bs) (nt:Nat) (o:Oper) (a:Act) (w:World) (t:St) (d:AV):Prop:=
 ∃v w' loc',((execOp a.eval o).run P w = .ok (.value v) w'∨((execOp a.eval o).run P w = .ok .skip w'∧v=undef))∧Rel w0 base nt loc' t a w'∧RV w' (NB base t.m loc' w') loc' v d
section
variable {P:Program}{w0:World}{base:Bs}{nt:Nat}{loc:aX}{s t:St}{a:Act}{w:World}{o:Oper}{id:Nat}{d:AV}
theorem Rel.opd (h:Rel w0 base nt loc s a w) (T:Option TypeId) (x:Operand):RV w (NB base s.m loc w) loc (a.eval x) ((opd P T x).ev s.r):=Xj P T x h.tmps
theorem aT (h:Rel w0 base nt loc s a w){v:Value} (hr:(execOp a.eval o).run P w = .ok (.value v) w) (hv:RV w (NB base s.m loc w) loc v d):aM P w0 base nt o a w s d:=
 ⟨v,w,loc,.inl hr,h,hv⟩
theorem eZ {s:Sem Value}{v:Value}{w':World} (h:s.run P w = .ok v w'):(do pure (Next.value (← s)):Sem Next).run P w = .ok (.value v) w':=by
 simp[h]
theorem tf {x:Operand} (h:Rel w0 base nt loc s a w) (ho:o.op = .move x∨o.op = .assign x){T:Option TypeId} (he:ev (.mov (opd P T x)) id s=some (true,d,t)):aM P w0 base nt o a w t d:=by
 simp only[ev,z99,z97,true_and] at he;obtain⟨rfl,rfl⟩:=he;refine aT h (v:=a.eval x) ?_ (h.opd T x);rcases ho with ho | ho<;>simp[execOp,ho]
theorem Wl {x:Operand} (h:Rel w0 base nt loc s a w) (ho:o.op = .nilCheck x){T:Option TypeId} (he:ev (.nilCheck (opd P T x)) id s=some (true,d,t)):aM P w0 base nt o a w t d:=by
 have hx:=h.opd (P:=P) T x;simp only[ev] at he;split at he
 ·rename_i i j k hk;simp only[z99,z97,true_and] at he;obtain⟨rfl,rfl⟩:=he;rw[hk] at hx;refine aT h (v:=a.eval x) ?_ hx;generalize hv:a.eval x=v at hx;cases hx;simp[execOp,ho,hv]
 ·rename_i e hk;simp only[z99,z97,true_and] at he;obtain⟨rfl,rfl⟩:=he;rw[hk] at hx;refine aT h (v:=a.eval x) ?_ hx;have hx:=hx.inv;generalize hv:a.eval x=v at hx;cases hx;simp[execOp,ho,hv]
 ·cases he
theorem Wm {c x y:Operand} (h:Rel w0 base nt loc s a w) (ho:o.op = .pick c x y){T U W:Option TypeId} (he:ev (.pick (opd P T c) (opd P U x) (opd P W y)) id s=some (true,d,t)):aM P w0 base nt o a w t d:=by
 have hc:=h.opd (P:=P) T c;simp only[ev] at he;split at he
 ·rename_i hk;simp only[z99,z97,true_and] at he;obtain⟨rfl,rfl⟩:=he;rw[hk] at hc;have hc:=hc.inv;refine aT h (v:=a.eval x) ?_ (h.opd U x);generalize hcv:a.eval c=v at hc;cases hc;simp[execOp,ho,hcv,asBool]
 ·rename_i hk;simp only[z99,z97,true_and] at he;obtain⟨rfl,rfl⟩:=he;rw[hk] at hc;have hc:=hc.inv;refine aT h (v:=a.eval y) ?_ (h.opd W y);generalize hcv:a.eval c=v at hc;cases hc;simp[execOp,ho,hcv,asBool]
 ·cases he
theorem Wn {T:TypeId}{x:Operand}{ag:Bool}{sz:Nat} (h:Rel w0 base nt loc s a w) (ho:o.op = .load T x) (hT:bU P T ag sz) (hs:ag=false→sz=1){U:Option TypeId}
  (he:ev (.load ag sz (opd P U x)) id s=some (true,d,t)):aM P w0 base nt o a w t d:=by
 have hx:=h.opd (P:=P) U x;simp only[ev] at he;split at he
 ·rename_i i j off hk;rw[hk] at hx;generalize hxv:a.eval x=v at hx;cases hx with
  |ptr L _ _ _ hL hn =>
  have goal:∀osz (u z:AV) (T':TypeId) (k:Cont) (frz:Bool),s.m i=some ⟨T',osz,k,frz⟩→u.get off sz osz ag=some z →
    (∀c fr,w.heap[L.b]? = some (.cells c T' fr)→bF w (NB base s.m loc w) loc c L.o osz k→L.o+j*osz+osz≤c.size∧u.cells.length=osz∧(∀e∈u.cells,e.one=true)∧(∀p e,u.cells[p]? = some e→RV w (NB base s.m loc w) loc (c.getD (L.o+j*osz+p) undef) e)) →
    aM P w0 base nt o a w s z:=by
   intro osz u z T' k frz hm hg hcc;obtain⟨L',hL',hok⟩:=h.objs i _ hm;rw[hL] at hL';cases hL';obtain⟨c,fr,h1,h2,h3,-⟩:=hok.at_ hn;obtain⟨g1,g2,g3,g4⟩:=hcc c fr h1 h3;obtain⟨v,hv1,hv2⟩:=qA (P:=P) (T':=T) h1 g1 g2 g3 g4 hg hT hs;refine aT h (v:=v) ?_ hv2;have hsz:L.sz=osz:=hok.sz;rw[show L.o+(j*L.sz+off)=L.o+j*osz+off by rw[hsz];omega] at hxv;simp[execOp,ho,hxv,hv1]
  split at he
  ·rename_i T' osz l frz hm;split at he
   ·rename_i z hz;simp only[z99,z97,z8T] at he;obtain⟨hj,rfl,rfl⟩:=he;refine goal osz _ z T' _ frz hm hz ?_;intro c fr _ hcont;obtain⟨k1,k2,k3⟩:=hcont;have he':l[j]? = some (l.getD j default):=by simp[hj]
    have hmul:j*osz+osz≤l.length*osz:=by
     have:=z92 osz (show j+1≤l.length by omega);rw[z9F] at this;omega
    refine⟨by omega,by simpa[AV.cells] using k2 _ (z90 he'),fun e hem => ?_,fun p e hp => ?_⟩
    ·simp only[AV.cells,z9Q] at hem;obtain⟨q,hq,rfl⟩:=hem;obtain⟨n,hn'⟩:=z9q hq;exact (k3 j _ n q he' hn').1
    ·simp only[AV.cells,z9B,z94] at hp;obtain⟨q,hq,rfl⟩:=hp;have:=(k3 j _ p q he' hq).2;rw[←Nat.add_assoc] at this;exact .p _ _ this
   ·cases he
  ·rename_i T' osz u frz hm;split at he
   ·rename_i hj;subst hj;split at he
    ·rename_i z hz;simp only[z99,z97,true_and] at he;obtain⟨rfl,rfl⟩:=he;refine goal osz u z T' _ frz hm hz ?_;intro c fr _ hcont;obtain⟨k1,k2,k3,k4⟩:=hcont;simp only[Nat.zero_mul,Nat.add_zero];exact⟨k1,k2,k3,k4⟩
    ·cases he
   ·cases he
  ·cases he
 ·rename_i e hk;rw[hk] at hx;have hx:=hx.inv;split at he
  ·rename_i hag;simp only[z99,z97,z8T] at he;obtain⟨⟨hlen,hpos⟩,rfl,rfl⟩:=he;generalize hxv:a.eval x=v at hx;cases hx with
   |ref b p T' _ c fr g1 g2 g0 g3 g4 =>
   have hl:∀i,i<e.cells.length→p+i<c.size:=fun i hi=>g3 i e.cells[i] (by simp[hi])
   cases ag with
   |true =>
    cases e with
    |agg l =>
     have hlen':l.length=sz:=by simpa[D.cells] using hlen
     have hfit:p+sz≤c.size:=by
      have:=hl (sz-1) (by rw[hlen];omega);omega
     refine aT h (v:=.agg (rd c p sz)) ?_ (.p _ _ (.agg _ _ (by simp[hlen']) (fun q hq=>g0 q hq) (fun i q hi => ?_)))
     ·have:=kU (P:=P) hT g1 hfit;simp[execOp,ho,hxv,Instr.loadAt,Instr.sureAddr,this]
     ·have hlt:i<sz:=by have:=(z98.1 hi).1;omega
      rw[eD _ _ _ _ hlt];exact g4 i q hi
    |_=>simp[D.isAgg] at hag
   |false =>
    have:=hs rfl;subst this;have h0:e.cells[0]? = some e:=by cases e<;>simp[D.isAgg] at hag<;>rfl
    refine aT h (v:=c.getD p undef) ?_ (.p _ _ ?_)
    ·have:=kW (P:=P) hT g1 (by have:=hl 0 (by omega);rwa[Nat.add_zero] at this);simp[execOp,ho,hxv,Instr.loadAt,Instr.sureAddr,this]
    ·have:=g4 0 e h0
     rwa[Nat.add_zero] at this
  ·cases he
 ·cases he
end
end Go.Proofs.YtbnhgnhgbhjkcaaGreat.M
namespace Go.Proofs.YtbnhgnhgbhjkcaaGreat.Z4
set_option linter.unusedSimpArgs false
open Go.RowKit
def IsZ (w:World) (x:IV) (z:Int):Prop:=
 ∃l,IsL w x.s .i64 l∧Dig l∧Norm l∧z=sg x.n (valL l)∧(l=[]→x.n=false)∧Sm z
theorem IsZ.keep {w w':World}{x:IV}{z:Int} (h:IsZ w x z) (e:Ext w w'):IsZ w' x z:=by
 obtain⟨l,h1,h2⟩:=h;exact⟨l,h1.keep e,h2⟩
theorem IsZ.kept {w w':World}{x:IV}{z:Int} (h:IsZ w x z) (e:bn 3 w w'):IsZ w' x z:=by
 obtain⟨l,h1,h2⟩:=h;exact⟨l,h1.kept e,h2⟩
theorem zdG (w:World):IsZ w ⟨false,⟨none,0,0⟩⟩ 0:=⟨[],tz w _,(fun x hx=>by cases hx),.inl rfl,by simp[sg,valL],fun _=>rfl,vP⟩
def RetZ (w:World) (z:Int) (e:Ending) (w':World):Prop:=
 ∃x:IV,e = .returned (.agg #[.bool x.n,.slice x.s.a x.s.len x.s.cap])∧IsZ w' x z∧Ext w w'
def Av (W:World) (A:List SV) (s:SV):Prop:=∀b off sp,s.a=some ⟨b,off,sp⟩→W.heap.size≤b∨∃t∈A,∃off' sp',t.a=some ⟨b,off',sp'⟩
theorem Av.same {W:World}{A:List SV}{s t:SV} (ht:t∈A) (h:s.a=t.a):Av W A s:=fun _ _ _ e => .inr ⟨t,ht,_,_,h.symm.trans e⟩
theorem Av.nil {W:World}{A:List SV}{s:SV} (h:s.a=none):Av W A s:=fun _ _ _ e=>by rw[h] at e;cases e
def pP (w:World) (A:List SV) (z:Int) (e:Ending) (w':World):Prop:=
 ∃x:IV,e = .returned (.agg #[.bool x.n,.slice x.s.a x.s.len x.s.cap])∧IsZ w' x z∧Ext w w'∧Av w A x.s
theorem pP.ret {w:World}{A:List SV}{z:Int}{e:Ending}{w':World} (h:pP w A z e w'):RetZ w z e w':=by
 obtain⟨x,h1,h2,h3,_⟩:=h;exact⟨x,h1,h2,h3⟩
theorem IsZ.open_ {w:World}{x:IV}{z:Int} (h:IsZ w x z):∃l,IsL w x.s .i64 l∧Norm l∧Dig l∧l.length≤676622540800∧z=sg x.n (valL l)∧(l=[]→x.n=false)∧Sm z:=by
 obtain⟨l,h1,hd,h2,h3,h4,h5⟩:=h;refine⟨l,h1,h2,hd,?_,h3,h4,h5⟩;have hb:Bt (valL l) ei:=by
  rw[h3] at h5;exact h5.bt.le (by rw[gu];exact z95 _)
 have:=len_of_bt hd h2 hb;rw[iU] at this;omega
theorem zdH {w:World}{neg:Bool}{ao:Option Addr}{cap k:Nat}{l:List Int} (h:IsL w ⟨ao,l.length,cap⟩ .i64 l) (hd:Dig l) (hk:k+1≤l.length)
  (hz:∀j,k+1≤j→at_ l j=0) (hne:at_ l k≠0) (hcm:cap≤9223372036854775807) (hs:Sm (sg neg (valL l))):IsZ w ⟨neg,⟨ao,k+1,cap⟩⟩ (sg neg (valL l)):=by
 have hcap:l.length≤cap:=h.1.2.1;refine⟨l.take (k+1),h.take hk (by omega) (by omega),fun x hx=>hd x (z9M hx),.inr ?_,by rw[valL_take hz],fun e => ?_,hs⟩
 ·have:(l.take (k+1)).length-1=k:=by simp;omega
  rw[this];simpa[at_] using hne
 ·have:=congrArg List.length e;rw[z9N,List.length_nil] at this;omega
set_option maxHeartbeats 400000 in
theorem zdI (neg:Bool) (s:SV) (l:List Int) (w:World) (h:IsL w s .i64 l) (hd:Dig l) (hs:Sm (sg neg (valL l))) :
  Calls Tryz.prog 96 #[.bool neg,.slice s.a s.len s.cap] w (pP w [s] (sg neg (valL l))):=by
 obtain⟨ao,cap,rfl,hcap,hcm,hop⟩:=h.open_;replace hs:=hd_ hs;go_enter Tryz.func96,Tryz.ntmps96;go_wp2;go_loop [5] (fun n => ∃k:Nat,k≤l.length∧n = .int .i64 k∧(∀j,k≤j→at_ l j=0)) (fun n=>(intOf n).toNat)
 case atStart=>exact⟨l.length,z95 _,rfl,fun j hj=>bx hj⟩
 case round =>
  obtain⟨k,hk,rfl,hz⟩:=hrel
  match k,hk,hz with
  |0,hk,hz =>
   have H0:=hd_ (valL_zero (fun j=>hz j (by omega)));clear hz;go_wp2;refine bodyPost_ret (v:=.agg #[.bool false,.slice none 0 0]) (by simp[results,Tryz.results96,go_sem]) rfl ⟨⟨false,⟨none,0,0⟩⟩,rfl,?_,(Ext.rf _).al _,Av.nil rfl⟩;rw[H0.out];cases neg<;>exact zdG _
  |k+1,hk,hz =>
   have Hz:=hd_ hz;clear hz;obtain⟨b,off,rfl,hb,hc⟩:=hop (by omega);have hbl:=hb.lt;have hc:=hc k (by omega);have hf:=hd.at_ k;by_cases h0:at_ l k=0
   ·have h0':(at_ l k == 0)=true:=by simp[h0]
    have H0:=hd_ h0;clear h0;go_wp2;go_round
    case rel=>exact⟨k,by omega,by go_num,fun j hj=>if e:j=k then by rw[e];exact H0.out else Hz.out j (by omega)⟩
    case measure=>first | (simp[intOf];done) | (simp[intOf];omega)
   ·have h0':(at_ l k == 0)=false:=by simp[h0]
    go_wp2;refine bodyPost_ret (v:=.agg #[.bool neg,.slice (some ⟨b,off,none⟩) (k+1) cap]) (by simp[results,Tryz.results96,go_sem]) rfl ⟨⟨neg,⟨some ⟨b,off,none⟩,k+1,cap⟩⟩,rfl,?_,?_,Av.same (.head _) rfl⟩
    ·exact (zdH h hd hk Hz.out h0 hcm hs.out).keep (((Ext.rf _).al _))
    ·exact (Ext.rf _).al _
theorem made_any (neg:Bool) (s:SV) (l:List Int) (w:World) (h:IsL w s .i64 l) (hd:Dig l) (hs:Sm (sg neg (valL l))) :
  Calls Tryz.prog 96 #[.bool neg,.slice s.a s.len s.cap] w (RetZ w (sg neg (valL l))):=(zdI neg s l w h hd hs).mono fun _ _ h=>h.ret
end Go.Proofs.YtbnhgnhgbhjkcaaGreat.Z4
