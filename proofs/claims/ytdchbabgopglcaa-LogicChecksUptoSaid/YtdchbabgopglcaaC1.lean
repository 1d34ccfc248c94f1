/- Lemmas. -/
import Derived.Test.YtdchbabgopglcaaRows
import Derived.WalkKit
import Derived.WalkSpells
import Derived.WalkLawsBesides
import Derived.Lib.Hide
import Derived.OrdersHeld
import Derived.Laws.IdiomCopy
set_option linter.defProp false
set_option linter.unusedVariables false
namespace Go.Proofs.Ytdchbabgopglcaa
open Go.RowKit
def Hd (p:Prop):Prop:=Unit→p
theorem Hd.out {p:Prop} (h:Hd p):p:=h ()
theorem hd_ {p:Prop} (h:p):Hd p:=fun _=>h
structure SV where
 a:Option Addr
 len:Nat
 cap:Nat
abbrev Ext (w w':World):Prop:=Below w.heap.size w w'
theorem Ext.rf (w:World):Ext w w:=Below.refl _ _
theorem Ext.tr {a b c:World} (h:Ext a b) (k:Ext b c):Ext a c:=Below.trans h (k.mono h.size)
theorem Ext.al {a b:World} (h:Ext a b) (o:Obj):Ext a (b.alloc o):=Below.alloc h h.size o
theorem Ext.dr {a b:World} (h:Ext a b):Ext a b.drew:=Below.drew h
theorem Ext.st {a b:World} (h:Ext a b){p:Addr} (hp:a.heap.size≤p.block) (u:Value):Ext a (b.setCell p u):=Below.setCell h hp u
theorem Ext.gr {a b c:World}{row:Option Nat} (h:Ext a b) (hg:b.grownBy c row) (hr:∀k,row=some k→a.heap.size≤k):Ext a c:=Below.grown h hg h.size hr
def at_ (l:List Int) (i:Nat):Int:=l.getD i 0
theorem eu {l:List Int}{i:Nat} (h:i<l.length):at_ l i=l[i]:=by simp[at_,h]
theorem kY {l:List Int}{i:Nat} (h:i<l.length):at_ l i∈l:=by rw[eu h];exact List.getElem_mem h
theorem a8 {l:List Int}{i:Nat} (h:l.length≤i):at_ l i=0:=by simp[at_,List.getElem?_eq_none h]
def Ty (w:World) (b:Nat) (T:TypeId):Prop:=∃c fr,w.heap[b]? = some (.cells c T fr)
theorem Ty.lt {w:World}{b:Nat}{T:TypeId} (h:Ty w b T):b<w.heap.size:=by
 obtain⟨c,fr,h⟩:=h;rcases Nat.lt_or_ge b w.heap.size with hlt | hge
 ·exact hlt
 ·rw[Array.getElem?_eq_none hge] at h;cases h
theorem Ty.keep {w w':World}{b:Nat}{T:TypeId} (h:Ty w b T) (e:Ext w w'):Ty w' b T:=by
 have hl:=h.lt;obtain⟨c,fr,h⟩:=h;exact⟨c,fr,(e.block b hl).trans h⟩
theorem Ty.al {w:World}{b:Nat}{T:TypeId} (h:Ty w b T) (o:Obj):Ty (w.alloc o) b T:=h.keep ((Ext.rf w).al o)
theorem Ty.new (w:World) (c:Array Value) (T:TypeId):Ty (w.alloc (.cells c T)) w.heap.size T:=⟨c,_,heap_alloc_new w _⟩
theorem Ty.st {w:World}{b:Nat}{T:TypeId} (h:Ty w b T) (p:Addr) (u:Value):Ty (w.setCell p u) b T:=by
 obtain⟨c,fr,h⟩:=h;by_cases e:b=p.block
 ·subst e;refine⟨if p.spot.isSome then c else c.setIfInBounds p.off u,fr,?_⟩;simp[World.setCell,Array.getElem?_modify,h]
 ·exact⟨c,fr,(Below.heap_setCell w p u b e).trans h⟩
theorem Ty.ne_ {w:World}{b b':Nat}{T T':TypeId} (h:Ty w b T) (h':Ty w b' T') (hne:T≠T'):b≠b':=by
 rintro rfl;obtain⟨c,fr,h⟩:=h;obtain⟨c',fr',h'⟩:=h';rw[h] at h';injection h' with h'
 injection h' with _ ht
 exact hne ht
theorem Ty.new' {w:World}{c:Array Value}{T:TypeId}{n:Nat} (hn:n=w.heap.size):Ty (w.alloc (.cells c T)) n T:=by subst hn;exact Ty.new w c T
def aZ (T:TypeId) (w w':World):Prop:=∀b,Ty w b T→w'.heap[b]? = w.heap[b]?
theorem aZ.rf (T:TypeId) (w:World):aZ T w w:=fun _ _=>rfl
theorem aZ.of {T:TypeId}{w w':World} (e:Ext w w'):aZ T w w':=fun b h=>e.block b h.lt
theorem aZ.ty {T:TypeId}{w w':World}{b:Nat} (h:aZ T w w') (t:Ty w b T):Ty w' b T:=by
 have hb:=h b t;obtain⟨c,fr,hc⟩:=t;exact⟨c,fr,hb.trans hc⟩
theorem aZ.tr {T:TypeId}{a b c:World} (h:aZ T a b) (k:aZ T b c):aZ T a c:=fun x hx=>(k x (h.ty hx)).trans (h x hx)
theorem aZ.st {T T':TypeId}{a b:World} (h:aZ T a b){p:Addr} (hp:Ty b p.block T') (hne:T≠T') (u:Value):aZ T a (b.setCell p u):=
 h.tr fun x hx=>Below.heap_setCell b p u x (hx.ne_ hp hne)
theorem aZ.st2 {T T':TypeId}{a w:World}{b:Nat} (h:aZ T a w) (t:Ty w b T') (hne:T≠T') (u v:Value):aZ T a ((w.setCell ⟨b,0,none⟩ u).setCell ⟨b,1,none⟩ v):=
 (h.st (p:=⟨b,0,none⟩) t hne u).st (p:=⟨b,1,none⟩) (t.st _ _) hne v
theorem Ext.st2 {a w:World}{b:Nat} (h:Ext a w) (hb:a.heap.size≤b) (u v:Value):Ext a ((w.setCell ⟨b,0,none⟩ u).setCell ⟨b,1,none⟩ v):=
 (h.st (p:=⟨b,0,none⟩) hb u).st (p:=⟨b,1,none⟩) hb v
def Sl (w:World) (T:TypeId) (s:SV) (n:Nat) (xs:List Value):Prop:=
 s.len=n∧n≤s.cap∧s.cap≤9223372036854775807∧(0<xs.length→∃b off,s.a=some ⟨b,off,none⟩∧Ty w b T∧∀j,j<xs.length→w.cell? ⟨b,off+j,none⟩=some (xs.getD j undef))
theorem Sl.kept {w w':World}{T:TypeId}{s:SV}{n:Nat}{xs:List Value} (h:Sl w T s n xs) (k:aZ T w w'):Sl w' T s n xs:=by
 obtain⟨h1,h2,h3,h4⟩:=h;refine⟨h1,h2,h3,fun hx => ?_⟩;obtain⟨b,off,ha,hb,hc⟩:=h4 hx;exact⟨b,off,ha,k.ty hb,fun j hj=>(World.cell?_of_block (w:=w) (w':=w') (a:=⟨b,off+j,none⟩) (k b hb)).trans (hc j hj)⟩
theorem Sl.keep {w w':World}{T:TypeId}{s:SV}{n:Nat}{xs:List Value} (h:Sl w T s n xs) (k:Ext w w'):Sl w' T s n xs:=h.kept (.of k)
def ET:IntKind→TypeId
 |.u8=>5
 |.u32=>100
 |.i64=>3
 |.u64=>96
 |.i32=>21
 |_=>0
def Fit (k:IntKind) (x:Int):Prop:=match k with
 |.u8=>0≤x∧x≤255
 |.u32=>0≤x∧x≤4294967295
 |.u64=>0≤x∧x≤18446744073709551615
 |.i64 => -9223372036854775808≤x∧x≤9223372036854775807
 |.i32 => -2147483648≤x∧x≤2147483647
 |_=>True
def IsL (w:World) (s:SV) (k:IntKind) (l:List Int):Prop:=
 Sl w (ET k) s l.length (l.map (Value.int k))∧∀x∈l,Fit k x
theorem IsL.keep {w w':World}{s:SV}{k:IntKind}{l:List Int} (h:IsL w s k l) (e:Ext w w'):IsL w' s k l:=⟨h.1.keep e,h.2⟩
theorem IsL.kept {w w':World}{s:SV}{k:IntKind}{l:List Int} (h:IsL w s k l) (e:aZ (ET k) w w'):IsL w' s k l:=⟨h.1.kept e,h.2⟩
theorem IsL.fit {w:World}{s:SV}{k:IntKind}{l:List Int} (h:IsL w s k l){i:Nat} (hi:i<l.length):Fit k (at_ l i):=h.2 _ (kY hi)
theorem IsL.open_ {w:World}{s:SV}{k:IntKind}{l:List Int} (h:IsL w s k l) :
  ∃ao cap,s=⟨ao,l.length,cap⟩∧l.length≤cap∧cap≤9223372036854775807 ∧
   (0<l.length→∃b off,ao=some ⟨b,off,none⟩∧Ty w b (ET k)∧∀j,j<l.length→w.cell? ⟨b,off+j,none⟩=some (.int k (at_ l j))):=by
 obtain⟨⟨h1,h2,h3,h4⟩,-⟩:=h;obtain⟨ao,n,cap⟩:=s;simp only at h1 h2 h3 h4;subst h1;refine⟨ao,cap,rfl,h2,h3,fun hl => ?_⟩;obtain⟨b,off,ha,hb,hc⟩:=h4 (by simpa using hl);refine⟨b,off,ha,hb,fun j hj => ?_⟩;rw[hc j (by simpa using hj)];simp[at_,hj]
theorem IsL.mk_ {w:World}{ao:Option Addr}{cap:Nat}{k:IntKind}{l:List Int} (h2:l.length≤cap) (h3:cap≤9223372036854775807)
  (h4:0<l.length→∃b off,ao=some ⟨b,off,none⟩∧Ty w b (ET k)∧∀j,j<l.length→w.cell? ⟨b,off+j,none⟩=some (.int k (at_ l j))) (hf:∀x∈l,Fit k x) :
  IsL w ⟨ao,l.length,cap⟩ k l:=by
 refine⟨⟨rfl,h2,h3,fun hl => ?_⟩,hf⟩;obtain⟨b,off,ha,hb,hc⟩:=h4 (by simpa using hl);refine⟨b,off,ha,hb,fun j hj => ?_⟩;rw[hc j (by simpa using hj)];have hj':j<l.length:=by simpa using hj
 simp[at_,hj']
theorem oK (w:World) (k:IntKind):IsL w ⟨none,0,0⟩ k []:=⟨⟨rfl,Nat.le_refl _,by simp,by simp⟩,by simp⟩
theorem IsL.take {w:World}{ao:Option Addr}{cap cap' n:Nat}{k:IntKind}{l:List Int} (h:IsL w ⟨ao,l.length,cap⟩ k l) (hn:n≤l.length) (hc:n≤cap') (hc':cap'≤9223372036854775807) :
  IsL w ⟨ao,n,cap'⟩ k (l.take n):=by
 have hl:(l.take n).length=n:=by simp;omega
 obtain⟨ao',c',he,h2,h3,h4⟩:=h.open_;simp only[SV.mk.injEq] at he;obtain⟨rfl,-,rfl⟩:=he;have:=IsL.mk_ (w:=w) (ao:=ao) (cap:=cap') (k:=k) (l:=l.take n) (by omega) hc' (fun hp=>by
  obtain⟨b,off,ha,hb,hcell⟩:=h4 (by omega);refine⟨b,off,ha,hb,fun j hj => ?_⟩;rw[hcell j (by omega)];have:j<n:=by omega
  simp[at_,this]) (fun x hx=>h.2 x (List.mem_of_mem_take hx))
 rw[hl] at this;exact this
theorem kZ {k:IntKind}{a b:Int} (h:a=b):Ending.returned (.int k a) = .returned (.int k b):=by rw[h]
theorem oL {a b:Bool} (h:a=b):Ending.returned (.bool a) = .returned (.bool b):=by rw[h]
theorem gB {a b:ByteArray} (h:a=b):Ending.returned (.string a) = .returned (.string b):=by rw[h]
def Tp:=And.intro @List.getElem_toArray.{0} (And.intro @List.getElem_cons_zero.{0} (And.intro @List.getElem_cons_succ.{0} (And.intro @Act.put.eq_1 (And.intro @List.setIfInBounds_toArray.{0} (And.intro @List.set_cons_zero.{0} (@List.set_cons_succ.{0}))))))
end Go.Proofs.Ytdchbabgopglcaa
namespace Go.Proofs.Ytdchbabgopglcaa.M
open Go.RowKit
theorem aN{a b:Prop}(h:b)(g:a:=by first|omega|(simp;omega)):a∧b:=⟨g,h⟩
theorem an{a b:Prop}(g:a)(h:b):a∧b:=⟨g,h⟩
abbrev Ext (w w':World):Prop:=Below w.heap.size w w'
theorem Ext.rf (w:World):Ext w w:=Below.refl _ _
inductive D where
 |bool (b:Bool)
 |int (k:IntKind) (n:Int)
 |str (s:List UInt8)
 |agg (l:List D)
 |tup (l:List D)
 |list (T:TypeId) (sz:Nat) (l:List D)
 |nilp
 |nils (T:TypeId) (sz:Nat)
 |ref (d:D)
 |fn (f:Fn) (first captured:List D)
instance:Inhabited D:=⟨.int .i64 0⟩
def D.cells:D→List D
 |.agg l=>l
 |d=>[d]
def D.one:D→Bool
 |.agg _=>false
 |.tup _=>false
 |_=>true
def D.isAgg:D→Bool
 |.agg _=>true
 |_=>false
def Hp (w:World) (b:Nat) (c:Array Value) (T:TypeId) (fr:Nat×Nat):Prop:=∃T',w.heap[b]? = some (.cells c T' fr)∧(T'=T∨1000000≤T)
theorem Hp.of {w:World}{b:Nat}{c:Array Value}{T:TypeId}{fr:Nat×Nat} (h:w.heap[b]? = some (.cells c T fr)):Hp w b c T fr:=⟨T,h,.inl rfl⟩
theorem Hp.mono {w w':World}{b:Nat}{c:Array Value}{T:TypeId}{fr:Nat×Nat} (h:Hp w b c T fr) (hs:w'.heap[b]? = w.heap[b]?):Hp w' b c T fr:=h.elim fun T' h=>⟨T',hs.trans h.1,h.2⟩
inductive V (w:World) (N:Nat→Prop):Value→D→Prop where
 |bool (b:Bool):V w N (.bool b) (.bool b)
 |int (k:IntKind) (n:Int):V w N (.int k n) (.int k n)
 |str (s:ByteArray):V w N (.string s) (.str s.data.toList)
 |agg (cs:Array Value) (l:List D):cs.size=l.length→(∀d∈l,d.one=true)→(∀i d,l[i]? = some d→V w N (cs.getD i undef) d)→V w N (.agg cs) (.agg l)
 |tup (cs:Array Value) (l:List D):cs.size=l.length→(∀i d,l[i]? = some d→V w N (cs.getD i undef) d)→V w N (.tuple cs) (.tup l)
 |empty (a:Option Addr) (cap:Nat) (T:TypeId) (sz:Nat):cap≤9223372036854775807→V w N (.slice a 0 cap) (.list T sz [])
 |list (b o cap:Nat) (T:TypeId) (sz:Nat) (l:List D) (c:Array Value) (fr:Nat×Nat):Hp w b c T fr→N b→l.length≤cap→cap≤9223372036854775807 →
   (∀e∈l,e.cells.length=sz∧∀q∈e.cells,q.one=true)→(∀i e j d,l[i]? = some e→e.cells[j]? = some d→o+(i*sz+j)<c.size) →
   (∀i e j d,l[i]? = some e→e.cells[j]? = some d→V w N (c.getD (o+(i*sz+j)) undef) d)→V w N (.slice (some ⟨b,o,none⟩) l.length cap) (.list T sz l)
 |nilp:V w N (.pointer none) .nilp
 |nils (T:TypeId) (sz:Nat):V w N (.slice none 0 0) (.nils T sz)
 |ref (b o:Nat) (T:TypeId) (e:D) (c:Array Value) (fr:Nat×Nat):w.heap[b]? = some (.cells c T fr)→N b→(∀q∈e.cells,q.one=true)→(∀j d,e.cells[j]? = some d→o+j<c.size)→(∀j d,e.cells[j]? = some d→V w N (c.getD (o+j) undef) d) →
   V w N (.pointer (some ⟨b,o,none⟩)) (.ref e)
 |fn (f:Fn) (x y:Array Value) (l m:List D):x.size=l.length→y.size=m.length→(∀i d,l[i]? = some d→V w N (x.getD i undef) d)→(∀i d,m[i]? = some d→V w N (y.getD i undef) d)→V w N (.func f x y) (.fn f l m)
theorem V.mono {w w':World}{N N':Nat→Prop}{v:Value}{d:D} (h:V w N v d) (hs:∀b,N b→w'.heap[b]? = w.heap[b]?) (hn:∀b,N b→N' b):V w' N' v d:=by
 induction h with
 |bool b=>exact .bool b
 |int k n=>exact .int k n
 |str s=>exact .str s
 |agg cs l h1 h2 _ ih=>exact .agg cs l h1 h2 ih
 |tup cs l h1 _ ih=>exact .tup cs l h1 ih
 |empty a cap T sz h=>exact .empty a cap T sz h
 |list b o cap T sz l c fr h1 h2 h3 h4 h5 h6 _ ih=>exact .list b o cap T sz l c fr (h1.mono (hs b h2)) (hn b h2) h3 h4 h5 h6 ih
 |nilp=>exact .nilp
 |nils T sz=>exact .nils T sz
 |ref b o T e c fr h1 h2 h3 h4 _ ih=>exact .ref b o T e c fr ((hs b h2).trans h1) (hn b h2) h3 h4 ih
 |fn f x y l m h1 h2 _ _ ih1 ih2=>exact .fn f x y l m h1 h2 ih1 ih2
theorem V.one {w:World}{N:Nat→Prop}{v:Value}{d:D} (h:V w N v d) (ho:d.one=true):v.oneCell'=true:=by
 cases h<;>first | rfl | simp[D.one] at ho
theorem V.cells {w:World}{N:Nat→Prop}{v:Value}{d:D} (h:V w N v d) (ht:∀l,d≠.tup l):v.cells.size=d.cells.length∧∀i e,d.cells[i]? = some e→e.one=true∧V w N (v.cells.getD i undef) e:=by
 cases h with
 |agg cs l h1 h2 h3=>exact⟨h1,fun i e he=>⟨h2 e (List.mem_of_getElem? he),h3 i e he⟩⟩
 |tup cs l=>exact absurd rfl (ht l)
 |_ =>
  refine⟨rfl,fun i e he => ?_⟩
  match i,he with
  |0,he =>
   simp only[D.cells,List.getElem?_cons_zero,Option.some.injEq] at he;subst he;refine⟨rfl,?_⟩;simp only[Value.cells,Array.getD_eq_getD_getElem?,List.getElem?_toArray,List.getElem?_cons_zero,Option.getD_some];first
    |exact .bool _
    |exact .int _ _
    |exact .str _
    |exact .empty _ _ _ _ ‹_›
    |exact .list _ _ _ _ _ _ _ _ ‹_› ‹_› ‹_› ‹_› ‹_› ‹_› ‹_›
    |exact .nilp
    |exact .nils _ _
    |exact .ref _ _ _ _ _ _ ‹_› ‹_› ‹_› ‹_› ‹_›
    |exact .fn _ _ _ _ _ ‹_› ‹_› ‹_› ‹_›
  |i+1,he=>simp[D.cells] at he
def cf (l:List Rat) (i:Nat):Rat:=l.getD i 0
def Nf (l:List Rat):Prop:=l=[]∨cf l (l.length-1)≠0
def evQ (l:List Rat) (x:Rat):Rat:=match l with
 |[]=>0
 |a::l=>a+x*evQ l x
structure DivQ (p d q r:List Rat):Prop where
 nq:Nf q
 nr:Nf r
 eq:∀x,evQ p x=evQ q x*evQ d x+evQ r x
 lt:r.length<d.length
def Db (D H:Nat) (x:Rat):Prop:=0<D∧∃k:Int,x*(D:Rat)=(k:Rat)∧k.natAbs≤H
def Bq (n:Nat) (x:Rat):Prop:=x.num.natAbs<2^n∧x.den<2^n
def Lb (D H:Nat) (l:List Rat):Prop:=∀i,Db D H (cf l i)
inductive AV where
 |und
 |p (d:D)
 |agg (l:List AV)
 |tup (l:List AV)
 |nils (T:TypeId) (sz:Nat)
 |slice (id off len:Nat)
 |ptr (id i off:Nat)
 |arr (id off len:Nat)
 |cell
 deriving Inhabited
inductive Cont where
 |row (l:List D)
 |box (v:AV)
 |junk
structure AObj where
 T:TypeId
 sz:Nat
 cont:Cont
 frz:Bool
abbrev Mem:=Nat→Option AObj
def upd {α:Type} (f:Nat→α) (i:Nat) (v:α):Nat→α:=fun j=>if j=i then v else f j
theorem aD {α:Type} (f:Nat→α) (i:Nat) (v:α):upd f i v i=v:=by simp[upd]
theorem aA {α:Type} (f:Nat→α){i j:Nat} (v:α) (h:j≠i):upd f i v j=f j:=by simp[upd,h]
theorem jQ {α:Type} (f:Nat→α){i j:Nat} (v u:α) (h:i≠j):upd (upd f i v) j u=upd (upd f j u) i v:=by
 funext k
 unfold upd;by_cases h1:k=i<;>by_cases h2:k=j<;>simp_all
structure St where
 r:Nat→AV
 m:Mem
structure Loc where
 b:Nat
 o:Nat
 n:Nat
 sz:Nat
 nil:Bool
abbrev aU:=Nat→Option Loc
def AV.cells:AV→List AV
 |.p d=>d.cells.map .p
 |.agg l=>l
 |v=>[v]
def AV.one:AV→Bool
 |.p d=>d.one
 |.nils .. | .slice .. | .ptr .. | .arr .. | .cell=>true
 |_=>false
def AV.isAgg:AV→Option Bool
 |.p d=>some d.isAgg
 |.agg _=>some true
 |.und=>none
 |_=>some false
inductive RV (w:World) (N:Nat→Prop) (loc:aU):Value→AV→Prop where
 |und (v:Value):RV w N loc v .und
 |p (v:Value) (d:D):V w N v d→RV w N loc v (.p d)
 |agg (cs:Array Value) (l:List AV):cs.size=l.length→(∀d∈l,d.one=true)→(∀i d,l[i]? = some d→RV w N loc (cs.getD i undef) d)→RV w N loc (.agg cs) (.agg l)
 |tup (cs:Array Value) (l:List AV):cs.size=l.length→(∀i d,l[i]? = some d→RV w N loc (cs.getD i undef) d)→RV w N loc (.tuple cs) (.tup l)
 |nils (T:TypeId) (sz:Nat):RV w N loc (.slice none 0 0) (.nils T sz)
 |slice (L:Loc) (id off len cap:Nat):loc id=some L→L.nil=false→len≤cap→cap≤9223372036854775807→L.o+(off*L.sz+cap*L.sz)≤L.n →
   RV w N loc (.slice (some ⟨L.b,L.o+off*L.sz,none⟩) len cap) (.slice id off len)
 |sliceEmp (L:Loc) (id off:Nat) (p:Option Addr):loc id=some L→RV w N loc (.slice p 0 0) (.slice id off 0)
 |arr (L:Loc) (id off len cap:Nat):loc id=some L→L.nil=false→len≤cap→cap≤9223372036854775807→L.o+(off+cap)≤L.n→RV w N loc (.slice (some ⟨L.b,L.o+off,none⟩) len cap) (.arr id off len)
 |arrEmp (L:Loc) (id off:Nat) (p:Option Addr):loc id=some L→RV w N loc (.slice p 0 0) (.arr id off 0)
 |ptr (L:Loc) (id i off:Nat):loc id=some L→L.nil=false→RV w N loc (.pointer (some ⟨L.b,L.o+(i*L.sz+off),none⟩)) (.ptr id i off)
 |cell (v:Value):v.oneCell'=true→RV w N loc v .cell
theorem RV.mono {w w':World}{N N':Nat→Prop}{loc loc':aU}{v:Value}{d:AV} (h:RV w N loc v d) (hs:∀b,N b→w'.heap[b]? = w.heap[b]?) (hn:∀b,N b→N' b)
  (hl:∀id L,loc id=some L→loc' id=some L):RV w' N' loc' v d:=by
 induction h with
 |und v=>exact .und v
 |p v d h=>exact .p v d (h.mono hs hn)
 |agg cs l h1 h2 _ ih=>exact .agg cs l h1 h2 ih
 |tup cs l h1 _ ih=>exact .tup cs l h1 ih
 |nils T sz=>exact .nils T sz
 |slice L id off len cap h1 h2 h3 h4 h5=>exact .slice L id off len cap (hl _ _ h1) h2 h3 h4 h5
 |sliceEmp L id off p h1=>exact .sliceEmp L id off p (hl _ _ h1)
 |arr L id off len cap h1 h2 h3 h4 h5=>exact .arr L id off len cap (hl _ _ h1) h2 h3 h4 h5
 |arrEmp L id off p h1=>exact .arrEmp L id off p (hl _ _ h1)
 |ptr L id i off h1 h2=>exact .ptr L id i off (hl _ _ h1) h2
 |cell v h=>exact .cell v h
theorem RV.one {w:World}{N:Nat→Prop}{loc:aU}{v:Value}{d:AV} (h:RV w N loc v d) (ho:d.one=true):v.oneCell'=true:=by
 cases h with
 |p v d h=>exact h.one ho
 |cell v h=>exact h
 |_=>first | rfl | simp[AV.one] at ho
theorem RV.cells {w:World}{N:Nat→Prop}{loc:aU}{v:Value}{d:AV} (h:RV w N loc v d) (ho:∀e∈d.cells,e.one=true) :
  v.cells.size=d.cells.length∧∀i e,d.cells[i]? = some e→RV w N loc (v.cells.getD i undef) e:=by
 cases h with
 |und=>simp[AV.cells,AV.one] at ho
 |tup=>simp[AV.cells,AV.one] at ho
 |p v d h =>
  have ht:∀l,d≠.tup l:=by rintro l rfl;simp[AV.cells,D.cells,AV.one,D.one] at ho
  obtain⟨h1,h2⟩:=h.cells ht;refine⟨by simpa[AV.cells] using h1,fun i e he => ?_⟩;simp only[AV.cells,List.getElem?_map,Option.map_eq_some_iff] at he;obtain⟨x,hx,rfl⟩:=he;exact .p _ _ (h2 i x hx).2
 |agg cs l h1 h2 h3=>exact⟨h1,h3⟩
 |cell v h =>
  cases v<;>first
   |(simp[Value.oneCell'] at h;done)
   |(
     refine⟨rfl,fun i e he => ?_⟩
     match i,he with
     |0,he =>
      simp only[AV.cells,List.getElem?_cons_zero,Option.some.injEq] at he;subst he;exact .cell _ rfl
     |i+1,he=>simp[AV.cells] at he)
 |_ =>
  refine⟨rfl,fun i e he => ?_⟩
  match i,he with
  |0,he =>
   simp only[AV.cells,List.getElem?_cons_zero,Option.some.injEq] at he;subst he;simp only[Value.cells,Array.getD_eq_getD_getElem?,List.getElem?_toArray,List.getElem?_cons_zero,Option.getD_some];first
    |exact .nils _ _
    |exact .slice _ _ _ _ _ ‹_› ‹_› ‹_› ‹_› ‹_›
    |exact .sliceEmp _ _ _ _ ‹_›
    |exact .arr _ _ _ _ _ ‹_› ‹_› ‹_› ‹_› ‹_›
    |exact .arrEmp _ _ _ _ ‹_›
    |exact .ptr _ _ _ _ ‹_› ‹_›
  |i+1,he=>simp[AV.cells] at he
def aQ:Nat:=999999
structure Bs where
 own:Nat→Prop
 L0:Option Loc
def Bs.lent (B:Bs) (b:Nat):Prop:=∃L,B.L0=some L∧L.b=b
structure ExtL (B:Bs) (w w':World):Prop where
 os:w'.os=w.os
 tape:w'.tape=w.tape
 output:w'.output=w.output
 size:w.heap.size≤w'.heap.size
 block:∀k,k<w.heap.size→¬ B.lent k→w'.heap[k]? = w.heap[k]?
 lentB:∀(k:Nat) (c:Array Value) (T:TypeId) (fr:Nat×Nat),w.heap[k]? = some (.cells c T fr)→∃c':Array Value,c'.size=c.size∧w'.heap[k]? = some (.cells c' T fr)
 lentT:∀(k:Nat) (c:Array Value) (T:TypeId) (fr:Nat×Nat),k<w.heap.size→w'.heap[k]? = some (.cells c T fr)→∃c':Array Value,c'.size=c.size∧w.heap[k]? = some (.cells c' T fr)
theorem lN {w:World}{k:Nat}{x:Obj} (h:w.heap[k]? = some x):k<w.heap.size:=by
 rcases Nat.lt_or_ge k w.heap.size with hlt | hge
 ·exact hlt
 ·rw[Array.getElem?_eq_none hge] at h;cases h
theorem ExtL.rf (B:Bs) (w:World):ExtL B w w:=⟨rfl,rfl,rfl,Nat.le_refl _,fun _ _ _=>rfl,fun _ c _ _ h=>⟨c,rfl,h⟩,fun _ c _ _ _ h=>⟨c,rfl,h⟩⟩
theorem ExtL.tr {B:Bs}{a b c:World} (h:ExtL B a b) (k:Ext b c):ExtL B a c:=
 ⟨k.os.trans h.os,k.tape.trans h.tape,k.output.trans h.output,Nat.le_trans h.size k.size,fun i hi hl=>(k.block i (Nat.lt_of_lt_of_le hi h.size)).trans (h.block i hi hl),
  fun i c0 T fr hc=>by
   obtain⟨c',h1,h2⟩:=h.lentB i c0 T fr hc;exact⟨c',h1,(k.block i (lN h2)).trans h2⟩,
  fun i c0 T fr hi hc=>h.lentT i c0 T fr hi (by rw[←k.block i (Nat.lt_of_lt_of_le hi h.size)];exact hc)⟩
theorem ExtL.ext {B:Bs}{a b:World} (h:ExtL B a b) (h0:B.L0=none):Ext a b:=
 ⟨h.os,h.tape,h.output,h.size,fun k hk=>h.block k hk (by rintro⟨L,hL,_⟩;rw[h0] at hL;cases hL)⟩
def cG (M:Mem) (loc:aU) (b:Nat):Prop:=∃id o L,M id=some o∧o.frz=false∧loc id=some L∧L.nil=false∧L.b=b
def NB (base:Bs) (M:Mem) (loc:aU) (w:World) (b:Nat):Prop:=b<w.heap.size∧¬ base.own b∧¬ cG M loc b
def bf (w:World) (N:Nat→Prop) (loc:aU) (c:Array Value) (o sz:Nat):Cont→Prop
 |.row l=>o+l.length*sz≤c.size∧(∀e∈l,e.cells.length=sz)∧(∀i e j d,l[i]? = some e→e.cells[j]? = some d→d.one=true∧V w N (c.getD (o+(i*sz+j)) undef) d)
 |.junk=>o+sz≤c.size
 |.box v=>o+sz≤c.size∧v.cells.length=sz∧(∀e∈v.cells,e.one=true)∧(∀j d,v.cells[j]? = some d→RV w N loc (c.getD (o+j) undef) d)
structure ObjOk (w0:World) (base:Bs) (M:Mem) (loc:aU) (w:World) (o:AObj) (L:Loc):Prop where
 sz:L.sz=o.sz
 nil:L.nil=true→o.cont = .row []
 at_:L.nil=false→∃c fr,w.heap[L.b]? = some (.cells c o.T fr)∧c.size=L.n∧bf w (NB base M loc w) loc c L.o o.sz o.cont ∧
  (o.frz=false→(w0.heap.size≤L.b∨base.lent L.b)∧∀x,x<L.n→(decide (fr.1≤x)&&decide (x<fr.2))=false)∧(o.frz=true→NB base M loc w L.b)
def dc (base:Bs) (m:Mem) (loc:aU):Prop:=∀L,base.L0=some L→loc aQ=some L∧base.own L.b∧L.nil=false∧∃o,m aQ=some o∧o.frz=false
theorem dc.none_ {base:Bs} (h:base.L0=none) (m:Mem) (loc:aU):dc base m loc:=fun L hL=>by rw[h] at hL;cases hL
theorem dc.turn {base:Bs}{m m':Mem}{loc loc':aU} (h:dc base m loc) (hm:∀o,m aQ=some o→o.frz=false→∃o',m' aQ=some o'∧o'.frz=false) (hl:m aQ≠none→loc' aQ=loc aQ):dc base m' loc':=fun L hL=>by
 obtain⟨h1,h2,h3,o,h4,h5⟩:=h L hL;exact⟨(hl (by rw[h4];simp)).trans h1,h2,h3,hm o h4 h5⟩
theorem dc.put {base:Bs}{m:Mem}{loc:aU} (h:dc base m loc){i:Nat}{x:Option AObj} (hx:i=aQ→∃o,x=some o∧o.frz=false):dc base (upd m i x) loc:=
 h.turn (fun o h1 h2=>by
  by_cases e:aQ=i
  ·obtain⟨o',e1,e2⟩:=hx e.symm;exact⟨o',by rw[e,aD,e1],e2⟩
  ·exact⟨o,by rw[aA _ _ e];exact h1,h2⟩) (fun _=>rfl)
theorem dc.new {base:Bs}{m:Mem}{loc:aU} (h:dc base m loc){i:Nat} (hi:m i=none) (x:Option AObj) (y:Option Loc):dc base (upd m i x) (upd loc i y):=
 h.turn (fun o h1 h2=>by
  have e:aQ≠i:=by rintro rfl;rw[hi] at h1;cases h1
  exact⟨o,by rw[aA _ _ e];exact h1,h2⟩) (fun h1=>by
  have e:aQ≠i:=by rintro rfl;exact h1 hi
  exact aA _ _ e)
structure Rel (w0:World) (base:Bs) (nt:Nat) (loc:aU) (s:St) (a:Act) (w:World):Prop where
 ext:ExtL base w0 w
 defers:a.defers=[]
 size:a.tmps.size=nt
 low:∀b,base.own b→b<w0.heap.size
 dom:∀id,s.m id=none→loc id=none
 tmps:∀t,RV w (NB base s.m loc w) loc (a.tmps.getD t undef) (s.r t)
 objs:∀id o,s.m id=some o→∃L,loc id=some L∧ObjOk w0 base s.m loc w o L
 inj:∀id id' o o' L L',s.m id=some o→s.m id'=some o'→o.frz=false→loc id=some L→loc id'=some L'→L.nil=false→L'.nil=false→L.b=L'.b→id=id'
 keepL:dc base s.m loc
section
variable {w0:World}{base:Bs}{nt:Nat}{loc:aU}{s:St}{a:Act}{w:World}
theorem Rel.put (h:Rel w0 base nt loc s a w){t:Nat} (ht:t<nt){v:Value}{d:AV} (hv:RV w (NB base s.m loc w) loc v d) :
  Rel w0 base nt loc ⟨upd s.r t d,s.m⟩ (a.put (some t) v) w:=by
 refine⟨h.ext,h.defers,by simp[Act.put,h.size],h.low,h.dom,fun u => ?_,h.objs,h.inj,h.keepL⟩;by_cases hu:u=t
 ·subst hu;simp only[aD,Act.put,Array.getD_eq_getD_getElem?,Array.getElem?_setIfInBounds_self,h.size,ht,if_true,Option.getD_some];exact hv
 ·have hu':t≠u:=fun e=>hu e.symm
  simp only[aA _ _ hu,Act.put,Array.getD_eq_getD_getElem?,Array.getElem?_setIfInBounds_ne hu'];have:=h.tmps u
  rwa[Array.getD_eq_getD_getElem?] at this
theorem bf.mono {w w':World}{N N':Nat→Prop}{loc loc':aU}{c:Array Value}{o sz:Nat}{k:Cont} (h:bf w N loc c o sz k) (hs:∀b,N b→w'.heap[b]? = w.heap[b]?) (hn:∀b,N b→N' b)
  (hl:∀id L,loc id=some L→loc' id=some L):bf w' N' loc' c o sz k:=by
 cases k with
 |row l=>exact⟨h.1,h.2.1,fun i e j d h1 h2=>⟨(h.2.2 i e j d h1 h2).1,(h.2.2 i e j d h1 h2).2.mono hs hn⟩⟩
 |box v=>exact⟨h.1,h.2.1,h.2.2.1,fun j d h1=>(h.2.2.2 j d h1).mono hs hn hl⟩
 |junk=>exact h
theorem Rel.later (h:Rel w0 base nt loc s a w){w':World} (he:Ext w w'):Rel w0 base nt loc s a w':=by
 have hs:∀b,NB base s.m loc w b→w'.heap[b]? = w.heap[b]?:=fun b hb=>he.block b hb.1
 have hn:∀b,NB base s.m loc w b→NB base s.m loc w' b:=fun b hb=>⟨Nat.lt_of_lt_of_le hb.1 he.size,hb.2⟩
 refine⟨h.ext.tr he,h.defers,h.size,h.low,h.dom,fun t=>(h.tmps t).mono hs hn (fun _ _ x=>x),fun id o ho => ?_,h.inj,h.keepL⟩;obtain⟨L,hL,hok⟩:=h.objs id o ho;refine⟨L,hL,hok.sz,hok.nil,fun hnil => ?_⟩;obtain⟨c,fr,h1,h2,h3,h4,h5⟩:=hok.at_ hnil;have hlt:L.b<w.heap.size:=by
  rcases Nat.lt_or_ge L.b w.heap.size with hlt | hge
  ·exact hlt
  ·rw[Array.getElem?_eq_none hge] at h1;cases h1
 exact⟨c,fr,(he.block _ hlt).trans h1,h2,h3.mono hs hn (fun _ _ x=>x),h4,fun hf=>hn _ (h5 hf)⟩
theorem Rel.obj_lt (h:Rel w0 base nt loc s a w){id:Nat}{o:AObj}{L:Loc} (ho:s.m id=some o) (hL:loc id=some L) (hn:L.nil=false):L.b<w.heap.size:=by
 obtain⟨L',hL',hok⟩:=h.objs id o ho;rw[hL] at hL';cases hL';obtain⟨c,fr,h1,_⟩:=hok.at_ hn;rcases Nat.lt_or_ge L.b w.heap.size with hlt | hge
 ·exact hlt
 ·rw[Array.getElem?_eq_none hge] at h1;cases h1
theorem Rel.allocM (h:Rel w0 base nt loc s a w){id:Nat} (hid:s.m id=none){T:TypeId}{sz:Nat}{k:Cont}{c:Array Value}{fr:Nat×Nat}
  (hfr:∀x,x<c.size→(decide (fr.1≤x)&&decide (x<fr.2))=false) (hk:bf w (NB base s.m loc w) loc c 0 sz k) :
  ∃loc',loc' id=some ⟨w.heap.size,0,c.size,sz,false⟩∧Rel w0 base nt loc' ⟨s.r,upd s.m id (some ⟨T,sz,k,false⟩)⟩ a (w.alloc (.cells c T fr)):=by
 have hloc:=h.dom id hid;refine⟨upd loc id (some ⟨w.heap.size,0,c.size,sz,false⟩),aD _ _ _,?_⟩;have hl:∀i L,loc i=some L→upd loc id (some ⟨w.heap.size,0,c.size,sz,false⟩) i=some L:=fun i L hi=>by
  rw[aA];exact hi;rintro rfl;rw[hloc] at hi;cases hi
 have hext:Ext w (w.alloc (.cells c T fr)):=(Below.refl _ _).alloc (Nat.le_refl _) _;have hs:∀b,NB base s.m loc w b→(w.alloc (.cells c T fr)).heap[b]? = w.heap[b]?:=fun b hb=>hext.block b hb.1
 have hn:∀b,NB base s.m loc w b→NB base (upd s.m id (some ⟨T,sz,k,false⟩)) (upd loc id (some ⟨w.heap.size,0,c.size,sz,false⟩)) (w.alloc (.cells c T fr)) b:=by
  rintro b ⟨h1,h2,h3⟩;refine⟨by simp;omega,h2,?_⟩;rintro⟨i,o,L,ho,hf,hL,hnil,hb⟩;by_cases hi:i=id
  ·subst hi;rw[aD] at hL;cases hL;simp at hb;omega
  ·rw[aA _ _ hi] at ho hL;exact h3 ⟨i,o,L,ho,hf,hL,hnil,hb⟩
 refine⟨h.ext.tr hext,h.defers,h.size,h.low,?_,fun t=>(h.tmps t).mono hs hn hl,?_,?_,h.keepL.new hid _ _⟩
 ·intro i hi;dsimp only at hi;by_cases e:i=id
  ·subst e;rw[aD] at hi;cases hi
  ·rw[aA _ _ e] at hi ⊢;exact h.dom i hi
 ·intro i o ho;dsimp only at ho;by_cases e:i=id
  ·subst e;rw[aD] at ho;cases ho;refine⟨_,aD _ _ _,rfl,by simp,fun _=>⟨c,fr,heap_alloc_new w _,rfl,hk.mono hs hn hl,fun _=>⟨.inl h.ext.size,?_⟩,by simp⟩⟩;exact hfr
  ·rw[aA _ _ e] at ho;obtain⟨L,hL,hok⟩:=h.objs i o ho;refine⟨L,hl i L hL,hok.sz,hok.nil,fun hnil => ?_⟩;obtain⟨c',fr,h1,h2,h3,h4,h5⟩:=hok.at_ hnil;have hlt:=h.obj_lt ho hL hnil;exact⟨c',fr,(hext.block _ hlt).trans h1,h2,h3.mono hs hn hl,h4,fun hf=>hn _ (h5 hf)⟩
 ·intro i i' o o' L L' ho ho' hf hL hL' hnil hnil' hb;dsimp only at ho ho';by_cases e:i=id
  ·subst e;rw[aD] at hL;cases hL;by_cases e':i'=i
   ·exact e'.symm
   ·rw[aA _ _ e'] at ho' hL';have:=h.obj_lt ho' hL' hnil';simp at hb;omega
  ·rw[aA _ _ e] at ho hL;by_cases e':i'=id
   ·subst e';rw[aD] at hL';cases hL';have:=h.obj_lt ho hL hnil;simp at hb;omega
   ·rw[aA _ _ e'] at ho' hL';exact h.inj i i' o o' L L' ho ho' hf hL hL' hnil hnil' hb
theorem Rel.alloc (h:Rel w0 base nt loc s a w){id:Nat} (hid:s.m id=none){T:TypeId}{sz:Nat}{k:Cont}{c:Array Value}
  (hk:bf w (NB base s.m loc w) loc c 0 sz k) :
  ∃loc',loc' id=some ⟨w.heap.size,0,c.size,sz,false⟩∧Rel w0 base nt loc' ⟨s.r,upd s.m id (some ⟨T,sz,k,false⟩)⟩ a (w.alloc (.cells c T)):=
 h.allocM hid (fr:=(0,0)) (fun x _=>by simp) hk
end
end Go.Proofs.Ytdchbabgopglcaa.M
namespace Go.Proofs.Ytdchbabgopglcaa
def valL:List Int→Int
 |[]=>0
 |x::t=>x+4294967296*valL t
def Dig (l:List Int):Prop:=∀x∈l,0≤x∧x≤4294967295
def Norm (l:List Int):Prop:=l=[]∨at_ l (l.length-1)≠0
def sg (n:Bool) (z:Int):Int:=if n then -z else z
def cmpZ (x y:Int):Int:=if x<y then -1 else if x=y then 0 else 1
def bR (x:Int):Int:=if x<0 then -1 else if x=0 then 0 else 1
theorem eh (x:Int) (t:List Int):at_ (x::t) 0=x:=rfl
theorem bO (x:Int) (t:List Int) (i:Nat):at_ (x::t) (i+1)=at_ t i:=by simp[at_]
theorem gS {a b:List Int} (hl:a.length=b.length) (h:∀j,at_ a j=at_ b j):a=b:=by
 apply List.ext_getElem hl;intro i h1 h2;have:=h i
 rwa[eu h1,eu h2] at this
theorem Dig.at_ {l:List Int} (h:Dig l) (i:Nat):0≤at_ l i∧at_ l i≤4294967295:=by
 by_cases hi:i<l.length
 ·exact h _ (kY hi)
 ·rw[a8 (by omega)];omega
theorem Dig.tail {x:Int}{t:List Int} (h:Dig (x::t)):Dig t:=fun y hy=>h y (List.mem_cons_of_mem _ hy)
theorem valL_nonneg {l:List Int} (h:Dig l):0≤valL l:=by
 induction l with
 |nil=>simp[valL]
 |cons x t ih=>have:=ih h.tail;have:=h x (List.mem_cons_self ..);simp only[valL];omega
theorem valL_zero {l:List Int} (h:∀j,at_ l j=0):valL l=0:=by
 induction l with
 |nil=>rfl
 |cons x t ih =>
  have h0:=h 0;have ht:∀j,at_ t j=0:=fun j=>by have:=h (j+1);rwa[bO] at this
  rw[eh] at h0;simp[valL,h0,ih ht]
theorem valL_take {l:List Int}{k:Nat} (h:∀j,k≤j→at_ l j=0):valL (l.take k)=valL l:=by
 induction l generalizing k with
 |nil=>simp
 |cons x t ih =>
  match k with
  |0=>rw[valL_zero (l:=x::t) (fun j=>h j (by omega))];rfl
  |k+1 =>
   simp only[List.take_succ_cons,valL];rw[ih (fun j hj=>by have:=h (j+1) (by omega);rwa[bO] at this)]
theorem valL_pos {l:List Int} (hd:Dig l){i:Nat} (hi:at_ l i≠0):0<valL l:=by
 induction l generalizing i with
 |nil=>simp[at_] at hi
 |cons x t ih =>
  have hx:=hd x (List.mem_cons_self ..);have ht:=valL_nonneg hd.tail;simp only[valL]
  match i with
  |0=>rw[eh] at hi;omega
  |i+1=>rw[bO] at hi;have:=ih hd.tail hi;omega
theorem valL_pos' {l:List Int} (hd:Dig l) (hn:Norm l) (hne:l≠[]):0<valL l:=by
 rcases hn with h | h
 ·exact absurd h hne
 ·exact valL_pos hd h
theorem valL_eq_zero {l:List Int} (hd:Dig l) (hn:Norm l):valL l=0↔l=[]:=by
 constructor
 ·intro h;by_cases hne:l=[]
  ·exact hne
  ·have:=valL_pos' hd hn hne;omega
 ·rintro rfl;rfl
theorem valL_take_succ (l:List Int) (i:Nat):valL (l.take (i+1))=valL (l.take i)+at_ l i*4294967296^i:=by
 induction l generalizing i with
 |nil=>simp[valL,at_]
 |cons x t ih =>
  match i with
  |0=>simp[valL,at_]
  |i+1 =>
   simp only[List.take_succ_cons,valL,bO];rw[ih i,Int.pow_succ];grind
theorem valL_lt {l:List Int} (hd:Dig l):valL l<4294967296^l.length:=by
 induction l with
 |nil=>simp[valL]
 |cons x t ih =>
  have h1:=ih hd.tail;have hx:=hd x (List.mem_cons_self ..);simp only[valL,List.length_cons,Int.pow_succ];generalize (4294967296:Int)^t.length=p at *;omega
theorem pow_pos' (i:Nat):(0:Int)<4294967296^i:=Int.pow_pos (by omega)
theorem pow_mono' {i j:Nat} (h:i≤j):(4294967296:Int)^i≤4294967296^j:=by
 induction j with
 |zero =>
      obtain rfl:i=0:=by omega
      exact Int.le_refl _
 |succ j ih =>
  by_cases e:i=j+1
  ·subst e;exact Int.le_refl _
  ·have:=ih (by omega);have hp:=pow_pos' j;rw[Int.pow_succ];omega
theorem valL_ge {l:List Int} (hd:Dig l){i:Nat} (hi:at_ l i≠0):4294967296^i≤valL l:=by
 induction l generalizing i with
 |nil=>simp[at_] at hi
 |cons x t ih =>
  have hx:=hd x (List.mem_cons_self ..);have ht:=valL_nonneg hd.tail;simp only[valL]
  match i with
  |0=>rw[eh] at hi;simp;omega
  |i+1 =>
   rw[bO] at hi;have:=ih hd.tail hi;rw[Int.pow_succ];generalize (4294967296:Int)^i=p at *;omega
theorem valL_lt_of_len {a b:List Int} (ha:Dig a) (hb:Dig b) (hn:Norm b) (h:a.length<b.length):valL a<valL b:=by
 rcases hn with rfl | hn
 ·simp at h
 ·have h1:=valL_lt ha;have h2:=valL_ge hb hn;have h3:=pow_mono' (i:=a.length) (j:=b.length-1) (by omega);omega
theorem valL_lt_of_at {a b:List Int} (ha:Dig a) (hb:Dig b) (hl:a.length=b.length){i:Nat} (hi:i<a.length) (heq:∀j,i<j→at_ a j=at_ b j) (hlt:at_ a i<at_ b i):valL a<valL b:=by
 induction a generalizing b i with
 |nil=>simp at hi
 |cons x s ih =>
  match b,hl with
  |y::t,hl =>
   have hx:=ha x (List.mem_cons_self ..);have hy:=hb y (List.mem_cons_self ..);simp only[List.length_cons,Nat.add_right_cancel_iff] at hl;simp only[valL]
   match i,hi,heq,hlt with
   |0,_,heq,hlt =>
    have:s=t:=gS hl (fun j=>by have:=heq (j+1) (by omega);rwa[bO,bO] at this);subst this;rw[eh,eh] at hlt;omega
   |i+1,hi,heq,hlt =>
    rw[bO,bO] at hlt;have:=ih ha.tail hb.tail hl (i:=i) (by simpa using hi) (fun j hj=>by have:=heq (j+1) (by omega);rwa[bO,bO] at this) hlt;omega
theorem ei {x y:Int} (h:x<y):cmpZ x y = -1:=by simp[cmpZ,h]
theorem fq {x y:Int} (h:y<x):cmpZ x y=1:=by unfold cmpZ;rw[if_neg (by omega),if_neg (by omega)]
theorem gT {x y:Int} (h:x=y):cmpZ x y=0:=by simp[cmpZ,h]
theorem fu {l:List Int}{i:Nat} (h:i<l.length) (v:Int):at_ (l.set i v) i=v:=by simp[at_,h]
theorem co {l:List Int}{i j:Nat} (h:i≠j) (v:Int):at_ (l.set i v) j=at_ l j:=by simp[at_,h]
theorem qW (l:List Int) (i:Nat) (v:Int):(l.set i v).take i=l.take i:=by
 rw[List.take_set_of_le (Nat.le_refl _)]
theorem valL_set {l:List Int}{i:Nat} (h:i<l.length) (v:Int):valL ((l.set i v).take (i+1))=valL (l.take i)+v*4294967296^i:=by
 rw[valL_take_succ,qW,fu h]
theorem Dig.set {l:List Int} (hd:Dig l) (i:Nat){v:Int} (hv:0≤v∧v≤4294967295):Dig (l.set i v):=by
 intro x hx;rcases List.mem_or_eq_of_mem_set hx with h | h
 ·exact hd x h
 ·subst h;exact hv
def Bt (z:Int) (n:Nat):Prop:=z.natAbs<2^n
def dH:Nat:=8796093022208
theorem gU:dH=8796093022208:=rfl
attribute [irreducible] dH
def Sm (z:Int):Prop:=Bt z dH
theorem Bt.mono {z:Int}{m n:Nat} (h:Bt z m) (hmn:m≤n):Bt z n:=Nat.lt_of_lt_of_le h (Nat.pow_le_pow_right (by omega) hmn)
theorem Bt.sm {z:Int}{n:Nat} (h:Bt z n) (hn:n≤8796093022208):Sm z:=h.mono (by rw[gU];exact hn)
theorem Bt.le {y z:Int}{n:Nat} (h:Bt z n) (hyz:y.natAbs≤z.natAbs):Bt y n:=Nat.lt_of_le_of_lt hyz h
theorem Sm.bt {z:Int} (h:Sm z):Bt z dH:=h
theorem fw (n:Nat):Bt 0 n:=by unfold Bt;simpa using Nat.pow_pos (n:=n) (show 0<2 by omega)
theorem qX:Sm 0:=fw _
theorem Bt.neg {z:Int}{n:Nat} (h:Bt z n):Bt (-z) n:=h.le (by omega)
theorem Sm.neg {z:Int} (h:Sm z):Sm (-z):=Bt.neg h
theorem Bt.add {a b:Int}{n:Nat} (ha:Bt a n) (hb:Bt b n):Bt (a+b) (n+1):=by
 unfold Bt at *;rw[Nat.pow_succ];omega
theorem Bt.sub {a b:Int}{n:Nat} (ha:Bt a n) (hb:Bt b n):Bt (a-b) (n+1):=by
 unfold Bt at *;rw[Nat.pow_succ];omega
theorem Bt.mul {a b:Int}{m n:Nat} (ha:Bt a m) (hb:Bt b n):Bt (a*b) (m+n):=by
 unfold Bt at *;rw[Int.natAbs_mul,Nat.pow_add];exact Nat.mul_lt_mul'' ha hb
theorem RG (i:Nat):(4294967296:Int)^i=((2^(32*i):Nat):Int):=by
 rw[Nat.pow_mul,Int.natCast_pow];rfl
theorem len_of_bt {l:List Int}{n:Nat} (hd:Dig l) (hn:Norm l) (h:Bt (valL l) n):32*l.length≤n+32:=by
 rcases hn with rfl | hn
 ·simp
 ·have h1:=valL_ge hd hn;have h2:=valL_nonneg hd;unfold Bt at h;rw[RG] at h1;have h3:2^(32*(l.length-1))<2^n:=by omega
  rcases Nat.lt_or_ge (32*(l.length-1)) n with h4 | h4
  ·omega
  ·have:=Nat.pow_le_pow_right (n:=2) (by omega) h4;omega
theorem fx (n:Bool) (z:Int):(sg n z).natAbs=z.natAbs:=by unfold sg;split<;>omega
theorem iW (z:Int):sg (decide (z<0)) z.natAbs=z:=by unfold sg;split<;>(rename_i h;simp at h;omega)
theorem neg_iff {n:Bool}{l:List Int} (hd:Dig l) (hn:Norm l) (h0:l=[]→n=false):sg n (valL l)<0↔n=true:=by
 by_cases hl:l=[]
 ·subst hl;rw[h0 rfl];simp[sg,valL]
 ·have:=valL_pos' hd hn hl;cases n
  ·simp[sg];omega
  ·simp[sg];omega
theorem valL_set_full {l:List Int}{i:Nat} (h:i<l.length) (v:Int):valL (l.set i v)=valL l+(v-at_ l i)*4294967296^i:=by
 induction l generalizing i with
 |nil=>simp at h
 |cons x t ih =>
  match i with
  |0=>simp[valL,at_];omega
  |i+1 =>
   simp only[List.set_cons_succ,valL,bO];rw[ih (by simpa using h),Int.pow_succ];grind
theorem mul_bound {x y:Int} (hx:0≤x∧x≤4294967295) (hy:0≤y∧y≤4294967295):0≤x*y∧x*y≤18446744065119617025:=by
 refine⟨Int.mul_nonneg hx.1 hy.1,?_⟩;have:=Int.mul_le_mul hx.2 hy.2 hy.1 (by omega);omega
end Go.Proofs.Ytdchbabgopglcaa
