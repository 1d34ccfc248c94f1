/- A small machine on plain data: what values of the program read as (D), what the walk knows of a call's own memory (AV, St), and how both stand to the model's memory (V, RV, Rel). The small machine: what is known of a call's own memory, and what a step leaves of it. The small machine: its operations, and what each makes of a state. The small machine: the model does what the small machine says, one operation at a time. The small machine: one operation at a time, part two: the lemmas of each operation. The small machine: the model's operations written in its words. The small machine: the model does what the small machine says: operations that write nothing. -/
import Derived.Test.YtlnhembcfhfpkaaRows
import Derived.WalkKit
import Derived.WalkSpells
import Derived.OrdersHeld
import Derived.Laws.IdiomCopy
section
namespace Go.Proofs.Ytlnhembcfhfpkaa.M
open Go.RowKit
abbrev Ext (w w':World):Prop:=Below w.heap.size w w'
theorem Ext.rf (w:World):Ext w w:=Below.refl _ _
theorem Ext.tr {a b c:World} (h:Ext a b) (k:Ext b c):Ext a c:=Below.trans h (k.mono h.size)
inductive D where
 | bool (b:Bool)
 | int (k:IntKind) (n:Int)
 | str (s:List UInt8)
 | agg (l:List D)
 | tup (l:List D)
 | list (T:TypeId) (sz:Nat) (l:List D)
 | nilp
 | ref (d:D)
 | fn (f:Fn) (first captured:List D)
instance:Inhabited D:=⟨.int .i64 0⟩
def D.cells:D→List D
 | .agg l=>l
 | d=>[d]
def D.one:D→Bool
 | .agg _=>false
 | .tup _=>false
 | _=>true
def D.isAgg:D→Bool
 | .agg _=>true
 | _=>false
def D.size (d:D):Nat:=d.cells.length
def Hp (w:World) (b:Nat) (c:Array Value) (T:TypeId) (fr:Nat × Nat):Prop:=∃ T',w.heap[b]? = some (.cells c T' fr)∧(T'=T∨1000000≤T)
theorem Hp.of {w:World} {b:Nat} {c:Array Value} {T:TypeId} {fr:Nat × Nat} (h:w.heap[b]? = some (.cells c T fr)):Hp w b c T fr:=⟨T,h,.inl rfl⟩
theorem Hp.mono {w w':World} {b:Nat} {c:Array Value} {T:TypeId} {fr:Nat × Nat} (h:Hp w b c T fr) (hs:w'.heap[b]? = w.heap[b]?):Hp w' b c T fr:=h.elim fun T' h=>⟨T',hs.trans h.1,h.2⟩
inductive V (w:World) (N:Nat→Prop):Value→D→Prop where
 | bool (b:Bool):V w N (.bool b) (.bool b)
 | int (k:IntKind) (n:Int):V w N (.int k n) (.int k n)
 | str (s:ByteArray):V w N (.string s) (.str s.data.toList)
 | agg (cs:Array Value) (l:List D):cs.size=l.length→(∀ d∈l,d.one=true)→(∀ i d,l[i]? = some d→V w N (cs.getD i undef) d)→V w N (.agg cs) (.agg l)
 | tup (cs:Array Value) (l:List D):cs.size=l.length→(∀ i d,l[i]? = some d→V w N (cs.getD i undef) d)→V w N (.tuple cs) (.tup l)
 | empty (a:Option Addr) (cap:Nat) (T:TypeId) (sz:Nat):cap≤9223372036854775807→V w N (.slice a 0 cap) (.list T sz [])
 | list (b o cap:Nat) (T:TypeId) (sz:Nat) (l:List D) (c:Array Value) (fr:Nat × Nat):Hp w b c T fr→N b→l.length≤cap→cap≤9223372036854775807 →
   (∀ e∈l,e.cells.length=sz∧∀ q∈e.cells,q.one=true)→(∀ i e j d,l[i]? = some e→e.cells[j]? = some d→o+(i*sz+j)<c.size) →
   (∀ i e j d,l[i]? = some e→e.cells[j]? = some d→V w N (c.getD (o+(i*sz+j)) undef) d)→V w N (.slice (some ⟨b,o,none⟩) l.length cap) (.list T sz l)
 | nilp:V w N (.pointer none) .nilp
 | ref (b o:Nat) (T:TypeId) (e:D) (c:Array Value) (fr:Nat × Nat):w.heap[b]? = some (.cells c T fr)→N b→(∀ q∈e.cells,q.one=true)→(∀ j d,e.cells[j]? = some d→o+j<c.size)→(∀ j d,e.cells[j]? = some d→V w N (c.getD (o+j) undef) d) →
   V w N (.pointer (some ⟨b,o,none⟩)) (.ref e)
 | fn (f:Fn) (x y:Array Value) (l m:List D):x.size=l.length→y.size=m.length→(∀ i d,l[i]? = some d→V w N (x.getD i undef) d)→(∀ i d,m[i]? = some d→V w N (y.getD i undef) d)→V w N (.func f x y) (.fn f l m)
theorem V.mono {w w':World} {N N':Nat→Prop} {v:Value} {d:D} (h:V w N v d) (hs:∀ b,N b→w'.heap[b]? = w.heap[b]?) (hn:∀ b,N b→N' b):V w' N' v d:=by
 induction h with
 | bool b=>exact .bool b
 | int k n=>exact .int k n
 | str s=>exact .str s
 | agg cs l h1 h2 _ ih=>exact .agg cs l h1 h2 ih
 | tup cs l h1 _ ih=>exact .tup cs l h1 ih
 | empty a cap T sz h=>exact .empty a cap T sz h
 | list b o cap T sz l c fr h1 h2 h3 h4 h5 h6 _ ih=>exact .list b o cap T sz l c fr (h1.mono (hs b h2)) (hn b h2) h3 h4 h5 h6 ih
 | nilp=>exact .nilp
 | ref b o T e c fr h1 h2 h3 h4 _ ih=>exact .ref b o T e c fr ((hs b h2).trans h1) (hn b h2) h3 h4 ih
 | fn f x y l m h1 h2 _ _ ih1 ih2=>exact .fn f x y l m h1 h2 ih1 ih2
theorem V.one {w:World} {N:Nat→Prop} {v:Value} {d:D} (h:V w N v d) (ho:d.one=true):v.oneCell'=true:=by
 cases h<;>first | rfl | simp[D.one] at ho
theorem V.cells {w:World} {N:Nat→Prop} {v:Value} {d:D} (h:V w N v d) (ht:∀ l,d≠.tup l):v.cells.size=d.cells.length∧∀ i e,d.cells[i]? = some e→e.one=true∧V w N (v.cells.getD i undef) e:=by
 cases h with
 | agg cs l h1 h2 h3=>exact⟨h1,fun i e he=>⟨h2 e (List.mem_of_getElem? he),h3 i e he⟩⟩
 | tup cs l=>exact absurd rfl (ht l)
 | _ =>
  refine⟨rfl,fun i e he => ?_⟩
  match i,he with
  | 0,he =>
   simp only[D.cells,List.getElem?_cons_zero,Option.some.injEq] at he
   subst he
   refine⟨rfl,?_⟩
   simp only[Value.cells,Array.getD_eq_getD_getElem?,List.getElem?_toArray,List.getElem?_cons_zero,Option.getD_some]
   first
    | exact .bool _
    | exact .int _ _
    | exact .str _
    | exact .empty _ _ _ _ ‹_›
    | exact .list _ _ _ _ _ _ _ _ ‹_› ‹_› ‹_› ‹_› ‹_› ‹_› ‹_›
    | exact .nilp
    | exact .ref _ _ _ _ _ _ ‹_› ‹_› ‹_› ‹_› ‹_›
    | exact .fn _ _ _ _ _ ‹_› ‹_› ‹_› ‹_›
  | i+1,he=>simp[D.cells] at he
end Go.Proofs.Ytlnhembcfhfpkaa.M
end

section
namespace Go.Proofs.Ytlnhembcfhfpkaa.M
open Go.RowKit
inductive AV where
 | und
 | p (d:D)
 | agg (l:List AV)
 | tup (l:List AV)
 | nils (T:TypeId) (sz:Nat)
 | slice (id off len:Nat)
 | ptr (id i off:Nat)
 | arr (id off len:Nat)
 deriving Inhabited
inductive Cont where
 | row (l:List D)
 | box (v:AV)
 | junk
structure AObj where
 T:TypeId
 sz:Nat
 cont:Cont
 frz:Bool
abbrev Mem:=Nat→Option AObj
def upd {α:Type} (f:Nat→α) (i:Nat) (v:α):Nat→α:=fun j=>if j=i then v else f j
theorem upd_same {α:Type} (f:Nat→α) (i:Nat) (v:α):upd f i v i=v:=by simp[upd]
theorem upd_ne {α:Type} (f:Nat→α) {i j:Nat} (v:α) (h:j≠i):upd f i v j=f j:=by simp[upd,h]
theorem upd_comm {α:Type} (f:Nat→α) {i j:Nat} (v u:α) (h:i≠j):upd (upd f i v) j u=upd (upd f j u) i v:=by
 funext k
 unfold upd
 by_cases h1:k=i<;>by_cases h2:k=j<;>simp_all
structure St where
 r:Nat→AV
 m:Mem
structure Loc where
 b:Nat
 o:Nat
 n:Nat
 sz:Nat
 nil:Bool
abbrev Locs:=Nat→Option Loc
def AV.cells:AV→List AV
 | .p d=>d.cells.map .p
 | .agg l=>l
 | v=>[v]
def AV.one:AV→Bool
 | .p d=>d.one
 | .nils .. | .slice .. | .ptr .. | .arr .. => true
 | _=>false
def AV.isAgg:AV→Option Bool
 | .p d=>some d.isAgg
 | .agg _=>some true
 | .und=>none
 | _=>some false
inductive RV (w:World) (N:Nat→Prop) (loc:Locs):Value→AV→Prop where
 | und (v:Value):RV w N loc v .und
 | p (v:Value) (d:D):V w N v d→RV w N loc v (.p d)
 | agg (cs:Array Value) (l:List AV):cs.size=l.length→(∀ d∈l,d.one=true)→(∀ i d,l[i]? = some d→RV w N loc (cs.getD i undef) d)→RV w N loc (.agg cs) (.agg l)
 | tup (cs:Array Value) (l:List AV):cs.size=l.length→(∀ i d,l[i]? = some d→RV w N loc (cs.getD i undef) d)→RV w N loc (.tuple cs) (.tup l)
 | nils (T:TypeId) (sz:Nat):RV w N loc (.slice none 0 0) (.nils T sz)
 | slice (L:Loc) (id off len cap:Nat):loc id=some L→L.nil=false→len≤cap→cap≤9223372036854775807→L.o+(off*L.sz+cap*L.sz)≤L.n →
   RV w N loc (.slice (some ⟨L.b,L.o+off*L.sz,none⟩) len cap) (.slice id off len)
 | sliceEmp (L:Loc) (id off:Nat) (p:Option Addr):loc id=some L→RV w N loc (.slice p 0 0) (.slice id off 0)
 | arr (L:Loc) (id off len cap:Nat):loc id=some L→L.nil=false→len≤cap→cap≤9223372036854775807→L.o+(off+cap)≤L.n→RV w N loc (.slice (some ⟨L.b,L.o+off,none⟩) len cap) (.arr id off len)
 | arrEmp (L:Loc) (id off:Nat) (p:Option Addr):loc id=some L→RV w N loc (.slice p 0 0) (.arr id off 0)
 | ptr (L:Loc) (id i off:Nat):loc id=some L→L.nil=false→RV w N loc (.pointer (some ⟨L.b,L.o+(i*L.sz+off),none⟩)) (.ptr id i off)
theorem RV.mono {w w':World} {N N':Nat→Prop} {loc loc':Locs} {v:Value} {d:AV} (h:RV w N loc v d) (hs:∀ b,N b→w'.heap[b]? = w.heap[b]?) (hn:∀ b,N b→N' b)
  (hl:∀ id L,loc id=some L→loc' id=some L):RV w' N' loc' v d:=by
 induction h with
 | und v=>exact .und v
 | p v d h=>exact .p v d (h.mono hs hn)
 | agg cs l h1 h2 _ ih=>exact .agg cs l h1 h2 ih
 | tup cs l h1 _ ih=>exact .tup cs l h1 ih
 | nils T sz=>exact .nils T sz
 | slice L id off len cap h1 h2 h3 h4 h5=>exact .slice L id off len cap (hl _ _ h1) h2 h3 h4 h5
 | sliceEmp L id off p h1=>exact .sliceEmp L id off p (hl _ _ h1)
 | arr L id off len cap h1 h2 h3 h4 h5=>exact .arr L id off len cap (hl _ _ h1) h2 h3 h4 h5
 | arrEmp L id off p h1=>exact .arrEmp L id off p (hl _ _ h1)
 | ptr L id i off h1 h2=>exact .ptr L id i off (hl _ _ h1) h2
theorem RV.one {w:World} {N:Nat→Prop} {loc:Locs} {v:Value} {d:AV} (h:RV w N loc v d) (ho:d.one=true):v.oneCell'=true:=by
 cases h with
 | p v d h=>exact h.one ho
 | _=>first | rfl | simp[AV.one] at ho
theorem RV.cells {w:World} {N:Nat→Prop} {loc:Locs} {v:Value} {d:AV} (h:RV w N loc v d) (ho:∀ e∈d.cells,e.one=true) :
  v.cells.size=d.cells.length∧∀ i e,d.cells[i]? = some e→RV w N loc (v.cells.getD i undef) e:=by
 cases h with
 | und=>simp[AV.cells,AV.one] at ho
 | tup=>simp[AV.cells,AV.one] at ho
 | p v d h =>
  have ht:∀ l,d≠.tup l:=by rintro l rfl;simp[AV.cells,D.cells,AV.one,D.one] at ho
  obtain⟨h1,h2⟩:=h.cells ht
  refine⟨by simpa[AV.cells] using h1,fun i e he => ?_⟩
  simp only[AV.cells,List.getElem?_map,Option.map_eq_some_iff] at he
  obtain⟨x,hx,rfl⟩:=he
  exact .p _ _ (h2 i x hx).2
 | agg cs l h1 h2 h3=>exact⟨h1,h3⟩
 | _ =>
  refine⟨rfl,fun i e he => ?_⟩
  match i,he with
  | 0,he =>
   simp only[AV.cells,List.getElem?_cons_zero,Option.some.injEq] at he
   subst he
   simp only[Value.cells,Array.getD_eq_getD_getElem?,List.getElem?_toArray,List.getElem?_cons_zero,Option.getD_some]
   first
    | exact .nils _ _
    | exact .slice _ _ _ _ _ ‹_› ‹_› ‹_› ‹_› ‹_›
    | exact .sliceEmp _ _ _ _ ‹_›
    | exact .arr _ _ _ _ _ ‹_› ‹_› ‹_› ‹_› ‹_›
    | exact .arrEmp _ _ _ _ ‹_›
    | exact .ptr _ _ _ _ ‹_› ‹_›
  | i+1,he=>simp[AV.cells] at he
def lentId:Nat:=999999
structure Bs where
 own:Nat→Prop
 L0:Option Loc
def Bs.lent (B:Bs) (b:Nat):Prop:=∃ L,B.L0=some L∧L.b=b
structure ExtL (B:Bs) (w w':World):Prop where
 os:w'.os=w.os
 tape:w'.tape=w.tape
 output:w'.output=w.output
 size:w.heap.size≤w'.heap.size
 block:∀ k,k<w.heap.size→¬ B.lent k→w'.heap[k]? = w.heap[k]?
 lentB:∀ (k:Nat) (c:Array Value) (T:TypeId) (fr:Nat × Nat),w.heap[k]? = some (.cells c T fr)→∃ c':Array Value,c'.size=c.size∧w'.heap[k]? = some (.cells c' T fr)
 lentT:∀ (k:Nat) (c:Array Value) (T:TypeId) (fr:Nat × Nat),k<w.heap.size→w'.heap[k]? = some (.cells c T fr)→∃ c':Array Value,c'.size=c.size∧w.heap[k]? = some (.cells c' T fr)
theorem lt_of_heap {w:World} {k:Nat} {x:Obj} (h:w.heap[k]? = some x):k<w.heap.size:=by
 rcases Nat.lt_or_ge k w.heap.size with hlt | hge
 ·exact hlt
 ·rw[Array.getElem?_eq_none hge] at h;cases h
theorem ExtL.rf (B:Bs) (w:World):ExtL B w w:=⟨rfl,rfl,rfl,Nat.le_refl _,fun _ _ _=>rfl,fun _ c _ _ h=>⟨c,rfl,h⟩,fun _ c _ _ _ h=>⟨c,rfl,h⟩⟩
theorem ExtL.tr {B:Bs} {a b c:World} (h:ExtL B a b) (k:Ext b c):ExtL B a c:=
 ⟨k.os.trans h.os,k.tape.trans h.tape,k.output.trans h.output,Nat.le_trans h.size k.size,fun i hi hl=>(k.block i (Nat.lt_of_lt_of_le hi h.size)).trans (h.block i hi hl),
  fun i c0 T fr hc=>by
   obtain⟨c',h1,h2⟩:=h.lentB i c0 T fr hc
   exact⟨c',h1,(k.block i (lt_of_heap h2)).trans h2⟩,
  fun i c0 T fr hi hc=>h.lentT i c0 T fr hi (by rw[←k.block i (Nat.lt_of_lt_of_le hi h.size)];exact hc)⟩
theorem ExtL.ext {B:Bs} {a b:World} (h:ExtL B a b) (h0:B.L0=none):Ext a b:=
 ⟨h.os,h.tape,h.output,h.size,fun k hk=>h.block k hk (by rintro⟨L,hL,_⟩;rw[h0] at hL;cases hL)⟩
def ownB (M:Mem) (loc:Locs) (b:Nat):Prop:=∃ id o L,M id=some o∧o.frz=false∧loc id=some L∧L.nil=false∧L.b=b
def NB (base:Bs) (M:Mem) (loc:Locs) (w:World) (b:Nat):Prop:=b<w.heap.size∧¬ base.own b∧¬ ownB M loc b
def ContOk (w:World) (N:Nat→Prop) (loc:Locs) (c:Array Value) (o sz:Nat):Cont→Prop
 | .row l=>o+l.length*sz≤c.size∧(∀ e∈l,e.cells.length=sz)∧(∀ i e j d,l[i]? = some e→e.cells[j]? = some d→d.one=true∧V w N (c.getD (o+(i*sz+j)) undef) d)
 | .junk=>o+sz≤c.size
 | .box v=>o+sz≤c.size∧v.cells.length=sz∧(∀ e∈v.cells,e.one=true)∧(∀ j d,v.cells[j]? = some d→RV w N loc (c.getD (o+j) undef) d)
structure ObjOk (w0:World) (base:Bs) (M:Mem) (loc:Locs) (w:World) (o:AObj) (L:Loc):Prop where
 sz:L.sz=o.sz
 nil:L.nil=true→o.cont = .row []
 at_:L.nil=false→∃ c fr,w.heap[L.b]? = some (.cells c o.T fr)∧c.size=L.n∧ContOk w (NB base M loc w) loc c L.o o.sz o.cont ∧
  (o.frz=false→(w0.heap.size≤L.b∨base.lent L.b)∧∀ x,x<L.n→(decide (fr.1≤x)&&decide (x<fr.2))=false)∧(o.frz=true→NB base M loc w L.b)
def KeepL (base:Bs) (m:Mem) (loc:Locs):Prop:=∀ L,base.L0=some L→loc lentId=some L∧base.own L.b∧L.nil=false∧∃ o,m lentId=some o∧o.frz=false
theorem KeepL.none_ {base:Bs} (h:base.L0=none) (m:Mem) (loc:Locs):KeepL base m loc:=fun L hL=>by rw[h] at hL;cases hL
theorem KeepL.turn {base:Bs} {m m':Mem} {loc loc':Locs} (h:KeepL base m loc) (hm:∀ o,m lentId=some o→o.frz=false→∃ o',m' lentId=some o'∧o'.frz=false) (hl:m lentId≠none→loc' lentId=loc lentId):KeepL base m' loc':=fun L hL=>by
 obtain⟨h1,h2,h3,o,h4,h5⟩:=h L hL
 exact⟨(hl (by rw[h4];simp)).trans h1,h2,h3,hm o h4 h5⟩
theorem KeepL.put {base:Bs} {m:Mem} {loc:Locs} (h:KeepL base m loc) {i:Nat} {x:Option AObj} (hx:i=lentId→∃ o,x=some o∧o.frz=false):KeepL base (upd m i x) loc:=
 h.turn (fun o h1 h2=>by
  by_cases e:lentId=i
  ·obtain⟨o',e1,e2⟩:=hx e.symm
   exact⟨o',by rw[e,upd_same,e1],e2⟩
  ·exact⟨o,by rw[upd_ne _ _ e];exact h1,h2⟩) (fun _=>rfl)
theorem KeepL.new {base:Bs} {m:Mem} {loc:Locs} (h:KeepL base m loc) {i:Nat} (hi:m i=none) (x:Option AObj) (y:Option Loc):KeepL base (upd m i x) (upd loc i y):=
 h.turn (fun o h1 h2=>by
  have e:lentId≠i:=by rintro rfl;rw[hi] at h1;cases h1
  exact⟨o,by rw[upd_ne _ _ e];exact h1,h2⟩) (fun h1=>by
  have e:lentId≠i:=by rintro rfl;exact h1 hi
  exact upd_ne _ _ e)
structure Rel (w0:World) (base:Bs) (nt:Nat) (loc:Locs) (s:St) (a:Act) (w:World):Prop where
 ext:ExtL base w0 w
 defers:a.defers=[]
 size:a.tmps.size=nt
 low:∀ b,base.own b→b<w0.heap.size
 dom:∀ id,s.m id=none→loc id=none
 tmps:∀ t,RV w (NB base s.m loc w) loc (a.tmps.getD t undef) (s.r t)
 objs:∀ id o,s.m id=some o→∃ L,loc id=some L∧ObjOk w0 base s.m loc w o L
 inj:∀ id id' o o' L L',s.m id=some o→s.m id'=some o'→o.frz=false→loc id=some L→loc id'=some L'→L.nil=false→L'.nil=false→L.b=L'.b→id=id'
 keepL:KeepL base s.m loc
section
variable {w0:World} {base:Bs} {nt:Nat} {loc:Locs} {s:St} {a:Act} {w:World}
theorem Rel.put (h:Rel w0 base nt loc s a w) {t:Nat} (ht:t<nt) {v:Value} {d:AV} (hv:RV w (NB base s.m loc w) loc v d) :
  Rel w0 base nt loc ⟨upd s.r t d,s.m⟩ (a.put (some t) v) w:=by
 refine⟨h.ext,h.defers,by simp[Act.put,h.size],h.low,h.dom,fun u => ?_,h.objs,h.inj,h.keepL⟩
 by_cases hu:u=t
 ·subst hu
  simp only[upd_same,Act.put,Array.getD_eq_getD_getElem?,Array.getElem?_setIfInBounds_self,h.size,ht,if_true,Option.getD_some]
  exact hv
 ·have hu':t≠u:=fun e=>hu e.symm
  simp only[upd_ne _ _ hu,Act.put,Array.getD_eq_getD_getElem?,Array.getElem?_setIfInBounds_ne hu']
  have:=h.tmps u
  rwa[Array.getD_eq_getD_getElem?] at this
theorem ContOk.mono {w w':World} {N N':Nat→Prop} {loc loc':Locs} {c:Array Value} {o sz:Nat} {k:Cont} (h:ContOk w N loc c o sz k) (hs:∀ b,N b→w'.heap[b]? = w.heap[b]?) (hn:∀ b,N b→N' b)
  (hl:∀ id L,loc id=some L→loc' id=some L):ContOk w' N' loc' c o sz k:=by
 cases k with
 | row l=>exact⟨h.1,h.2.1,fun i e j d h1 h2=>⟨(h.2.2 i e j d h1 h2).1,(h.2.2 i e j d h1 h2).2.mono hs hn⟩⟩
 | box v=>exact⟨h.1,h.2.1,h.2.2.1,fun j d h1=>(h.2.2.2 j d h1).mono hs hn hl⟩
 | junk=>exact h
theorem Rel.later (h:Rel w0 base nt loc s a w) {w':World} (he:Ext w w'):Rel w0 base nt loc s a w':=by
 have hs:∀ b,NB base s.m loc w b→w'.heap[b]? = w.heap[b]?:=fun b hb=>he.block b hb.1
 have hn:∀ b,NB base s.m loc w b→NB base s.m loc w' b:=fun b hb=>⟨Nat.lt_of_lt_of_le hb.1 he.size,hb.2⟩
 refine⟨h.ext.tr he,h.defers,h.size,h.low,h.dom,fun t=>(h.tmps t).mono hs hn (fun _ _ x=>x),fun id o ho => ?_,h.inj,h.keepL⟩
 obtain⟨L,hL,hok⟩:=h.objs id o ho
 refine⟨L,hL,hok.sz,hok.nil,fun hnil => ?_⟩
 obtain⟨c,fr,h1,h2,h3,h4,h5⟩:=hok.at_ hnil
 have hlt:L.b<w.heap.size:=by
  rcases Nat.lt_or_ge L.b w.heap.size with hlt | hge
  ·exact hlt
  ·rw[Array.getElem?_eq_none hge] at h1;cases h1
 exact⟨c,fr,(he.block _ hlt).trans h1,h2,h3.mono hs hn (fun _ _ x=>x),h4,fun hf=>hn _ (h5 hf)⟩
theorem Rel.obj_lt (h:Rel w0 base nt loc s a w) {id:Nat} {o:AObj} {L:Loc} (ho:s.m id=some o) (hL:loc id=some L) (hn:L.nil=false):L.b<w.heap.size:=by
 obtain⟨L',hL',hok⟩:=h.objs id o ho
 rw[hL] at hL'
 cases hL'
 obtain⟨c,fr,h1,_⟩:=hok.at_ hn
 rcases Nat.lt_or_ge L.b w.heap.size with hlt | hge
 ·exact hlt
 ·rw[Array.getElem?_eq_none hge] at h1;cases h1
theorem Rel.allocM (h:Rel w0 base nt loc s a w) {id:Nat} (hid:s.m id=none) {T:TypeId} {sz:Nat} {k:Cont} {c:Array Value} {fr:Nat × Nat}
  (hfr:∀ x,x<c.size→(decide (fr.1≤x)&&decide (x<fr.2))=false) (hk:ContOk w (NB base s.m loc w) loc c 0 sz k) :
  ∃ loc',loc' id=some ⟨w.heap.size,0,c.size,sz,false⟩∧Rel w0 base nt loc' ⟨s.r,upd s.m id (some ⟨T,sz,k,false⟩)⟩ a (w.alloc (.cells c T fr)):=by
 have hloc:=h.dom id hid
 refine⟨upd loc id (some ⟨w.heap.size,0,c.size,sz,false⟩),upd_same _ _ _,?_⟩
 have hl:∀ i L,loc i=some L→upd loc id (some ⟨w.heap.size,0,c.size,sz,false⟩) i=some L:=fun i L hi=>by
  rw[upd_ne];exact hi
  rintro rfl;rw[hloc] at hi;cases hi
 have hext:Ext w (w.alloc (.cells c T fr)):=(Below.refl _ _).alloc (Nat.le_refl _) _
 have hs:∀ b,NB base s.m loc w b→(w.alloc (.cells c T fr)).heap[b]? = w.heap[b]?:=fun b hb=>hext.block b hb.1
 have hn:∀ b,NB base s.m loc w b→NB base (upd s.m id (some ⟨T,sz,k,false⟩)) (upd loc id (some ⟨w.heap.size,0,c.size,sz,false⟩)) (w.alloc (.cells c T fr)) b:=by
  rintro b ⟨h1,h2,h3⟩
  refine⟨by simp;omega,h2,?_⟩
  rintro⟨i,o,L,ho,hf,hL,hnil,hb⟩
  by_cases hi:i=id
  ·subst hi
   rw[upd_same] at hL
   cases hL
   simp at hb;omega
  ·rw[upd_ne _ _ hi] at ho hL
   exact h3 ⟨i,o,L,ho,hf,hL,hnil,hb⟩
 refine⟨h.ext.tr hext,h.defers,h.size,h.low,?_,fun t=>(h.tmps t).mono hs hn hl,?_,?_,h.keepL.new hid _ _⟩
 ·intro i hi
  dsimp only at hi
  by_cases e:i=id
  ·subst e;rw[upd_same] at hi;cases hi
  ·rw[upd_ne _ _ e] at hi ⊢;exact h.dom i hi
 ·intro i o ho
  dsimp only at ho
  by_cases e:i=id
  ·subst e
   rw[upd_same] at ho
   cases ho
   refine⟨_,upd_same _ _ _,rfl,by simp,fun _=>⟨c,fr,heap_alloc_new w _,rfl,hk.mono hs hn hl,fun _=>⟨.inl h.ext.size,?_⟩,by simp⟩⟩
   exact hfr
  ·rw[upd_ne _ _ e] at ho
   obtain⟨L,hL,hok⟩:=h.objs i o ho
   refine⟨L,hl i L hL,hok.sz,hok.nil,fun hnil => ?_⟩
   obtain⟨c',fr,h1,h2,h3,h4,h5⟩:=hok.at_ hnil
   have hlt:=h.obj_lt ho hL hnil
   exact⟨c',fr,(hext.block _ hlt).trans h1,h2,h3.mono hs hn hl,h4,fun hf=>hn _ (h5 hf)⟩
 ·intro i i' o o' L L' ho ho' hf hL hL' hnil hnil' hb
  dsimp only at ho ho'
  by_cases e:i=id
  ·subst e
   rw[upd_same] at hL
   cases hL
   by_cases e':i'=i
   ·exact e'.symm
   ·rw[upd_ne _ _ e'] at ho' hL'
    have:=h.obj_lt ho' hL' hnil'
    simp at hb;omega
  ·rw[upd_ne _ _ e] at ho hL
   by_cases e':i'=id
   ·subst e'
    rw[upd_same] at hL'
    cases hL'
    have:=h.obj_lt ho hL hnil
    simp at hb;omega
   ·rw[upd_ne _ _ e'] at ho' hL'
    exact h.inj i i' o o' L L' ho ho' hf hL hL' hnil hnil' hb
theorem Rel.alloc (h:Rel w0 base nt loc s a w) {id:Nat} (hid:s.m id=none) {T:TypeId} {sz:Nat} {k:Cont} {c:Array Value}
  (hk:ContOk w (NB base s.m loc w) loc c 0 sz k) :
  ∃ loc',loc' id=some ⟨w.heap.size,0,c.size,sz,false⟩∧Rel w0 base nt loc' ⟨s.r,upd s.m id (some ⟨T,sz,k,false⟩)⟩ a (w.alloc (.cells c T)):=
 h.allocM hid (fr:=(0,0)) (fun x _=>by simp) hk
end
end Go.Proofs.Ytlnhembcfhfpkaa.M
end

section
namespace Go.Proofs.Ytlnhembcfhfpkaa.M
open Go.RowKit
inductive Opd where
 | t (n:Nat)
 | k (v:AV)
def Opd.ev (r:Nat→AV):Opd→AV
 | .t n=>r n
 | .k v=>v
inductive AOp where
 | mov (x:Opd)
 | nilCheck (x:Opd)
 | pick (c a b:Opd)
 | alloc (T sz:Nat) (z:AV)
 | box (T sz:Nat) (x:Opd)
 | build (z:List AV) (parts:List (Nat × Nat × Opd))
 | buildSlice (T sz:Nat) (z:D) (n:Nat) (parts:List (Nat × Opd))
 | buildSliceF (T sz:Nat) (z:D) (n:Nat) (parts:List (Nat × Opd))
 | load (ag:Bool) (sz:Nat) (x:Opd)
 | store (sz:Nat) (x v:Opd)
 | bin (bo:Bool) (op:BinOp) (x y:Opd)
 | eqs (n:Nat) (neg:Bool) (x y:Opd)
 | un (op:UnOp) (x:Opd)
 | conv (k:IntKind) (x:Opd)
 | strB (x:Opd)
 | bytS (T:TypeId) (x:Opd)
 | makeSlice (T sz bytes:Nat) (z:D) (l c:Opd)
 | slice (sz:Nat) (x:Opd) (lo hi mx:Option Opd)
 | sliceS (x:Opd) (lo hi:Option Opd)
 | fieldAddr (off sz:Nat) (ag:Bool) (x:Opd)
 | field (off sz:Nat) (ag:Bool) (x:Opd)
 | indexAddr (sz:Nat) (x i:Opd)
 | index (x i:Opd)
 | extract (x:Opd) (i:Nat)
 | len (x:Opd)
 | lenS (x:Opd)
 | mm (mx:Bool) (x y:Opd)
 | append (T sz bytes:Nat) (x y:Opd)
 | appendF (T sz bytes:Nat) (x y:Opd)
 | call (f:FuncId) (args:List Opd)
 | fnv (fn:Fn) (first captured:List Opd)
 | callL (f:FuncId) (k:Nat) (args:List Opd)
 | callv (fs:List FuncId) (x:Opd) (args:List Opd)
 | callN (f:FuncId) (T:TypeId) (args:List Opd)
 | sliceA (n:Nat) (x:Opd) (lo hi mx:Option Opd)
 | copyA (x y:Opd)
 | isNil (neg:Bool) (x:Opd)
 | clearS (sz:Nat) (z:D) (x:Opd)
 | indexAddrA (n esz:Nat) (ag:Bool) (x i:Opd)
 | indexA (n esz:Nat) (ag:Bool) (x i:Opd)
 | copyS (T sz bytes:Nat) (y:Opd)
 | copyF (T sz bytes:Nat) (y:Opd)
 | bad
def inK:IntKind→Int→Bool
 | .i8,n=>decide (-128≤n∧n≤127)
 | .i16,n=>decide (-32768≤n∧n≤32767)
 | .i32,n=>decide (-2147483648≤n∧n≤2147483647)
 | .i64,n=>decide (-9223372036854775808≤n∧n≤9223372036854775807)
 | .u8,n=>decide (0≤n∧n≤255)
 | .u16,n=>decide (0≤n∧n≤65535)
 | .u32,n=>decide (0≤n∧n≤4294967295)
 | .u64,n=>decide (0≤n∧n≤18446744073709551615)
def partD (l:List D) (off sz:Nat) (ag:Bool):Option D:=
 if ag then (if off+sz≤l.length then some (.agg ((l.drop off).take sz)) else none) else l[off]?
def partA (l:List AV) (off sz:Nat) (ag:Bool):Option AV:=
 if ag then (if off+sz≤l.length then some (.agg ((l.drop off).take sz)) else none) else l[off]?
def D.part (d:D) (off sz:Nat) (ag:Bool):Option D:=partD d.cells off sz ag
def AV.part (v:AV) (off sz:Nat) (ag:Bool):Option AV:=
 match v with
 | .p d=>(d.part off sz ag).map .p
 | v=>partA v.cells off sz ag
def AV.get (v:AV) (off sz osz:Nat) (ag:Bool):Option AV:=
 if off=0∧sz=osz∧v.isAgg=some ag then some v else v.part off sz ag
mutual
def AV.pure:AV→Option D
 | .p d=>some d
 | .nils T sz=>some (.list T sz [])
 | .agg l=>(pureL l).map .agg
 | _=>none
def pureL:List AV→Option (List D)
 | []=>some []
 | v::l=>match v.pure,pureL l with
  | some d,some ds=>some (d::ds)
  | _,_=>none
end
def AV.mk (l:List AV):AV:=match pureL l with
 | some ds => .p (.agg ds)
 | none => .agg l
mutual
def AV.toD (any:Bool) (M:Mem):Nat→AV→Option D
 | 0,_=>none
 | n+1,v=>match v with
  | .p d=>some d
  | .nils T sz=>some (.list T sz [])
  | .agg l=>(toDL any M n l).map .agg
  | .tup l=>(toDL any M n l).map .tup
  | .slice id off len=>match M id with
   | some o=>match o.cont with
    | .row l=>if (o.frz||any)&&decide (off+len≤l.length) then some (.list o.T o.sz ((l.drop off).take len)) else none
    | _=>none
   | none=>none
  | .ptr id i off=>if i=0∧off=0 then match M id with
   | some o=>match o.cont with
    | .box v=>if o.frz||any then (AV.toD any M n v).map .ref else none
    | _=>none
   | none=>none else none
  | .arr id off len=>match M id with
   | some o=>match o.cont with
    | .box (.p d)=>if (o.frz||any)&&decide (off+len≤d.cells.length)&&decide (len≤9223372036854775807) then some (.list 1000000 1 ((d.cells.drop off).take len)) else none
    | _=>none
   | none=>none
  | .und=>none
def toDL (any:Bool) (M:Mem):Nat→List AV→Option (List D)
 | 0,_=>none
 | n+1,l=>match l with
  | []=>some []
  | v::l=>match AV.toD any M n v,toDL any M n l with
   | some d,some ds=>some (d::ds)
   | _,_=>none
end
def asI:AV→Option Int
 | .p (.int _ n)=>some n
 | _=>none
def bitN (op:BinOp) (a b:Nat):Nat:=match op with
 | .and=>a &&& b
 | .or=>a ||| b
 | .xor=>a ^^^ b
 | _=>a ^^^ (a &&& b)
def bitB (k:IntKind) (a b:Int):Bool:=decide (0≤a∧0≤b)&&inK k a&&inK k b
def binD (op:BinOp):D→D→Option (Bool × D)
 | .int k a,.int k' b =>
  match op with
  | .shl=>some (decide (0≤b∧b<k.bits)&&inK k (a*2^b.toNat),.int k (a*2^b.toNat))
  | .shr=>some (decide (0≤b∧b<k.bits),.int k (a / 2^b.toNat))
  | op=>if k=k' then
   match op with
   | .add=>some (inK k (a+b),.int k (a+b))
   | .sub=>some (inK k (a-b),.int k (a-b))
   | .mul=>some (inK k (a*b),.int k (a*b))
   | .quo=>some (decide (b≠0)&&inK k (a.tdiv b),.int k (a.tdiv b))
   | .rem=>some (decide (b≠0),.int k (a.tmod b))
   | .and=>some (bitB k a b,.int k (bitN .and a.toNat b.toNat:Nat))
   | .or=>some (bitB k a b,.int k (bitN .or a.toNat b.toNat:Nat))
   | .xor=>some (bitB k a b,.int k (bitN .xor a.toNat b.toNat:Nat))
   | .andNot=>some (bitB k a b,.int k (bitN .andNot a.toNat b.toNat:Nat))
   | .eql=>some (true,.bool (decide (a=b)))
   | .neq=>some (true,.bool (!decide (a=b)))
   | .lss=>some (true,.bool (decide (a<b)))
   | .leq=>some (true,.bool (decide (a≤b)))
   | .gtr=>some (true,.bool (decide (b<a)))
   | .geq=>some (true,.bool (decide (b≤a)))
   | _=>none
   else none
 | .str a,.str b =>
  match op with
  | .add=>some (decide (a.length+b.length≤9223372036854775807),.str (a++b))
  | .eql=>some (true,.bool (decide (a=b)))
  | .neq=>some (true,.bool (!decide (a=b)))
  | _=>none
 | .bool a,.bool b =>
  match op with
  | .eql=>some (true,.bool (a == b))
  | .neq=>some (true,.bool (!(a == b)))
  | _=>none
 | _,_=>none
def D.isBool:D→Bool
 | .bool _=>true
 | _=>false
def intsOf:List D→Option (List IntKind × List Int)
 | []=>some ([],[])
 | .int k n::l=>(intsOf l).map fun p=>(k::p.1,n::p.2)
 | _=>none
def unD (op:UnOp):D→Option (Bool × D)
 | .int k a=>match op with
  | .neg=>some (inK k (-a),.int k (-a))
  | _=>none
 | .bool a=>match op with
  | .not=>some (true,.bool (!a))
  | _=>none
 | _=>none
def fillA (cells:List AV) (r:Nat→AV):List (Nat × Nat × Opd)→Option (List AV)
 | []=>some cells
 | (off,sz,x)::rest =>
  if (x.ev r).cells.length=sz∧off+sz≤cells.length∧(x.ev r).cells.all AV.one=true then fillA (cells.take off++(x.ev r).cells++cells.drop (off+sz)) r rest else none
def fillR (sz:Nat) (l:List D) (r:Nat→AV) (M:Mem):List (Nat × Opd)→Option (List D)
 | []=>some l
 | (i,x)::rest=>match (x.ev r).toD false M 20 with
  | some d=>if d.cells.length=sz∧d.cells.all D.one=true∧i<l.length then fillR sz (l.set i d) r M rest else none
  | none=>none
def bounds (r:Nat→AV) (len:Nat) (lo hi mx:Option Opd):Option (Bool × Nat × Nat):=
 match (match lo with | none=>some 0 | some x=>asI (x.ev r)),(match hi with | none=>some (len:Int) | some x=>asI (x.ev r)) with
 | some l,some h=>match mx with
  | none=>some (decide (0≤l∧l≤h∧h≤len),l.toNat,h.toNat)
  | some y=>match asI (y.ev r) with
   | some m=>some (decide (0≤l∧l≤h∧h≤m∧m≤len),l.toNat,h.toNat)
   | none=>none
 | _,_=>none
mutual
def AV.forget (id:Nat):AV→AV
 | .slice i off len=>if i=id then .und else .slice i off len
 | .ptr i j off=>if i=id then .und else .ptr i j off
 | .arr i j off=>if i=id then .und else .arr i j off
 | .agg l=>match forgetL id l with
  | some l => .agg l
  | none => .und
 | .tup l=>match forgetL id l with
  | some l => .tup l
  | none => .und
 | v=>v
def forgetL (id:Nat):List AV→Option (List AV)
 | []=>some []
 | v::l=>match v.forget id,forgetL id l with
  | .und,_=>none
  | v,some l=>some (v::l)
  | _,none=>none
end
def elemsOf (sz:Nat) (m:Mem):AV→Option (List D)
 | .slice j off n=>match m j with
  | some ⟨_,sz',.row l,_⟩=>if sz'=sz∧off+n≤l.length then some ((l.drop off).take n) else none
  | _=>none
 | .p (.list _ sz' l)=>if sz'=sz then some l else none
 | .nils _ sz'=>if sz'=sz then some [] else none
 | _=>none
def opdsD (r:Nat→AV) (M:Mem):List Opd→Option (List D)
 | []=>some []
 | x::l=>match (x.ev r).toD false M 20,opdsD r M l with
  | some d,some ds=>some (d::ds)
  | _,_=>none
def bytesD:List D→Option (List UInt8)
 | []=>some []
 | .int .u8 n::l=>if 0≤n∧n≤255 then (bytesD l).map (UInt8.ofNat n.toNat::·) else none
 | _=>none
def ev (o:AOp) (id:Nat) (s:St):Option (Bool × AV × St):=
 match o with
 | .mov x=>some (true,x.ev s.r,s)
 | .nilCheck x=>match x.ev s.r with
  | .ptr i j o=>some (true,.ptr i j o,s)
  | .p (.ref d)=>some (true,.p (.ref d),s)
  | _=>none
 | .pick c a b=>match c.ev s.r with
  | .p (.bool true)=>some (true,a.ev s.r,s)
  | .p (.bool false)=>some (true,b.ev s.r,s)
  | _=>none
 | .alloc T sz z=>match s.m id with
  | none=>some (true,.ptr id 0 0,⟨s.r,upd s.m id (some ⟨T,sz,.box z,false⟩)⟩)
  | some _=>none
 | .box T sz x=>match s.m id with
  | none=>if (x.ev s.r).cells.length=sz∧(x.ev s.r).cells.all AV.one=true then some (true,.ptr id 0 0,⟨s.r,upd s.m id (some ⟨T,sz,.box (x.ev s.r),false⟩)⟩) else none
  | some _=>none
 | .build z parts=>match fillA z s.r parts with
  | some l=>some (true,AV.mk l,s)
  | none=>none
 | .buildSlice T sz z n parts=>match s.m id with
  | none=>match fillR sz (List.replicate n z) s.r s.m parts with
   | some l=>some (true,.slice id 0 n,⟨s.r,upd s.m id (some ⟨T,sz,.row l,false⟩)⟩)
   | none=>none
  | some _=>none
 | .buildSliceF T sz z n parts=>if id=lentId then none else match s.m id with
  | none=>match fillR sz (List.replicate n z) s.r s.m parts with
   | some l=>some (true,.slice id 0 n,⟨s.r,upd s.m id (some ⟨T,sz,.row l,true⟩)⟩)
   | none=>none
  | some _=>none
 | .load ag sz x=>match x.ev s.r with
  | .ptr i j off=>match s.m i with
   | some ⟨_,osz,.row l,_⟩=>match (AV.p (l.getD j default)).get off sz osz ag with
    | some v=>some (decide (j<l.length),v,s)
    | none=>none
   | some ⟨_,osz,.box v,_⟩=>if j=0 then match v.get off sz osz ag with
    | some u=>some (true,u,s)
    | none=>none else none
   | _=>none
  | .p (.ref d)=>if d.isAgg=ag then some (decide (d.cells.length=sz∧0<sz),.p d,s) else none
  | _=>none
 | .store sz x v=>match x.ev s.r with
  | .ptr i j off=>match s.m i with
   | some ⟨T,osz,.row l,false⟩=>match (v.ev s.r).toD false s.m 20 with
    | some d=>if d.cells.length=sz∧d.cells.all D.one=true then
      (
       if off=0∧sz=osz then some (decide (j<l.length),.und,⟨s.r,upd s.m i (some ⟨T,osz,.row (l.set j d),false⟩)⟩)
       else none) else none
    | none=>none
   | some ⟨T,osz,.box u,false⟩=>if (v.ev s.r).cells.length=sz∧(v.ev s.r).cells.all AV.one=true∧j=0 then
     (
      if off=0∧sz=osz then some (true,.und,⟨s.r,upd s.m i (some ⟨T,osz,.box (v.ev s.r),false⟩)⟩)
      else if off+sz≤osz then some (true,.und,⟨s.r,upd s.m i (some ⟨T,osz,.box (AV.mk (u.cells.take off++(v.ev s.r).cells++u.cells.drop (off+sz))),false⟩)⟩) else none) else none
   | some ⟨T,osz,.junk,false⟩=>if (v.ev s.r).cells.length=sz∧(v.ev s.r).cells.all AV.one=true∧j=0 then
     (if off=0∧sz=osz then some (true,.und,⟨s.r,upd s.m i (some ⟨T,osz,.box (v.ev s.r),false⟩)⟩) else none) else none
   | _=>none
  | _=>none
 | .bin bo op x y=>match x.ev s.r,y.ev s.r with
  | .p a,.p b=>if a.isBool=bo then match binD op a b with
   | some (c,d)=>some (c,.p d,s)
   | none=>none else none
  | _,_=>none
 | .eqs n neg x y=>match x.ev s.r,y.ev s.r with
  | .p (.agg a),.p (.agg b)=>match intsOf a,intsOf b with
   | some (k,l),some (k',m)=>if k=k'∧k.length=n then some (true,.p (.bool (if neg then !decide (l=m) else decide (l=m))),s) else none
   | _,_=>none
  | _,_=>none
 | .un op x=>match x.ev s.r with
  | .p a=>match unD op a with
   | some (c,d)=>some (c,.p d,s)
   | none=>none
  | _=>none
 | .conv k x=>match x.ev s.r with
  | .p (.int _ n)=>some (inK k n,.p (.int k n),s)
  | _=>none
 | .strB x=>match elemsOf 1 s.m (x.ev s.r) with
  | some ys=>match bytesD ys with
   | some b=>some (true,.p (.str b),s)
   | none=>none
  | none=>none
 | .bytS T x=>match s.m id with
  | none=>match x.ev s.r with
   | .p (.str t)=>some (decide (t.length≤9223372036854775807),.slice id 0 t.length,⟨s.r,upd s.m id (some ⟨T,1,.row (t.map fun b => .int .u8 b.toNat),false⟩)⟩)
   | _=>none
  | some _=>none
 | .makeSlice T sz bytes z l c=>match s.m id with
  | none=>match asI (l.ev s.r),asI (c.ev s.r) with
   | some n,some m=>some (decide (0≤n∧n=m∧bytes*n≤281474976710656∧n≤9223372036854775807),.slice id 0 n.toNat,⟨s.r,upd s.m id (some ⟨T,sz,.row (List.replicate n.toNat z),false⟩)⟩)
   | _,_=>none
  | some _=>none
 | .sliceS x lo hi=>match x.ev s.r with
  | .p (.str t)=>match bounds s.r t.length lo hi none with
   | some (c,l,h)=>some (c,.p (.str ((t.drop l).take (h-l))),s)
   | none=>none
  | _=>none
 | .slice sz x lo hi mx=>match x.ev s.r with
  | .p (.list T sz' t)=>if sz=sz' then match bounds s.r t.length lo hi mx with
   | some (c,l,h)=>some (c,.p (.list T sz ((t.drop l).take (h-l))),s)
   | none=>none else none
  | .slice i off len=>match s.m i with
   | some o=>if o.sz=sz then match bounds s.r len lo hi mx with
    | some (c,l,h)=>some (c,.slice i (off+l) (h-l),s)
    | none=>none else none
   | none=>none
  | .nils T sz=>match bounds s.r 0 lo hi mx with
   | some (c,_,_)=>some (c,.nils T sz,s)
   | none=>none
  | .arr i off len=>if sz=1 then match bounds s.r len lo hi mx with
   | some (c,l,h)=>some (c,.arr i (off+l) (h-l),s)
   | none=>none else none
  | _=>none
 | .fieldAddr off sz ag x=>match x.ev s.r with
  | .ptr i j o=>some (true,.ptr i j (o+off),s)
  | .p (.ref d)=>match d.part off sz ag with
   | some e=>some (true,.p (.ref e),s)
   | none=>none
  | _=>none
 | .field off sz ag x=>if (x.ev s.r).isAgg=some true then match (x.ev s.r).part off sz ag with
  | some v=>some (true,v,s)
  | none=>none else none
 | .indexAddr sz x i=>match x.ev s.r,asI (i.ev s.r) with
  | .p (.list _ sz' t),some n=>if sz=sz' then some (decide (0≤n∧n<t.length),.p (.ref (t.getD n.toNat default)),s) else none
  | .slice j off len,some n=>match s.m j with
   | some o=>if o.sz=sz then some (decide (0≤n∧n<len),.ptr j (off+n.toNat) 0,s) else none
   | none=>none
  | .arr j off len,some n=>if sz=1 then some (decide (0≤n∧n<len),.ptr j 0 (off+n.toNat),s) else none
  | _,_=>none
 | .sliceA n x lo hi mx=>match x.ev s.r with
  | .ptr i 0 off=>match s.m i with
   | some ⟨_,osz,.box _,_⟩=>if off+n≤osz∧n≤9223372036854775807 then match bounds s.r n lo hi mx with
    | some (c,l,h)=>some (c,.arr i (off+l) (h-l),s)
    | none=>none else none
   | _=>none
  | _=>none
 | .clearS sz z x=>match x.ev s.r with
  | .slice i off len=>match s.m i with
   | some ⟨T,osz,.row l,false⟩=>if osz=sz then some (decide (off+len≤l.length),.und,⟨s.r,upd s.m i (some ⟨T,osz,.row (l.take off++List.replicate len z++l.drop (off+len)),false⟩)⟩) else none
   | _=>none
  | _=>none
 | .copyA x y=>match x.ev s.r,elemsOf 1 s.m (y.ev s.r) with
  | .arr i off len,some ys=>match s.m i with
   | some ⟨T,osz,.box u,false⟩=>if off+len≤osz∧ys.all D.one=true then
     some (decide (ys.length≤len),.p (.int .i64 (ys.length:Nat)),⟨s.r,upd s.m i (some ⟨T,osz,.box (AV.mk (u.cells.take off++ys.map .p++u.cells.drop (off+ys.length))),false⟩)⟩) else none
   | _=>none
  | _,_=>none
 | .indexAddrA n esz ag x i=>match x.ev s.r,asI (i.ev s.r) with
  | .ptr j k off,some q=>some (decide (0≤q∧q<n),.ptr j k (off+q.toNat*esz),s)
  | .p (.ref d),some q=>match d.part (q.toNat*esz) esz ag with
   | some e=>some (decide (0≤q∧q<n),.p (.ref e),s)
   | none=>none
  | _,_=>none
 | .indexA n esz ag x i=>match asI (i.ev s.r) with
  | some q=>if (x.ev s.r).isAgg=some true then match (x.ev s.r).part (q.toNat*esz) esz ag with
   | some v=>some (decide (0≤q∧q<n),v,s)
   | none=>none else none
  | none=>none
 | .copyS T sz bytes y=>match s.m id,elemsOf sz s.m (y.ev s.r) with
  | none,some ys=>some (decide (ys.length*bytes≤140737488355328∧ys.length≤9223372036854775807),.slice id 0 ys.length,⟨s.r,upd s.m id (some ⟨T,sz,.row ys,false⟩)⟩)
  | _,_=>none
 | .copyF T sz bytes y=>if id=lentId then none else match s.m id,elemsOf sz s.m (y.ev s.r) with
  | none,some ys=>some (decide (ys.length*bytes≤140737488355328∧ys.length≤9223372036854775807),.slice id 0 ys.length,⟨s.r,upd s.m id (some ⟨T,sz,.row ys,true⟩)⟩)
  | _,_=>none
 | .fnv fn x y=>match opdsD s.r s.m x,opdsD s.r s.m y with
  | some l,some k=>some (true,.p (.fn fn l k),s)
  | _,_=>none
 | .index x i=>match x.ev s.r,asI (i.ev s.r) with
  | .p (.str t),some n=>some (decide (0≤n∧n<t.length),.p (.int .u8 ((t.getD n.toNat 0).toNat:Int)),s)
  | _,_=>none
 | .extract x i=>match x.ev s.r with
  | .p (.tup l)=>(l[i]?).map fun d=>(true,.p d,s)
  | .tup l=>(l[i]?).map fun d=>(true,d,s)
  | _=>none
 | .mm mx x y=>match x.ev s.r,y.ev s.r with
  | .p (.int k p),.p (.int k' q)=>if k=k' then some (true,.p (.int k (if mx then (if q > p then q else p) else (if q<p then q else p))),s) else none
  | _,_=>none
 | .lenS x=>match x.ev s.r with
  | .p (.str t)=>some (true,.p (.int .i64 t.length),s)
  | _=>none
 | .len x=>match x.ev s.r with
  | .p (.list _ _ t)=>some (true,.p (.int .i64 t.length),s)
  | .slice _ _ n=>some (true,.p (.int .i64 n),s)
  | .nils _ _=>some (true,.p (.int .i64 0),s)
  | .arr _ _ n=>some (true,.p (.int .i64 n),s)
  | _=>none
 | _=>none
def frzS (id:Nat) (s:St):St:=if id=lentId then s else match s.m id with
 | some o=>⟨s.r,upd s.m id (some ⟨o.T,o.sz,o.cont,true⟩)⟩
 | none=>s
def AObj.forget (id:Nat) (o:AObj):AObj:=match o.cont with
 | .box v=>match v.forget id with
  | .und=>⟨o.T,o.sz,.junk,o.frz⟩
  | u=>⟨o.T,o.sz,.box u,o.frz⟩
 | _=>o
def forgetR (id:Nat) (r:Nat→AV):Nat→AV:=fun t=>(r t).forget id
def forgetM (id:Nat) (m:Mem):Mem:=fun j=>(m j).map (AObj.forget id)
def evApp (T sz bytes:Nat) (x y:Opd) (id:Nat) (s:St):Option (Bool × AV × St):=
 match elemsOf sz s.m (y.ev s.r) with
 | none=>none
 | some ys=>match x.ev s.r with
  | .nils _ sz'=>match s.m id with
   | none=>if sz'=sz then some (decide (ys.length*bytes≤140737488355328∧ys.length≤9223372036854775807),.slice id 0 ys.length,⟨s.r,upd s.m id (some ⟨T,sz,.row ys,false⟩)⟩) else none
   | some _=>none
  | .slice i 0 n=>match s.m i with
   | some ⟨T',sz',.row l,false⟩=>if sz'=sz∧T'=T∧n=l.length∧i≠lentId then
     some (decide ((n+ys.length)*bytes≤140737488355328∧n+ys.length≤9223372036854775807),.slice i 0 (n+ys.length),⟨forgetR i s.r,upd (forgetM i s.m) i (some ⟨T,sz,.row (l++ys),false⟩)⟩) else none
   | _=>none
  | _=>none
end Go.Proofs.Ytlnhembcfhfpkaa.M
end

section
namespace Go.Proofs.Ytlnhembcfhfpkaa.M
open Go.RowKit
def aggT:TypeDesc→Bool
 | .struct _=>true
 | .array _ _=>true
 | _=>false
def TyOk (P:Program) (T:TypeId) (ag:Bool) (sz:Nat):Prop:=∃ d i,P.underlying T=some d∧aggT d=ag∧P.info? T=some i∧i.size=sz
section
variable {P:Program} {w:World}
theorem run_isAgg {T:TypeId} {ag:Bool} {sz:Nat} (h:TyOk P T ag sz):(isAgg T).run P w = .ok ag w:=by
 obtain⟨d,i,h1,h2,h3,h4⟩:=h
 subst h2
 unfold isAgg
 simp only[Sem.run_bind,run_underlying h1,Result.andThen]
 cases d<;>rfl
theorem run_sizeOf {T:TypeId} {ag:Bool} {sz:Nat} (h:TyOk P T ag sz):(sizeOf T).run P w = .ok sz w:=by
 obtain⟨d,i,h1,h2,h3,h4⟩:=h
 simp[sizeOf,typeInfo,h3,h4]
def rd (c:Array Value) (o n:Nat):Array Value:=((List.range n).map fun j=>c.getD (o+j) undef).toArray
@[simp] theorem rd_size (c:Array Value) (o n:Nat):(rd c o n).size=n:=by simp[rd]
theorem rd_get (c:Array Value) (o n i:Nat) (h:i<n):(rd c o n).getD i undef=c.getD (o+i) undef:=by
 simp[rd,Array.getD_eq_getD_getElem?,h]
theorem add_mid (b o j:Nat):(⟨b,o,none⟩:Addr).add j=⟨b,o+j,none⟩:=by
 unfold Addr.add;split<;>simp_all
theorem cell_at {b o:Nat} {c:Array Value} {T:TypeId} {fr:Nat × Nat} (hb:w.heap[b]? = some (.cells c T fr)) (ho:o<c.size):w.cell? ⟨b,o,none⟩=some (c.getD o undef):=by
 rw[cell_of_row w b o c T fr hb]
 simp[ho]
theorem run_cells {b o n:Nat} {c:Array Value} {T:TypeId} {fr:Nat × Nat} (hb:w.heap[b]? = some (.cells c T fr)) (hn:o+n≤c.size):(loadCells ⟨b,o,none⟩ n).run P w = .ok (rd c o n) w:=by
 rw[run_loadCells (P:=P) w ⟨b,o,none⟩ n (fun j=>c.getD (o+j) undef) (fun j hj=>by rw[add_mid];exact cell_at hb (by omega))]
 rfl
theorem run_loadAgg {T:TypeId} {b o n:Nat} {c:Array Value} {T':TypeId} {fr:Nat × Nat} (hT:TyOk P T true n) (hb:w.heap[b]? = some (.cells c T' fr)) (hn:o+n≤c.size) :
  (loadVar T ⟨b,o,none⟩).run P w = .ok (.agg (rd c o n)) w:=by
 unfold loadVar
 simp only[Sem.run_bind,run_isAgg hT,Result.andThen,if_true,run_sizeOf hT,run_cells hb hn]
 rfl
theorem run_loadOne {T:TypeId} {b o n:Nat} {c:Array Value} {T':TypeId} {fr:Nat × Nat} (hT:TyOk P T false n) (hb:w.heap[b]? = some (.cells c T' fr)) (hn:o<c.size) :
  (loadVar T ⟨b,o,none⟩).run P w = .ok (c.getD o undef) w:=by
 unfold loadVar
 simp only[Sem.run_bind,run_isAgg hT,Result.andThen,Bool.false_eq_true,if_false]
 simp[cell_at hb hn]
theorem run_storeAt {T:TypeId} {ag:Bool} {b o n:Nat} {c:Array Value} {T':TypeId} {fr:Nat × Nat} {v:Value} (hT:TyOk P T ag n) (hb:w.heap[b]? = some (.cells c T' fr)) (hn:o+n≤c.size) (hv:v.cells.size=n)
  (hfr:∀ x,x<c.size→(decide (fr.1≤x)&&decide (x<fr.2))=false) (h1:∀ u∈v.cells.toList,u.oneCell'=true) :
  (Instr.storeAt T (.pointer (some ⟨b,o,none⟩)) v).run P w = .ok () (w.setCells b o v.cells.toList):=by
 have hl:v.cells.toList.length=n:=by simpa using hv
 have:=run_storeCells_cells (P:=P) b o v.cells.toList 0 w (fun j hj=>by rw[Nat.add_zero,cell_at hb (by omega)];rfl) (fun j hj=>by
  rw[Nat.add_zero]
  have:=hfr (o+j) (by omega)
  simp only[World.frozen?,hb]
  exact this) h1
 rw[Nat.add_zero] at this
 unfold Instr.storeAt Instr.sureAddr storeVar
 simp only[Sem.run_bind,Result.andThen,run_sizeOf hT,hv,ne_eq,not_true,if_false]
 simp[this]
def setC (c:Array Value):Nat→List Value→Array Value
 | _,[]=>c
 | o,v::r=>setC (c.setIfInBounds o v) (o+1) r
theorem heap_setCells {b:Nat} {T:TypeId} {fr:Nat × Nat}:∀ (vs:List Value) (o:Nat) (w:World) (c:Array Value),w.heap[b]? = some (.cells c T fr)→(w.setCells b o vs).heap[b]? = some (.cells (setC c o vs) T fr)
 | [],_,_,_,h=>h
 | v::r,o,w,c,h=>by
  rw[World.setCells,setC]
  refine heap_setCells r (o+1) _ _ ?_
  simp[World.setCell,Array.getElem?_modify,h]
theorem heap_setCells_ne {b b':Nat} (hne:b'≠b):∀ (vs:List Value) (o:Nat) (w:World),(w.setCells b o vs).heap[b']? = w.heap[b']?
 | [],_,_=>rfl
 | v::r,o,w=>by
  rw[World.setCells,heap_setCells_ne hne r (o+1)]
  exact Below.heap_setCell _ _ _ _ hne
theorem below_setCells {B b:Nat} (hb:B≤b):∀ (vs:List Value) (o:Nat) (w:World),Below B w (w.setCells b o vs)
 | [],_,_=>Below.refl _ _
 | v::r,o,_=>((Below.refl _ _).setCell (p:=⟨b,o,none⟩) hb v).trans (below_setCells hb r (o+1) _)
theorem size_setCells {b:Nat}:∀ (vs:List Value) (o:Nat) (w:World),(w.setCells b o vs).heap.size=w.heap.size
 | [],_,_=>rfl
 | v::r,o,_=>by rw[World.setCells,size_setCells r (o+1)];simp[World.setCell]
@[simp] theorem size_setC:∀ (vs:List Value) (o:Nat) (c:Array Value),(setC c o vs).size=c.size
 | [],_,_=>rfl
 | v::r,o,c=>by rw[setC,size_setC r (o+1)];simp
theorem setC_out:∀ (vs:List Value) (o:Nat) (c:Array Value) (i:Nat),(i<o∨o+vs.length≤i)→(setC c o vs).getD i undef=c.getD i undef
 | [],_,_,_,_=>rfl
 | v::r,o,c,i,h=>by
  simp only[List.length_cons] at h
  rw[setC,setC_out r (o+1) _ i (by omega)]
  simp only[Array.getD_eq_getD_getElem?]
  rw[Array.getElem?_setIfInBounds_ne (by omega)]
theorem setC_in:∀ (vs:List Value) (o:Nat) (c:Array Value) (i:Nat),o+vs.length≤c.size→i<vs.length→(setC c o vs).getD (o+i) undef=vs.getD i undef
 | v::r,o,c,0,hc,_=>by
  simp only[List.length_cons] at hc
  rw[setC,setC_out r (o+1) _ _ (by omega)]
  simp only[Array.getD_eq_getD_getElem?,Nat.add_zero,Array.getElem?_setIfInBounds_self,List.getD_cons_zero]
  rw[if_pos (by omega)];rfl
 | v::r,o,c,i+1,hc,hi=>by
  simp only[List.length_cons] at hc hi
  have:=setC_in r (o+1) (c.setIfInBounds o v) i (by simp;omega) (by omega)
  rw[setC,show o+(i+1)=o+1+i by omega,this]
  simp
end
section
variable {w0:World} {base:Bs} {nt:Nat} {loc:Locs} {s:St} {a:Act} {w:World}
theorem ExtL.set {B:Bs} {a u:World} (h:ExtL B a u) {b p:Nat} (hb:a.heap.size≤b∨B.lent b) {vs:List Value} {c0:Array Value} {T0:TypeId} {fr0:Nat × Nat} (hc0:u.heap[b]? = some (.cells c0 T0 fr0)):ExtL B a (u.setCells b p vs):=by
 have h0:=below_setCells (B:=0) (Nat.zero_le b) vs p u
 refine⟨h0.os.trans h.os,h0.tape.trans h.tape,h0.output.trans h.output,by rw[size_setCells];exact h.size,fun k hk hl => ?_,fun k c T fr hc => ?_,fun k c T fr hk hc => ?_⟩
 ·rw[heap_setCells_ne (fun e=>by
                   rcases hb with hb | hb;· omega
                   ·exact hl (e ▸ hb))]
  exact h.block k hk hl
 ·obtain⟨c',h1,h2⟩:=h.lentB k c T fr hc
  by_cases e:k=b
  ·subst e
   exact⟨setC c' p vs,by rw[size_setC];exact h1,heap_setCells _ _ _ _ h2⟩
  ·exact⟨c',h1,by rw[heap_setCells_ne e];exact h2⟩
 ·by_cases e:k=b
  ·subst e
   rw[heap_setCells _ _ _ _ hc0] at hc
   injection hc with hc
   injection hc with h1 h2 h3
   obtain⟨c',g1,g2⟩:=h.lentT k c0 T0 fr0 hk hc0
   refine⟨c',?_,?_⟩
   ·rw[g1,←h1,size_setC]
   ·rw[g2,h2,h3]
  ·rw[heap_setCells_ne e] at hc
   exact h.lentT k c T fr hk hc
theorem Rel.write (h:Rel w0 base nt loc s a w) {id:Nat} {o:AObj} {L:Loc} (ho:s.m id=some o) (hf:o.frz=false) (hL:loc id=some L) (hn:L.nil=false) {k:Cont} {p:Nat} {vs:List Value}
  (hk:∀ (w':World) (c:Array Value),w.heap.size≤w'.heap.size→(∀ b,NB base s.m loc w b→w'.heap[b]? = w.heap[b]?)→ContOk w' (NB base s.m loc w') loc c L.o o.sz o.cont→c.size=L.n→ContOk w' (NB base s.m loc w') loc (setC c p vs) L.o o.sz k) :
  Rel w0 base nt loc ⟨s.r,upd s.m id (some ⟨o.T,o.sz,k,false⟩)⟩ a (w.setCells L.b p vs):=by
 obtain⟨L',hL',hok⟩:=h.objs id o ho
 rw[hL] at hL'
 cases hL'
 obtain⟨c,fr,h1,h2,h3,h4,h5⟩:=hok.at_ hn
 have h4:=h4 hf
 have hlt:=h.obj_lt ho hL hn
 have hown:∀ b,ownB (upd s.m id (some ⟨o.T,o.sz,k,false⟩)) loc b↔ownB s.m loc b:=by
  intro b
  constructor
  ·rintro⟨i,o',L',ho',hf',hL',hn',hb'⟩
   by_cases e:i=id
   ·subst e
    exact⟨i,o,L',ho,hf,hL',hn',hb'⟩
   ·rw[upd_ne _ _ e] at ho'
    exact⟨i,o',L',ho',hf',hL',hn',hb'⟩
  ·rintro⟨i,o',L',ho',hf',hL',hn',hb'⟩
   by_cases e:i=id
   ·subst e
    exact⟨i,_,L',upd_same _ _ _,rfl,hL',hn',hb'⟩
   ·exact⟨i,o',L',by rw[upd_ne _ _ e];exact ho',hf',hL',hn',hb'⟩
 have hself:ownB s.m loc L.b:=⟨id,o,L,ho,hf,hL,hn,rfl⟩
 have hsz:(w.setCells L.b p vs).heap.size=w.heap.size:=size_setCells _ _ _
 have hs:∀ b,b≠L.b→(w.setCells L.b p vs).heap[b]? = w.heap[b]?:=fun b hb=>heap_setCells_ne hb _ _ _
 have hNs:∀ b,NB base s.m loc w b→(w.setCells L.b p vs).heap[b]? = w.heap[b]?:=fun b hb=>hs b (fun e=>hb.2.2 (e ▸ hself))
 have hN:∀ b,NB base s.m loc w b→NB base (upd s.m id (some ⟨o.T,o.sz,k,false⟩)) loc (w.setCells L.b p vs) b:=fun b hb=>⟨by rw[hsz];exact hb.1,hb.2.1,fun e=>hb.2.2 ((hown b).1 e)⟩
 have hN':∀ b,NB base s.m loc (w.setCells L.b p vs) b→NB base (upd s.m id (some ⟨o.T,o.sz,k,false⟩)) loc (w.setCells L.b p vs) b:=fun b hb=>⟨hb.1,hb.2.1,fun e=>hb.2.2 ((hown b).1 e)⟩
 refine⟨?_,h.defers,h.size,h.low,?_,fun t=>(h.tmps t).mono hNs hN (fun _ _ x=>x),?_,?_,h.keepL.put fun _=>⟨_,rfl,rfl⟩⟩
 ·exact h.ext.set h4.1 h1
 ·intro i hi
  dsimp only at hi
  by_cases e:i=id
  ·subst e;rw[upd_same] at hi;cases hi
  ·rw[upd_ne _ _ e] at hi;exact h.dom i hi
 ·intro i o' ho'
  dsimp only at ho'
  by_cases e:i=id
  ·subst e
   rw[upd_same] at ho'
   cases ho'
   refine⟨L,hL,hok.sz,fun e=>(by rw[hn] at e;cases e),fun _=>⟨setC c p vs,fr,heap_setCells _ _ _ _ h1,by simpa using h2,?_,fun _=>h4,by simp⟩⟩
   have:=hk (w.setCells L.b p vs) c (by rw[hsz];exact Nat.le_refl _) hNs (h3.mono hNs (fun b hb=>⟨by rw[hsz];exact hb.1,hb.2⟩) (fun _ _ x=>x)) h2
   exact this.mono (fun _ _=>rfl) hN' (fun _ _ x=>x)
  ·rw[upd_ne _ _ e] at ho'
   obtain⟨L',hL',hok'⟩:=h.objs i o' ho'
   refine⟨L',hL',hok'.sz,hok'.nil,fun hnil => ?_⟩
   obtain⟨c',fr',g1,g2,g3,g4,g5⟩:=hok'.at_ hnil
   have hne:L'.b≠L.b:=fun hb=>by
    have:=h.inj id i o o' L L' ho ho' hf hL hL' hn hnil hb.symm
    exact e this.symm
   exact⟨c',fr',(hs _ hne).trans g1,g2,g3.mono hNs hN (fun _ _ x=>x),g4,fun hf'=>hN _ (g5 hf')⟩
 ·intro i i' o1 o2 L1 L2 ho1 ho2 hf1 hL1 hL2 hn1 hn2 hb
  dsimp only at ho1 ho2
  have old:∀ j oj,upd s.m id (some ⟨o.T,o.sz,k,false⟩) j=some oj→∃ oj',s.m j=some oj'∧oj'.frz=oj.frz:=by
   intro j oj hj
   by_cases e:j=id
   ·subst e;rw[upd_same] at hj;cases hj;exact⟨o,ho,hf⟩
   ·rw[upd_ne _ _ e] at hj;exact⟨oj,hj,rfl⟩
  obtain⟨o1',g1,g1'⟩:=old i o1 ho1
  obtain⟨o2',g2,_⟩:=old i' o2 ho2
  exact h.inj i i' o1' o2' L1 L2 g1 g2 (g1'.trans hf1) hL1 hL2 hn1 hn2 hb
theorem Rel.adopt (h:Rel w0 base nt loc s a w) {w':World} (hext:Ext w w') {id:Nat} (hid:s.m id=none) {T:TypeId} {sz:Nat} {l:List D} (L:Loc) (hsz:L.sz=sz) (hnl:L.nil=true→l=[])
  (hobj:L.nil=false→w.heap.size≤L.b∧∃ c fr,w'.heap[L.b]? = some (.cells c T fr)∧c.size=L.n∧ContOk w' (fun x=>(x<w'.heap.size∧¬ (base.own x∨ownB s.m loc x))∧x≠L.b) (fun _=>none) c L.o sz (.row l)∧∀ x,x<L.n→(decide (fr.1≤x)&&decide (x<fr.2))=false) :
  Rel w0 base nt (upd loc id (some L)) ⟨s.r,upd s.m id (some ⟨T,sz,.row l,false⟩)⟩ a w':=by
 have hloc:=h.dom id hid
 have hl:∀ i K,loc i=some K→upd loc id (some L) i=some K:=fun i K hi=>by
  rw[upd_ne];exact hi
  rintro rfl;rw[hloc] at hi;cases hi
 have hs:∀ b,NB base s.m loc w b→w'.heap[b]? = w.heap[b]?:=fun b hb=>hext.block b hb.1
 have hn:∀ b,NB base s.m loc w b→NB base (upd s.m id (some ⟨T,sz,.row l,false⟩)) (upd loc id (some L)) w' b:=by
  rintro b ⟨h1,h2,h3⟩
  refine⟨Nat.lt_of_lt_of_le h1 hext.size,h2,?_⟩
  rintro⟨i,o,K,ho,hf,hK,hnil,hb⟩
  by_cases hi:i=id
  ·subst hi
   rw[upd_same] at hK
   cases hK
   have:=(hobj hnil).1
   omega
  ·rw[upd_ne _ _ hi] at ho hK
   exact h3 ⟨i,o,K,ho,hf,hK,hnil,hb⟩
 refine⟨h.ext.tr hext,h.defers,h.size,h.low,?_,fun t=>(h.tmps t).mono hs hn hl,?_,?_,h.keepL.new hid _ _⟩
 ·intro i hi
  dsimp only at hi
  by_cases e:i=id
  ·subst e;rw[upd_same] at hi;cases hi
  ·rw[upd_ne _ _ e] at hi ⊢;exact h.dom i hi
 ·intro i o ho
  dsimp only at ho
  by_cases e:i=id
  ·subst e
   rw[upd_same] at ho
   cases ho
   refine⟨L,upd_same _ _ _,hsz,fun hnil=>by rw[hnl hnil],fun hnil => ?_⟩
   obtain⟨g1,c,fr,g2,g3,g4,g5⟩:=hobj hnil
   refine⟨c,fr,g2,g3,⟨g4.1,g4.2.1,fun p0 e0 j0 d0 q1 q2=>⟨(g4.2.2 p0 e0 j0 d0 q1 q2).1,(g4.2.2 p0 e0 j0 d0 q1 q2).2.mono (fun _ _=>rfl) fun b hb=>⟨hb.1.1,fun g=>hb.1.2 (.inl g),?_⟩⟩⟩,fun _=>⟨.inl (Nat.le_trans h.ext.size g1),g5⟩,by simp⟩
   rintro⟨i',o',K,k1,k2,k3,k4,k5⟩
   by_cases e':i'=i
   ·subst e'
    dsimp only at k1 k3
    rw[upd_same] at k3
    cases k3
    exact hb.2 k5.symm
   ·dsimp only at k1 k3
    rw[upd_ne _ _ e'] at k1 k3
    exact hb.1.2 (.inr ⟨i',o',K,k1,k2,k3,k4,k5⟩)
  ·rw[upd_ne _ _ e] at ho
   obtain⟨K,hK,hok⟩:=h.objs i o ho
   refine⟨K,hl i K hK,hok.sz,hok.nil,fun hnil => ?_⟩
   obtain⟨c',fr,h1,h2,h3,h4,h5⟩:=hok.at_ hnil
   have hlt:=h.obj_lt ho hK hnil
   exact⟨c',fr,(hext.block _ hlt).trans h1,h2,h3.mono hs hn hl,h4,fun hf=>hn _ (h5 hf)⟩
 ·intro i i' o o' K K' ho ho' hf hK hK' hnil hnil' hb
  dsimp only at ho ho'
  by_cases e:i=id
  ·subst e
   rw[upd_same] at hK
   cases hK
   by_cases e':i'=i
   ·exact e'.symm
   ·rw[upd_ne _ _ e'] at ho' hK'
    have:=h.obj_lt ho' hK' hnil'
    have:=(hobj hnil).1
    omega
  ·rw[upd_ne _ _ e] at ho hK
   by_cases e':i'=id
   ·subst e'
    rw[upd_same] at hK'
    cases hK'
    have:=h.obj_lt ho hK hnil
    have:=(hobj hnil').1
    omega
   ·rw[upd_ne _ _ e'] at ho' hK'
    exact h.inj i i' o o' K K' ho ho' hf hK hK' hnil hnil' hb
theorem Rel.turn (h:Rel w0 base nt loc s a w) {id:Nat} {o:AObj} {L:Loc} (ho:s.m id=some o) (hf:o.frz=false) (hL:loc id=some L) (hn:L.nil=false) {w':World} {c c':Array Value} {fr:Nat × Nat} {l':List D} {B:Bs} (hw:ExtL B w w')
  (hB:∀ b,B.lent b→b=L.b) (hc:w.heap[L.b]? = some (.cells c o.T fr)) (hc':w'.heap[L.b]? = some (.cells c' o.T fr)) (hcs:c'.size=c.size)
  (hk:ContOk w' (fun b=>b<w'.heap.size∧¬ (base.own b∨ownB s.m loc b)) (fun _=>none) c' L.o o.sz (.row l')) :
  Rel w0 base nt loc ⟨s.r,upd s.m id (some ⟨o.T,o.sz,.row l',false⟩)⟩ a w':=by
 obtain⟨L',hL',hok⟩:=h.objs id o ho
 rw[hL] at hL'
 cases hL'
 obtain⟨c0,fr0,h1,h2,h3,h4,h5⟩:=hok.at_ hn
 rw[hc] at h1
 injection h1 with h1
 injection h1 with e1 e2 e3
 subst e1 e3
 have h4:=h4 hf
 have hown:∀ b,ownB (upd s.m id (some ⟨o.T,o.sz,.row l',false⟩)) loc b↔ownB s.m loc b:=by
  intro b
  constructor
  ·rintro⟨i,o',L',ho',hf',hL',hn',hb'⟩
   by_cases e:i=id
   ·subst e
    exact⟨i,o,L',ho,hf,hL',hn',hb'⟩
   ·rw[upd_ne _ _ e] at ho'
    exact⟨i,o',L',ho',hf',hL',hn',hb'⟩
  ·rintro⟨i,o',L',ho',hf',hL',hn',hb'⟩
   by_cases e:i=id
   ·subst e
    exact⟨i,_,L',upd_same _ _ _,rfl,hL',hn',hb'⟩
   ·exact⟨i,o',L',by rw[upd_ne _ _ e];exact ho',hf',hL',hn',hb'⟩
 have hself:ownB s.m loc L.b:=⟨id,o,L,ho,hf,hL,hn,rfl⟩
 have hs:∀ b,b<w.heap.size→b≠L.b→w'.heap[b]? = w.heap[b]?:=fun b hb hne=>hw.block b hb fun e=>hne (hB b e)
 have hNs:∀ b,NB base s.m loc w b→w'.heap[b]? = w.heap[b]?:=fun b hb=>hs b hb.1 (fun e=>hb.2.2 (e ▸ hself))
 have hN:∀ b,NB base s.m loc w b→NB base (upd s.m id (some ⟨o.T,o.sz,.row l',false⟩)) loc w' b:=fun b hb=>⟨Nat.lt_of_lt_of_le hb.1 hw.size,hb.2.1,fun e=>hb.2.2 ((hown b).1 e)⟩
 refine⟨⟨hw.os.trans h.ext.os,hw.tape.trans h.ext.tape,hw.output.trans h.ext.output,Nat.le_trans h.ext.size hw.size,fun k hk' hl => ?_,fun k c1 T fr1 hc1 => ?_,fun k c1 T fr1 hk' hc1 => ?_⟩,h.defers,h.size,h.low,?_,fun t=>(h.tmps t).mono hNs hN (fun _ _ x=>x),?_,?_,h.keepL.put fun _=>⟨_,rfl,rfl⟩⟩
 ·rw[hs k (Nat.lt_of_lt_of_le hk' h.ext.size) (fun e=>by
   subst e
   rcases h4.1 with g | g
   ·omega
   ·exact hl g)]
  exact h.ext.block k hk' hl
 ·obtain⟨c2,g1,g2⟩:=h.ext.lentB k c1 T fr1 hc1
  obtain⟨c3,g3,g4⟩:=hw.lentB k c2 T fr1 g2
  exact⟨c3,g3.trans g1,g4⟩
 ·obtain⟨c2,g1,g2⟩:=hw.lentT k c1 T fr1 (Nat.lt_of_lt_of_le hk' h.ext.size) hc1
  obtain⟨c3,g3,g4⟩:=h.ext.lentT k c2 T fr1 hk' g2
  exact⟨c3,g3.trans g1,g4⟩
 ·intro i hi
  dsimp only at hi
  by_cases e:i=id
  ·subst e;rw[upd_same] at hi;cases hi
  ·rw[upd_ne _ _ e] at hi;exact h.dom i hi
 ·intro i o' ho'
  dsimp only at ho'
  by_cases e:i=id
  ·subst e
   rw[upd_same] at ho'
   cases ho'
   refine⟨L,hL,hok.sz,fun e=>(by rw[hn] at e;cases e),fun _=>⟨c',fr,hc',hcs.trans h2,?_,fun _=>h4,by simp⟩⟩
   exact⟨hk.1,hk.2.1,fun i e j d g1 g2=>⟨(hk.2.2 i e j d g1 g2).1,(hk.2.2 i e j d g1 g2).2.mono (fun _ _=>rfl) fun b hb=>⟨hb.1,fun g=>hb.2 (.inl g),fun g=>hb.2 (.inr ((hown b).1 g))⟩⟩⟩
  ·rw[upd_ne _ _ e] at ho'
   obtain⟨L',hL',hok'⟩:=h.objs i o' ho'
   refine⟨L',hL',hok'.sz,hok'.nil,fun hnil => ?_⟩
   obtain⟨c',fr',g1,g2,g3,g4,g5⟩:=hok'.at_ hnil
   have hne:L'.b≠L.b:=fun hb=>by
    have:=h.inj id i o o' L L' ho ho' hf hL hL' hn hnil hb.symm
    exact e this.symm
   exact⟨c',fr',(hs _ (lt_of_heap g1) hne).trans g1,g2,g3.mono hNs hN (fun _ _ x=>x),g4,fun hf'=>hN _ (g5 hf')⟩
 ·intro i i' o1 o2 L1 L2 ho1 ho2 hf1 hL1 hL2 hn1 hn2 hb
  dsimp only at ho1 ho2
  have old:∀ j oj,upd s.m id (some ⟨o.T,o.sz,.row l',false⟩) j=some oj→∃ oj',s.m j=some oj'∧oj'.frz=oj.frz:=by
   intro j oj hj
   by_cases e:j=id
   ·subst e;rw[upd_same] at hj;cases hj;exact⟨o,ho,hf⟩
   ·rw[upd_ne _ _ e] at hj;exact⟨oj,hj,rfl⟩
  obtain⟨o1',g1,g1'⟩:=old i o1 ho1
  obtain⟨o2',g2,_⟩:=old i' o2 ho2
  exact h.inj i i' o1' o2' L1 L2 g1 g2 (g1'.trans hf1) hL1 hL2 hn1 hn2 hb
end
end Go.Proofs.Ytlnhembcfhfpkaa.M
end

section
namespace Go.Proofs.Ytlnhembcfhfpkaa.M
open Go.RowKit
section
variable {w:World} {N:Nat→Prop} {loc:Locs}
theorem RV.inv {v:Value} {d:D} (h:RV w N loc v (.p d)):V w N v d:=by cases h;assumption
theorem rv_agg {cs:Array Value} {l:List AV} (h1:cs.size=l.length) (h2:∀ d∈l,d.one=true) (h3:∀ i d,l[i]? = some d→RV w N loc (cs.getD i undef) d):RV w N loc (.agg cs) (.agg l):=.agg cs l h1 h2 h3
theorem pureL_spec:∀ {l:List AV} {ds:List D},pureL l=some ds→l.length=ds.length∧∀ (i:Nat) (d:D),ds[i]? = some d→∃ e:AV,l[i]? = some e∧e.pure=some d
 | [],ds,h=>by
  simp only[pureL,Option.some.injEq] at h
  subst h
  exact⟨rfl,fun i d h=>by simp at h⟩
 | v::l,ds,h=>by
  simp only[pureL] at h
  split at h
  ·rename_i d ds' h1 h2
   simp only[Option.some.injEq] at h
   subst h
   obtain⟨g1,g2⟩:=pureL_spec h2
   refine⟨by simp[g1],fun i d' hi => ?_⟩
   match i,hi with
   | 0,hi=>simp at hi;subst hi;exact⟨v,rfl,h1⟩
   | i+1,hi=>simpa using g2 i d' (by simpa using hi)
  ·cases h
theorem RV.pure:∀ {v:Value} {x:AV} {d:D},RV w N loc v x→x.pure=some d→V w N v d:=by
 intro v x d h
 induction h generalizing d with
 | p v e h=>intro hx;simp only[AV.pure,Option.some.injEq] at hx;subst hx;exact h
 | nils T sz=>intro hx;simp only[AV.pure,Option.some.injEq] at hx;subst hx;exact .empty _ _ _ _ (by omega)
 | agg cs l h1 h2 _ ih =>
  intro hx
  simp only[AV.pure,Option.map_eq_some_iff] at hx
  obtain⟨ds,hds,rfl⟩:=hx
  obtain⟨g1,g2⟩:=pureL_spec hds
  refine .agg cs ds (h1.trans g1) (fun e he => ?_) (fun i e hi => ?_)
  ·obtain⟨i,hi⟩:=List.getElem?_of_mem he
   obtain⟨x,hx,hp⟩:=g2 i e hi
   have:=h2 x (List.mem_of_getElem? hx)
   cases x<;>simp[AV.one] at this<;>simp[AV.pure] at hp
   ·subst hp;exact this
   ·subst hp;rfl
  ·obtain⟨x,hx,hp⟩:=g2 i e hi
   exact ih i x hx hp
 | _=>intro hx;simp[AV.pure] at hx
theorem rv_mk {cs:Array Value} {l:List AV} (h1:cs.size=l.length) (h2:∀ d∈l,d.one=true) (h3:∀ i d,l[i]? = some d→RV w N loc (cs.getD i undef) d):RV w N loc (.agg cs) (AV.mk l):=by
 unfold AV.mk
 split
 ·rename_i ds hds
  exact .p _ _ (RV.pure (rv_agg h1 h2 h3) (by simp[AV.pure,hds]))
 ·exact rv_agg h1 h2 h3
theorem rv_get {c:Array Value} {T:TypeId} {fr:Nat × Nat} {b o osz off sz:Nat} {v u:AV} {ag:Bool} {P:Program} {T':TypeId} (hb:w.heap[b]? = some (.cells c T fr)) (ho:o+osz≤c.size) (hl:v.cells.length=osz) (h1:∀ e∈v.cells,e.one=true)
  (hc:∀ j d,v.cells[j]? = some d→RV w N loc (c.getD (o+j) undef) d) (hg:v.get off sz osz ag=some u) (hT:TyOk P T' ag sz) (hs:ag=false→sz=1) :
  ∃ x,(Instr.loadAt T' (.pointer (some ⟨b,o+off,none⟩))).run P w = .ok x w∧RV w N loc x u:=by
 have hload:(Instr.loadAt T' (.pointer (some ⟨b,o+off,none⟩))).run P w=(loadVar T' ⟨b,o+off,none⟩).run P w:=by
  simp[Instr.loadAt,Instr.sureAddr]
 rw[hload]
 have hpart:v.part off sz ag=some u→∃ x,(loadVar T' ⟨b,o+off,none⟩).run P w = .ok x w∧RV w N loc x u:=by
  intro hp
  have hp':partA v.cells off sz ag=some u∨∃ d,v = .p d∧∃ e,d.part off sz ag=some e∧u = .p e:=by
   cases v with
   | p d =>
    simp only[AV.part,Option.map_eq_some_iff] at hp
    obtain⟨e,he,rfl⟩:=hp
    exact .inr ⟨d,rfl,e,he,rfl⟩
   | _=>exact .inl hp
  clear hp
  rcases hp' with hp | ⟨d,rfl,e,hp,rfl⟩
  ·unfold partA at hp
   cases ag with
   | true =>
    simp only[if_true] at hp
    split at hp
    ·rename_i hle
     simp only[Option.some.injEq] at hp
     subst hp
     refine⟨_,run_loadAgg hT hb (by omega),rv_agg (by simp;omega) (fun d hd=>h1 d (List.mem_of_mem_drop (List.mem_of_mem_take hd))) (fun i d hi => ?_)⟩
     have hlt:i<sz:=by have:=(List.getElem?_eq_some_iff.1 hi).1;simp at this;omega
     rw[rd_get _ _ _ _ hlt,Nat.add_assoc]
     refine hc (off+i) d ?_
     rw[List.getElem?_take_of_lt hlt,List.getElem?_drop] at hi
     exact hi
    ·cases hp
   | false =>
    simp only[Bool.false_eq_true,if_false] at hp
    have hlt:=(List.getElem?_eq_some_iff.1 hp).1
    exact⟨_,run_loadOne hT hb (by omega),hc off u hp⟩
  ·have hl':d.cells.length=osz:=by simpa[AV.cells] using hl
   have hV:∀ j e,d.cells[j]? = some e→e.one=true∧V w N (c.getD (o+j) undef) e:=by
    intro j e he
    have hm:(AV.p d).cells[j]? = some (.p e):=by simp[AV.cells,he]
    refine⟨h1 (.p e) (List.mem_of_getElem? hm),?_⟩
    exact (hc j (.p e) hm).inv
   unfold D.part partD at hp
   cases ag with
   | true =>
    simp only[if_true] at hp
    split at hp
    ·rename_i hle
     simp only[Option.some.injEq] at hp
     subst hp
     refine⟨_,run_loadAgg hT hb (by omega),.p _ _ (.agg _ _ (by simp;omega) (fun d' hd => ?_) (fun i d' hi => ?_))⟩
     ·obtain⟨i,hi⟩:=List.getElem?_of_mem (List.mem_of_mem_drop (List.mem_of_mem_take hd))
      exact (hV i d' hi).1
     ·have hlt:i<sz:=by have:=(List.getElem?_eq_some_iff.1 hi).1;simp at this;omega
      rw[rd_get _ _ _ _ hlt,Nat.add_assoc]
      rw[List.getElem?_take_of_lt hlt,List.getElem?_drop] at hi
      exact (hV (off+i) d' hi).2
    ·cases hp
   | false =>
    simp only[Bool.false_eq_true,if_false] at hp
    have hlt:=(List.getElem?_eq_some_iff.1 hp).1
    exact⟨_,run_loadOne hT hb (by omega),.p _ _ (hV off e hp).2⟩
 unfold AV.get at hg
 split at hg
 ·rename_i hcond
  obtain⟨rfl,rfl,hag⟩:=hcond
  simp only[Option.some.injEq] at hg
  subst hg
  cases ag with
  | true =>
   refine⟨_,run_loadAgg hT hb (by omega),?_⟩
   cases v with
   | p d =>
    cases d with
    | agg l =>
     have hl':l.length=sz:=by simpa[AV.cells,D.cells] using hl
     have hm:∀ (j:Nat) (e:D),l[j]? = some e→(AV.p (.agg l)).cells[j]? = some (AV.p e):=fun j e he=>by simp[AV.cells,D.cells,he]
     refine .p _ _ (.agg _ _ (by simp;omega) (fun d' hd => ?_) (fun i d' hi => ?_))
     ·obtain⟨i,hi⟩:=List.getElem?_of_mem hd
      exact h1 (.p d') (List.mem_of_getElem? (hm i d' hi))
     ·have hlt:i<sz:=by have:=(List.getElem?_eq_some_iff.1 hi).1;omega
      rw[rd_get _ _ _ _ hlt]
      exact (hc i _ (hm i d' hi)).inv
    | _=>simp[AV.isAgg,D.isAgg] at hag
   | agg l =>
    have hl':l.length=sz:=by simpa[AV.cells] using hl
    refine rv_agg (by simp;omega) (fun d' hd=>h1 d' hd) (fun i d' hi => ?_)
    have hlt:i<sz:=by have:=(List.getElem?_eq_some_iff.1 hi).1;omega
    rw[rd_get _ _ _ _ hlt]
    exact hc i d' hi
   | _=>simp[AV.isAgg] at hag
  | false =>
   have hs':=hs rfl
   subst hs'
   refine⟨_,run_loadOne hT hb (by omega),?_⟩
   rw[Nat.add_zero]
   have h0:v.cells[0]? = some v:=by
    cases v with
    | p d=>cases d<;>simp[AV.isAgg,D.isAgg] at hag<;>rfl
    | agg l=>simp[AV.isAgg] at hag
    | und=>simp[AV.isAgg] at hag
    | _=>rfl
   have:=hc 0 v h0
   rwa[Nat.add_zero] at this
 ·exact hpart hg
end
end Go.Proofs.Ytlnhembcfhfpkaa.M
end

section
namespace Go.Proofs.Ytlnhembcfhfpkaa.M
open Go.RowKit
def opd (P:Program) (T:Option TypeId):Operand→Opd
 | .tmp t => .t t
 | .const (.bool b) => .k (.p (.bool b))
 | .const (.int k n) => .k (.p (.int k n))
 | .const (.string s) => .k (.p (.str s.data.toList))
 | .const (.pointer none) => .k (.p .nilp)
 | .const (.slice none 0 0)=>match T.bind P.underlying with
  | some (.slice e) => .k (.nils e (P.cellsOf e))
  | _ => .k .und
 | .func f => .k (.p (.fn (.func f) [] []))
 | _ => .k .und
theorem opd_ok (P:Program) (T:Option TypeId) (x:Operand) {w:World} {N:Nat→Prop} {loc:Locs} {a:Act} {r:Nat→AV} (h:∀ t,RV w N loc (a.tmps.getD t undef) (r t)) :
  RV w N loc (a.eval x) ((opd P T x).ev r):=by
 unfold opd
 split
 ·exact h _
 ·exact .p _ _ (.bool _)
 ·exact .p _ _ (.int _ _)
 ·exact .p _ _ (.str _)
 ·exact .p _ _ .nilp
 ·split
  ·exact .nils _ _
  ·exact .und _
 ·exact .p _ _ (.fn _ _ _ [] [] rfl rfl (fun i d h=>by simp at h) (fun i d h=>by simp at h))
 ·exact .und _
def tyOf (P:Program) (T:TypeId):Option (Bool × Nat):=match P.underlying T,P.info? T with
 | some d,some i=>some (aggT d,i.size)
 | _,_=>none
theorem tyOf_ok {P:Program} {T:TypeId} {ag:Bool} {sz:Nat} (h:tyOf P T=some (ag,sz)):TyOk P T ag sz:=by
 unfold tyOf at h
 split at h
 ·rename_i d i h1 h2
  simp only[Option.some.injEq,Prod.mk.injEq] at h
  exact⟨d,i,h1,h.1,h2,h.2⟩
 ·cases h
def zeroD (P:Program):Nat→TypeId→Option (List D)
 | 0,_=>none
 | n+1,T=>match P.underlying T with
  | some .bool=>some [.bool false]
  | some (.int k)=>some [.int k 0]
  | some .string=>some [.str []]
  | some (.pointer _)=>some [.nilp]
  | some (.slice e)=>some [.list e (P.cellsOf e) []]
  | some (.struct fs)=>(fs.toList.mapM fun f=>zeroD P n f.type).map List.flatten
  | some (.array k e)=>(zeroD P n e).map fun l=>(List.replicate k l).flatten
  | _=>none
def chkD:Value→D→Bool
 | .bool a,.bool b=>a == b
 | .int k a,.int k' b=>k == k'&&a == b
 | .string s,.str l=>s.data.toList == l
 | .pointer none,.nilp=>true
 | .slice none 0 0,.list _ _ []=>true
 | _,_=>false
def chkL:List Value→List D→Bool
 | [],[]=>true
 | v::vs,d::ds=>chkD v d&&chkL vs ds
 | _,_=>false
theorem chkD_ok {v:Value} {d:D} (h:chkD v d=true) (w:World) (N:Nat→Prop):V w N v d∧d.one=true:=by
 unfold chkD at h
 split at h
 ·have:=eq_of_beq h;subst this;exact⟨.bool _,rfl⟩
 ·simp only[Bool.and_eq_true,beq_iff_eq] at h;obtain⟨rfl,rfl⟩:=h;exact⟨.int _ _,rfl⟩
 ·simp only[beq_iff_eq] at h;subst h;exact⟨.str _,rfl⟩
 ·exact⟨.nilp,rfl⟩
 ·exact⟨.empty _ _ _ _ (by omega),rfl⟩
 ·cases h
theorem chkL_ok:∀ {vs:List Value} {ds:List D},chkL vs ds=true→vs.length=ds.length∧∀ i d,ds[i]? = some d→d.one=true∧∀ (w:World) (N:Nat→Prop),V w N (vs.getD i undef) d
 | [],[],_=>⟨rfl,fun i d h=>by simp at h⟩
 | v::vs,d::ds,h=>by
  simp only[chkL,Bool.and_eq_true] at h
  obtain⟨g1,g2⟩:=chkL_ok h.2
  refine⟨by simp[g1],fun i d' hi => ?_⟩
  match i,hi with
  | 0,hi=>simp at hi;subst hi;exact⟨(chkD_ok h.1 default (fun _=>True)).2,fun w N=>(chkD_ok h.1 w N).1⟩
  | i+1,hi=>simpa using g2 i d' (by simpa using hi)
 | [],_::_,h=>by simp[chkL] at h
 | _::_,[],h=>by simp[chkL] at h
def zeroOf (P:Program) (T:TypeId):Option (List D × Bool × Nat):=match P.info? T,tyOf P T,zeroD P 20 T with
 | some i,some (ag,sz),some l=>match i.zero with
  | some z=>if chkL z.cells.toList l&&l.length == sz&&(ag||sz == 1) then some (l,ag,sz) else none
  | none=>none
 | _,_,_=>none
def ZOk (P:Program) (T:TypeId) (l:List D) (ag:Bool) (sz:Nat):Prop:=∃ i z,P.info? T=some i∧i.zero=some z∧TyOk P T ag sz∧chkL z.cells.toList l=true∧l.length=sz∧(ag=false→sz=1)
theorem zeroOf_ok {P:Program} {T:TypeId} {l:List D} {ag:Bool} {sz:Nat} (h:zeroOf P T=some (l,ag,sz)):ZOk P T l ag sz:=by
 unfold zeroOf at h
 split at h
 ·rename_i i ag' sz' l' h1 h2 h3
  split at h
  ·rename_i z hz
   split at h
   ·rename_i hc
    simp only[Bool.and_eq_true,Bool.or_eq_true,beq_iff_eq] at hc
    simp only[Option.some.injEq,Prod.mk.injEq] at h
    obtain⟨rfl,rfl,rfl⟩:=h
    exact⟨i,z,h1,hz,tyOf_ok h2,hc.1.1,hc.1.2,fun e=>hc.2.resolve_left (by simp[e])⟩
   ·cases h
  ·cases h
 ·cases h
def zeroA (l:List D) (ag:Bool):AV:=if ag then .p (.agg l) else match l with
 | [.list T sz []] => .nils T sz
 | [d] => .p d
 | _ => .und
def avOk (v:AV) (sz:Nat):Bool:=v.cells.length == sz&&v.cells.all AV.one
def intStruct (P:Program) (T:TypeId):Bool:=match P.underlying T with
 | some (.struct fs) => !P.stoodInHeld T && !P.eqGuardType P.depth T && fs.toList.zipIdx.all fun (f, i) => f.offset == i && f.name != "_" && (match P.underlying f.type with | some (.int _) => true | _ => false)
 | _=>false
def intArr (P:Program) (T e:TypeId):Bool:=!P.eqGuardType P.depth T&&(P.cellsOf e == 1)&&(P.info? e).isSome&&(match P.underlying e with | some (.int _)=>true | _=>false)
def appOp (e sz b:Nat) (x y:Opd):AOp:=match x with
 | .k (.nils e2 sz2)=>if sz2 == sz&&e2 == e then .copyS e sz b y else .append e sz b x y
 | _ => .append e sz b x y
theorem appOp_cases (e sz b:Nat) (x y:Opd):appOp e sz b x y = .append e sz b x y∨(appOp e sz b x y = .copyS e sz b y∧x = .k (.nils e sz)):=by
 unfold appOp
 split
 ·rename_i e2 sz2
  split
  ·rename_i hh
   simp only[Bool.and_eq_true,beq_iff_eq] at hh
   obtain⟨rfl,rfl⟩:=hh
   exact .inr ⟨rfl,rfl⟩
  ·exact .inl rfl
 ·exact .inl rfl
theorem appOp_is {e sz b:Nat} {x y:Opd} {z:AOp} (h:appOp e sz b x y=z):(∃ T sz b x y,z = .append T sz b x y)∨∃ T sz b y,z = .copyS T sz b y:=by
 rcases appOp_cases e sz b x y with h1 | ⟨h1,-⟩<;>rw[h1] at h<;>subst h
 ·exact .inl ⟨_,_,_,_,_,rfl⟩
 ·exact .inr ⟨_,_,_,_,rfl⟩
def aop (P:Program) (o:Oper):Option AOp:=
 match o.op with
 | .move x=>some (.mov (opd P (some o.type) x))
 | .assign x=>some (.mov (opd P (some o.type) x))
 | .nilCheck x=>some (.nilCheck (opd P none x))
 | .pick c a b=>some (.pick (opd P none c) (opd P (some o.type) a) (opd P (some o.type) b))
 | .alloc T=>match zeroOf P T with
  | some (l,ag,sz)=>if avOk (zeroA l ag) sz then some (.alloc T sz (zeroA l ag)) else none
  | none=>none
 | .box T x=>match tyOf P T with
  | some (_,sz)=>some (.box T sz (opd P (some T) x))
  | none=>none
 | .build T parts=>match zeroOf P T,P.underlying T with
  | some (l,true,_),some (.struct fs)=>match fs.toList.mapM (fun f=>(P.info? f.type).map fun i=>(f.offset,i.size)) with
   | some places=>match parts.toList.mapM (fun p:Nat × Operand=>match places[p.1]?,fs[p.1]? with
     | some (off,sz),some f=>some (off,sz,opd P (some f.type) p.2)
     | _,_=>none) with
    | some ps=>some (.build (l.map .p) ps)
    | none=>none
   | none=>none
  | some (l,true,_),some (.array _ e)=>match P.info? e with
   | some i=>some (.build (l.map .p) (parts.toList.map fun p:Nat × Operand=>(p.1*i.size,i.size,opd P (some e) p.2)))
   | none=>none
  | _,_=>none
 | .buildSlice T n parts=>match P.underlying T with
  | some (.slice e)=>match zeroOf P e with
   | some (l,ag,sz)=>if n*sz≤16777216∧n≤9223372036854775807 then some (.buildSlice e sz (if ag then .agg l else l.headD default) n (parts.toList.map fun (i,x)=>(i,opd P (some e) x))) else none
   | none=>none
  | _=>none
 | .load T x=>match tyOf P T with
  | some (ag,sz)=>if ag||sz == 1 then some (.load ag sz (opd P none x)) else none
  | none=>none
 | .store T x v=>match tyOf P T with
  | some (_,sz)=>some (.store sz (opd P none x) (opd P (some T) v))
  | none=>none
 | .binOp op T x y _=>match P.underlying T with
  | some (.int _)=>some (.bin false op (opd P none x) (opd P none y))
  | some .string=>some (.bin false op (opd P none x) (opd P none y))
  | some .bool=>some (.bin true op (opd P none x) (opd P none y))
  | some (.struct fs)=>if intStruct P T then match op with
    | .eql=>some (.eqs fs.size false (opd P none x) (opd P none y))
    | .neq=>some (.eqs fs.size true (opd P none x) (opd P none y))
    | _=>none else none
  | some (.slice _)=>match op,y with
   | .eql,.const (.slice none 0 0)=>some (.isNil false (opd P none x))
   | .neq,.const (.slice none 0 0)=>some (.isNil true (opd P none x))
   | _,_=>none
  | some (.array n e)=>if intArr P T e then match op with
    | .eql=>some (.eqs n false (opd P none x) (opd P none y))
    | .neq=>some (.eqs n true (opd P none x) (opd P none y))
    | _=>none else none
  | _=>none
 | .unOp op _ x=>some (.un op (opd P none x))
 | .convert S T x=>match P.underlying S,P.underlying T with
  | some _,some (.int k)=>some (.conv k (opd P none x))
  | some (.slice e),some .string=>match P.underlying e with
   | some (.int .u8)=>some (.strB (opd P none x))
   | _=>none
  | some .string,some (.slice e)=>match P.underlying e with
   | some (.int .u8)=>some (.bytS e (opd P none x))
   | _=>none
  | _,_=>none
 | .makeSlice T l c=>match P.underlying T with
  | some (.slice e)=>match zeroOf P e,P.info? e with
   | some (z,ag,sz),some i=>some (.makeSlice e sz i.bytes (if ag then .agg z else z.headD default) (opd P none l) (opd P none c))
   | _,_=>none
  | _=>none
 | .slice T x lo hi mx=>match P.underlying T with
  | some .string=>if mx.isSome then none else some (.sliceS (opd P none x) (lo.map (opd P none)) (hi.map (opd P none)))
  | some (.slice e)=>match tyOf P e with
   | some (_,sz)=>if mx.isSome&&hi.isNone then none else some (.slice sz (opd P none x) (lo.map (opd P none)) (hi.map (opd P none)) (mx.map (opd P none)))
   | none=>none
  | some (.array n e)=>match tyOf P e with
   | some (_,1)=>if mx.isSome&&hi.isNone then none else some (.sliceA n (opd P none x) (lo.map (opd P none)) (hi.map (opd P none)) (mx.map (opd P none)))
   | _=>none
  | _=>none
 | .fieldAddr S x f=>match P.underlying S with
  | some (.struct fs)=>match fs[f]? with
   | some g=>match tyOf P g.type with
    | some (ag,sz)=>if sz == 0 then none else some (.fieldAddr g.offset sz ag (opd P none x))
    | none=>none
   | none=>none
  | _=>none
 | .field S x f=>match P.underlying S with
  | some (.struct fs)=>match fs[f]? with
   | some g=>match tyOf P g.type with
    | some (ag,sz)=>some (.field g.offset sz ag (opd P none x))
    | none=>none
   | none=>none
  | _=>none
 | .indexAddr T x i=>match P.underlying T with
  | some (.slice e)=>match tyOf P e with
   | some (_,sz)=>some (.indexAddr sz (opd P none x) (opd P none i))
   | none=>none
  | some (.array n e)=>match tyOf P e with
   | some (ag,sz)=>some (.indexAddrA n sz ag (opd P none x) (opd P none i))
   | none=>none
  | _=>none
 | .index T x i=>match P.underlying T with
  | some .string=>some (.index (opd P none x) (opd P none i))
  | some (.array n e)=>match tyOf P e with
   | some (ag,sz)=>some (.indexA n sz ag (opd P none x) (opd P none i))
   | none=>none
  | _=>none
 | .makeFunc fn x y=>some (.fnv fn (x.toList.map (opd P none)) (y.toList.map (opd P none)))
 | .panic _=>some .bad
 | .makeInterface _ _=>some .bad
 | .extract x i=>some (.extract (opd P none x) i)
 | .call c=>match c.callee with
  | .value (.func f)=>some (.call f (c.args.toList.zipIdx.map fun (x,i)=>opd P c.argTypes[i]? x))
  | .value (.tmp n)=>some (.callv [] (.t n) (c.args.toList.zipIdx.map fun (x,i)=>opd P c.argTypes[i]? x))
  | .builtin .len=>match c.args.toList,c.argTypes.toList with
   | [x],[T]=>match P.underlying T with
    | some .string=>some (.lenS (opd P none x))
    | some (.slice _)=>some (.len (opd P none x))
    | _=>none
   | _,_=>none
  | .builtin .max=>match c.args.toList with
   | [x,y]=>some (.mm true (opd P none x) (opd P none y))
   | _=>none
  | .builtin .min=>match c.args.toList with
   | [x,y]=>some (.mm false (opd P none x) (opd P none y))
   | _=>none
  | .builtin .append=>match c.args.toList,c.argTypes.toList with
   | [x,y],[T,U]=>match P.underlying T,P.underlying U with
    | some (.slice e),some (.slice e')=>match zeroOf P e,P.info? e with
     | some (_,_,sz),some i=>if e == e'&&T == U then some (appOp e sz i.bytes (opd P (some T) x) (opd P (some U) y)) else none
     | _,_=>none
    | _,_=>none
   | _,_=>none
  | .builtin .copy=>match c.args.toList,c.argTypes.toList with
   | [x,y],[T,U]=>match P.underlying T,P.underlying U with
    | some (.slice e),some (.slice _)=>match tyOf P e with
     | some (_,1)=>some (.copyA (opd P none x) (opd P none y))
     | _=>none
    | _,_=>none
   | _,_=>none
  | .builtin .clear=>match c.args.toList,c.argTypes.toList with
   | [x],[T]=>match P.underlying T with
    | some (.slice e)=>match zeroOf P e with
     | some (l,ag,sz)=>some (.clearS sz (if ag then .agg l else l.headD default) (opd P none x))
     | none=>none
    | _=>none
   | _,_=>none
  | _=>none
 | _=>none
end Go.Proofs.Ytlnhembcfhfpkaa.M
end

section
namespace Go.Proofs.Ytlnhembcfhfpkaa.M
open Go.RowKit
def Good (P:Program) (w0:World) (base:Bs) (nt:Nat) (o:Oper) (a:Act) (w:World) (t:St) (d:AV):Prop:=
 ∃ v w' loc',((execOp a.eval o).run P w = .ok (.value v) w'∨((execOp a.eval o).run P w = .ok .skip w'∧v=undef))∧Rel w0 base nt loc' t a w'∧RV w' (NB base t.m loc' w') loc' v d
section
variable {P:Program} {w0:World} {base:Bs} {nt:Nat} {loc:Locs} {s t:St} {a:Act} {w:World} {o:Oper} {id:Nat} {d:AV}
theorem Rel.opd (h:Rel w0 base nt loc s a w) (T:Option TypeId) (x:Operand):RV w (NB base s.m loc w) loc (a.eval x) ((opd P T x).ev s.r):=opd_ok P T x h.tmps
theorem good_same (h:Rel w0 base nt loc s a w) {v:Value} (hr:(execOp a.eval o).run P w = .ok (.value v) w) (hv:RV w (NB base s.m loc w) loc v d):Good P w0 base nt o a w s d:=
 ⟨v,w,loc,.inl hr,h,hv⟩
theorem run_v {s:Sem Value} {v:Value} {w':World} (h:s.run P w = .ok v w'):(do pure (Next.value (← s)):Sem Next).run P w = .ok (.value v) w':=by
 simp[h]
theorem sim_mov {x:Operand} (h:Rel w0 base nt loc s a w) (ho:o.op = .move x∨o.op = .assign x) {T:Option TypeId} (he:ev (.mov (opd P T x)) id s=some (true,d,t)):Good P w0 base nt o a w t d:=by
 simp only[ev,Option.some.injEq,Prod.mk.injEq,true_and] at he
 obtain⟨rfl,rfl⟩:=he
 refine good_same h (v:=a.eval x) ?_ (h.opd T x)
 rcases ho with ho | ho<;>simp[execOp,ho]
theorem sim_nilCheck {x:Operand} (h:Rel w0 base nt loc s a w) (ho:o.op = .nilCheck x) {T:Option TypeId} (he:ev (.nilCheck (opd P T x)) id s=some (true,d,t)):Good P w0 base nt o a w t d:=by
 have hx:=h.opd (P:=P) T x
 simp only[ev] at he
 split at he
 ·rename_i i j k hk
  simp only[Option.some.injEq,Prod.mk.injEq,true_and] at he
  obtain⟨rfl,rfl⟩:=he
  rw[hk] at hx
  refine good_same h (v:=a.eval x) ?_ hx
  generalize hv:a.eval x=v at hx
  cases hx
  simp[execOp,ho,hv]
 ·rename_i e hk
  simp only[Option.some.injEq,Prod.mk.injEq,true_and] at he
  obtain⟨rfl,rfl⟩:=he
  rw[hk] at hx
  refine good_same h (v:=a.eval x) ?_ hx
  have hx:=hx.inv
  generalize hv:a.eval x=v at hx
  cases hx
  simp[execOp,ho,hv]
 ·cases he
theorem sim_pick {c x y:Operand} (h:Rel w0 base nt loc s a w) (ho:o.op = .pick c x y) {T U W:Option TypeId} (he:ev (.pick (opd P T c) (opd P U x) (opd P W y)) id s=some (true,d,t)):Good P w0 base nt o a w t d:=by
 have hc:=h.opd (P:=P) T c
 simp only[ev] at he
 split at he
 ·rename_i hk
  simp only[Option.some.injEq,Prod.mk.injEq,true_and] at he
  obtain⟨rfl,rfl⟩:=he
  rw[hk] at hc
  have hc:=hc.inv
  refine good_same h (v:=a.eval x) ?_ (h.opd U x)
  generalize hcv:a.eval c=v at hc
  cases hc
  simp[execOp,ho,hcv,asBool]
 ·rename_i hk
  simp only[Option.some.injEq,Prod.mk.injEq,true_and] at he
  obtain⟨rfl,rfl⟩:=he
  rw[hk] at hc
  have hc:=hc.inv
  refine good_same h (v:=a.eval y) ?_ (h.opd W y)
  generalize hcv:a.eval c=v at hc
  cases hc
  simp[execOp,ho,hcv,asBool]
 ·cases he
theorem sim_load {T:TypeId} {x:Operand} {ag:Bool} {sz:Nat} (h:Rel w0 base nt loc s a w) (ho:o.op = .load T x) (hT:TyOk P T ag sz) (hs:ag=false→sz=1) {U:Option TypeId}
  (he:ev (.load ag sz (opd P U x)) id s=some (true,d,t)):Good P w0 base nt o a w t d:=by
 have hx:=h.opd (P:=P) U x
 simp only[ev] at he
 split at he
 ·rename_i i j off hk
  rw[hk] at hx
  generalize hxv:a.eval x=v at hx
  cases hx with
  | ptr L _ _ _ hL hn =>
  have goal:∀ osz (u z:AV) (T':TypeId) (k:Cont) (frz:Bool),s.m i=some ⟨T',osz,k,frz⟩→u.get off sz osz ag=some z →
    (∀ c fr,w.heap[L.b]? = some (.cells c T' fr)→ContOk w (NB base s.m loc w) loc c L.o osz k→L.o+j*osz+osz≤c.size∧u.cells.length=osz∧(∀ e∈u.cells,e.one=true)∧(∀ p e,u.cells[p]? = some e→RV w (NB base s.m loc w) loc (c.getD (L.o+j*osz+p) undef) e)) →
    Good P w0 base nt o a w s z:=by
   intro osz u z T' k frz hm hg hcc
   obtain⟨L',hL',hok⟩:=h.objs i _ hm
   rw[hL] at hL'
   cases hL'
   obtain⟨c,fr,h1,h2,h3,-⟩:=hok.at_ hn
   obtain⟨g1,g2,g3,g4⟩:=hcc c fr h1 h3
   obtain⟨v,hv1,hv2⟩:=rv_get (P:=P) (T':=T) h1 g1 g2 g3 g4 hg hT hs
   refine good_same h (v:=v) ?_ hv2
   have hsz:L.sz=osz:=hok.sz
   rw[show L.o+(j*L.sz+off)=L.o+j*osz+off by rw[hsz];omega] at hxv
   simp[execOp,ho,hxv,hv1]
  split at he
  ·rename_i T' osz l frz hm
   split at he
   ·rename_i z hz
    simp only[Option.some.injEq,Prod.mk.injEq,decide_eq_true_eq] at he
    obtain⟨hj,rfl,rfl⟩:=he
    refine goal osz _ z T' _ frz hm hz ?_
    intro c fr _ hcont
    obtain⟨k1,k2,k3⟩:=hcont
    have he':l[j]? = some (l.getD j default):=by simp[hj]
    have hmul:j*osz+osz≤l.length*osz:=by
     have:=Nat.mul_le_mul_right osz (show j+1≤l.length by omega)
     rw[Nat.add_mul] at this;omega
    refine⟨by omega,by simpa[AV.cells] using k2 _ (List.mem_of_getElem? he'),fun e hem => ?_,fun p e hp => ?_⟩
    ·simp only[AV.cells,List.mem_map] at hem
     obtain⟨q,hq,rfl⟩:=hem
     obtain⟨n,hn'⟩:=List.getElem?_of_mem hq
     exact (k3 j _ n q he' hn').1
    ·simp only[AV.cells,List.getElem?_map,Option.map_eq_some_iff] at hp
     obtain⟨q,hq,rfl⟩:=hp
     have:=(k3 j _ p q he' hq).2
     rw[←Nat.add_assoc] at this
     exact .p _ _ this
   ·cases he
  ·rename_i T' osz u frz hm
   split at he
   ·rename_i hj
    subst hj
    split at he
    ·rename_i z hz
     simp only[Option.some.injEq,Prod.mk.injEq,true_and] at he
     obtain⟨rfl,rfl⟩:=he
     refine goal osz u z T' _ frz hm hz ?_
     intro c fr _ hcont
     obtain⟨k1,k2,k3,k4⟩:=hcont
     simp only[Nat.zero_mul,Nat.add_zero]
     exact⟨k1,k2,k3,k4⟩
    ·cases he
   ·cases he
  ·cases he
 ·rename_i e hk
  rw[hk] at hx
  have hx:=hx.inv
  split at he
  ·rename_i hag
   simp only[Option.some.injEq,Prod.mk.injEq,decide_eq_true_eq] at he
   obtain⟨⟨hlen,hpos⟩,rfl,rfl⟩:=he
   generalize hxv:a.eval x=v at hx
   cases hx with
   | ref b p T' _ c fr g1 g2 g0 g3 g4 =>
   have hl:∀ i,i<e.cells.length→p+i<c.size:=fun i hi=>g3 i e.cells[i] (by simp[hi])
   cases ag with
   | true =>
    cases e with
    | agg l =>
     have hlen':l.length=sz:=by simpa[D.cells] using hlen
     have hfit:p+sz≤c.size:=by
      have:=hl (sz-1) (by rw[hlen];omega)
      omega
     refine good_same h (v:=.agg (rd c p sz)) ?_ (.p _ _ (.agg _ _ (by simp[hlen']) (fun q hq=>g0 q hq) (fun i q hi => ?_)))
     ·have:=run_loadAgg (P:=P) hT g1 hfit
      simp[execOp,ho,hxv,Instr.loadAt,Instr.sureAddr,this]
     ·have hlt:i<sz:=by have:=(List.getElem?_eq_some_iff.1 hi).1;omega
      rw[rd_get _ _ _ _ hlt]
      exact g4 i q hi
    | _=>simp[D.isAgg] at hag
   | false =>
    have:=hs rfl
    subst this
    have h0:e.cells[0]? = some e:=by cases e<;>simp[D.isAgg] at hag<;>rfl
    refine good_same h (v:=c.getD p undef) ?_ (.p _ _ ?_)
    ·have:=run_loadOne (P:=P) hT g1 (by have:=hl 0 (by omega);rwa[Nat.add_zero] at this)
     simp[execOp,ho,hxv,Instr.loadAt,Instr.sureAddr,this]
    ·have:=g4 0 e h0
     rwa[Nat.add_zero] at this
  ·cases he
 ·cases he
end
end Go.Proofs.Ytlnhembcfhfpkaa.M
end
