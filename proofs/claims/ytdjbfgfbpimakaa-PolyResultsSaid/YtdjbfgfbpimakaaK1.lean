/- Words for slices and worlds that the walks of this seat use: a slice that reads as a list of numbers; what a call keeps. A small machine on plain data: what values of the program read as (D), what the walk knows of a call's own memory (AV, St), and how both stand to the model's memory (V, RV, Rel). Polynomials as lists of rationals: plain laws; sizes. The small machine: what is known of a call's own memory, and what a step leaves of it. Plain laws of places: no program in sight. A block of numbers that the call has made, known whole. Polynomials as lists of rationals: division with rest. Plain laws of division place by place: no program in sight. The small machine: its operations, and what each makes of a state. Numbers of the program: made. A slice of numbers that the call itself appends to. Strings as lists of bytes. Plain laws of places of four digits. append of many numbers onto a row of the call's own. math/bits.Len32 and LeadingZeros32: the kit's contracts, laid at this program. The small machine: the model does what the small machine says, one operation at a time. Sums, differences, products and their order: the program's walks. The small machine: one operation at a time, part two: the lemmas of each operation. The small machine: the model's operations written in its words. The small machine: the model does what the small machine says: operations that write nothing. The small machine: the model does what the small machine says: parts, places, lengths, slices. The small -/
import Derived.Test.YtdjbfgfbpimakaaRows
import Derived.WalkKit
import Derived.WalkSpells
import Derived.WalkLawsBesides
import Derived.Lib.Hide
import Derived.OrdersHeld
import Derived.Laws.IdiomCopy
import Derived.BigQuiet
import Derived.Deep.QuietTactic
import Derived.Deep.RegionHeld3
import Derived.Laws.AppendOwnNone
import Derived.Shelf.Small.Bits
import Derived.Laws.MakeOwn
section
namespace Go.Proofs.Ytdjbfgfbpimakaa
open Go.RowKit
def Hd (p:Prop):Prop:=Unit→p
theorem Hd.out {p:Prop} (h:Hd p):p:=h ()
theorem hd_ {p:Prop} (h:p):Hd p:=fun _=>h
structure SV where
 a:Option Addr
 len:Nat
 cap:Nat
abbrev Ext (w w':World):Prop:=Below w.heap.size w w'
theorem Ext.rf (w:World):Ext w w:=Below.refl _ _
theorem Ext.tr {a b c:World} (h:Ext a b) (k:Ext b c):Ext a c:=Below.trans h (k.mono h.size)
theorem Ext.al {a b:World} (h:Ext a b) (o:Obj):Ext a (b.alloc o):=Below.alloc h h.size o
theorem Ext.dr {a b:World} (h:Ext a b):Ext a b.drew:=Below.drew h
theorem Ext.st {a b:World} (h:Ext a b) {p:Addr} (hp:a.heap.size≤p.block) (u:Value):Ext a (b.setCell p u):=Below.setCell h hp u
theorem Ext.gr {a b c:World} {row:Option Nat} (h:Ext a b) (hg:b.grownBy c row) (hr:∀ k,row=some k→a.heap.size≤k):Ext a c:=Below.grown h hg h.size hr
def at_ (l:List Int) (i:Nat):Int:=l.getD i 0
theorem at_lt {l:List Int} {i:Nat} (h:i<l.length):at_ l i=l[i]:=by simp[at_,h]
theorem at_mem {l:List Int} {i:Nat} (h:i<l.length):at_ l i∈l:=by rw[at_lt h];exact List.getElem_mem h
theorem at_ge {l:List Int} {i:Nat} (h:l.length≤i):at_ l i=0:=by simp[at_,List.getElem?_eq_none h]
def Ty (w:World) (b:Nat) (T:TypeId):Prop:=∃ c fr,w.heap[b]? = some (.cells c T fr)
theorem Ty.lt {w:World} {b:Nat} {T:TypeId} (h:Ty w b T):b<w.heap.size:=by
 obtain⟨c,fr,h⟩:=h
 rcases Nat.lt_or_ge b w.heap.size with hlt | hge
 ·exact hlt
 ·rw[Array.getElem?_eq_none hge] at h;cases h
theorem Ty.keep {w w':World} {b:Nat} {T:TypeId} (h:Ty w b T) (e:Ext w w'):Ty w' b T:=by
 have hl:=h.lt
 obtain⟨c,fr,h⟩:=h
 exact⟨c,fr,(e.block b hl).trans h⟩
theorem Ty.al {w:World} {b:Nat} {T:TypeId} (h:Ty w b T) (o:Obj):Ty (w.alloc o) b T:=h.keep ((Ext.rf w).al o)
theorem Ty.new (w:World) (c:Array Value) (T:TypeId):Ty (w.alloc (.cells c T)) w.heap.size T:=⟨c,_,heap_alloc_new w _⟩
theorem Ty.st {w:World} {b:Nat} {T:TypeId} (h:Ty w b T) (p:Addr) (u:Value):Ty (w.setCell p u) b T:=by
 obtain⟨c,fr,h⟩:=h
 by_cases e:b=p.block
 ·subst e
  refine⟨if p.spot.isSome then c else c.setIfInBounds p.off u,fr,?_⟩
  simp[World.setCell,Array.getElem?_modify,h]
 ·exact⟨c,fr,(Below.heap_setCell w p u b e).trans h⟩
theorem Ty.ne_ {w:World} {b b':Nat} {T T':TypeId} (h:Ty w b T) (h':Ty w b' T') (hne:T≠T'):b≠b':=by
 rintro rfl
 obtain⟨c,fr,h⟩:=h
 obtain⟨c',fr',h'⟩:=h'
 rw[h] at h'
 injection h' with h'
 injection h' with _ ht
 exact hne ht
theorem Ty.new' {w:World} {c:Array Value} {T:TypeId} {n:Nat} (hn:n=w.heap.size):Ty (w.alloc (.cells c T)) n T:=by subst hn;exact Ty.new w c T
def Kept (T:TypeId) (w w':World):Prop:=∀ b,Ty w b T→w'.heap[b]? = w.heap[b]?
theorem Kept.rf (T:TypeId) (w:World):Kept T w w:=fun _ _=>rfl
theorem Kept.of {T:TypeId} {w w':World} (e:Ext w w'):Kept T w w':=fun b h=>e.block b h.lt
theorem Kept.ty {T:TypeId} {w w':World} {b:Nat} (h:Kept T w w') (t:Ty w b T):Ty w' b T:=by
 have hb:=h b t
 obtain⟨c,fr,hc⟩:=t
 exact⟨c,fr,hb.trans hc⟩
theorem Kept.tr {T:TypeId} {a b c:World} (h:Kept T a b) (k:Kept T b c):Kept T a c:=fun x hx=>(k x (h.ty hx)).trans (h x hx)
theorem Kept.ex {T:TypeId} {a b c:World} (h:Kept T a b) (k:Ext b c):Kept T a c:=h.tr (.of k)
theorem Kept.dr {T:TypeId} {a b:World} (h:Kept T a b):Kept T a b.drew:=h
theorem Kept.st {T T':TypeId} {a b:World} (h:Kept T a b) {p:Addr} (hp:Ty b p.block T') (hne:T≠T') (u:Value):Kept T a (b.setCell p u):=
 h.tr fun x hx=>Below.heap_setCell b p u x (hx.ne_ hp hne)
theorem Kept.st2 {T T':TypeId} {a w:World} {b:Nat} (h:Kept T a w) (t:Ty w b T') (hne:T≠T') (u v:Value):Kept T a ((w.setCell ⟨b,0,none⟩ u).setCell ⟨b,1,none⟩ v):=
 (h.st (p:=⟨b,0,none⟩) t hne u).st (p:=⟨b,1,none⟩) (t.st _ _) hne v
theorem Ext.st2 {a w:World} {b:Nat} (h:Ext a w) (hb:a.heap.size≤b) (u v:Value):Ext a ((w.setCell ⟨b,0,none⟩ u).setCell ⟨b,1,none⟩ v):=
 (h.st (p:=⟨b,0,none⟩) hb u).st (p:=⟨b,1,none⟩) hb v
def Sl (w:World) (T:TypeId) (s:SV) (n:Nat) (xs:List Value):Prop:=
 s.len=n∧n≤s.cap∧s.cap≤9223372036854775807∧(0<xs.length→∃ b off,s.a=some ⟨b,off,none⟩∧Ty w b T∧∀ j,j<xs.length→w.cell? ⟨b,off+j,none⟩=some (xs.getD j undef))
theorem Sl.kept {w w':World} {T:TypeId} {s:SV} {n:Nat} {xs:List Value} (h:Sl w T s n xs) (k:Kept T w w'):Sl w' T s n xs:=by
 obtain⟨h1,h2,h3,h4⟩:=h
 refine⟨h1,h2,h3,fun hx => ?_⟩
 obtain⟨b,off,ha,hb,hc⟩:=h4 hx
 exact⟨b,off,ha,k.ty hb,fun j hj=>(World.cell?_of_block (w:=w) (w':=w') (a:=⟨b,off+j,none⟩) (k b hb)).trans (hc j hj)⟩
theorem Sl.keep {w w':World} {T:TypeId} {s:SV} {n:Nat} {xs:List Value} (h:Sl w T s n xs) (k:Ext w w'):Sl w' T s n xs:=h.kept (.of k)
def ET:IntKind→TypeId
 | .u8=>5
 | .u32=>116
 | .i64=>3
 | .u64=>114
 | .i32=>21
 | _=>0
def Fit (k:IntKind) (x:Int):Prop:=match k with
 | .u8=>0≤x∧x≤255
 | .u32=>0≤x∧x≤4294967295
 | .u64=>0≤x∧x≤18446744073709551615
 | .i64 => -9223372036854775808≤x∧x≤9223372036854775807
 | .i32 => -2147483648≤x∧x≤2147483647
 | _=>True
def IsL (w:World) (s:SV) (k:IntKind) (l:List Int):Prop:=
 Sl w (ET k) s l.length (l.map (Value.int k))∧∀ x∈l,Fit k x
theorem IsL.keep {w w':World} {s:SV} {k:IntKind} {l:List Int} (h:IsL w s k l) (e:Ext w w'):IsL w' s k l:=⟨h.1.keep e,h.2⟩
theorem IsL.kept {w w':World} {s:SV} {k:IntKind} {l:List Int} (h:IsL w s k l) (e:Kept (ET k) w w'):IsL w' s k l:=⟨h.1.kept e,h.2⟩
theorem IsL.fit {w:World} {s:SV} {k:IntKind} {l:List Int} (h:IsL w s k l) {i:Nat} (hi:i<l.length):Fit k (at_ l i):=h.2 _ (at_mem hi)
theorem IsL.open_ {w:World} {s:SV} {k:IntKind} {l:List Int} (h:IsL w s k l) :
  ∃ ao cap,s=⟨ao,l.length,cap⟩∧l.length≤cap∧cap≤9223372036854775807 ∧
   (0<l.length→∃ b off,ao=some ⟨b,off,none⟩∧Ty w b (ET k)∧∀ j,j<l.length→w.cell? ⟨b,off+j,none⟩=some (.int k (at_ l j))):=by
 obtain⟨⟨h1,h2,h3,h4⟩,-⟩:=h
 obtain⟨ao,n,cap⟩:=s
 simp only at h1 h2 h3 h4
 subst h1
 refine⟨ao,cap,rfl,h2,h3,fun hl => ?_⟩
 obtain⟨b,off,ha,hb,hc⟩:=h4 (by simpa using hl)
 refine⟨b,off,ha,hb,fun j hj => ?_⟩
 rw[hc j (by simpa using hj)]
 simp[at_,hj]
theorem IsL.mk_ {w:World} {ao:Option Addr} {cap:Nat} {k:IntKind} {l:List Int} (h2:l.length≤cap) (h3:cap≤9223372036854775807)
  (h4:0<l.length→∃ b off,ao=some ⟨b,off,none⟩∧Ty w b (ET k)∧∀ j,j<l.length→w.cell? ⟨b,off+j,none⟩=some (.int k (at_ l j))) (hf:∀ x∈l,Fit k x) :
  IsL w ⟨ao,l.length,cap⟩ k l:=by
 refine⟨⟨rfl,h2,h3,fun hl => ?_⟩,hf⟩
 obtain⟨b,off,ha,hb,hc⟩:=h4 (by simpa using hl)
 refine⟨b,off,ha,hb,fun j hj => ?_⟩
 rw[hc j (by simpa using hj)]
 have hj':j<l.length:=by simpa using hj
 simp[at_,hj']
theorem isL_nil (w:World) (k:IntKind):IsL w ⟨none,0,0⟩ k []:=⟨⟨rfl,Nat.le_refl _,by simp,by simp⟩,by simp⟩
theorem IsL.take {w:World} {ao:Option Addr} {cap cap' n:Nat} {k:IntKind} {l:List Int} (h:IsL w ⟨ao,l.length,cap⟩ k l) (hn:n≤l.length) (hc:n≤cap') (hc':cap'≤9223372036854775807) :
  IsL w ⟨ao,n,cap'⟩ k (l.take n):=by
 have hl:(l.take n).length=n:=by simp;omega
 obtain⟨ao',c',he,h2,h3,h4⟩:=h.open_
 simp only[SV.mk.injEq] at he
 obtain⟨rfl,-,rfl⟩:=he
 have:=IsL.mk_ (w:=w) (ao:=ao) (cap:=cap') (k:=k) (l:=l.take n) (by omega) hc' (fun hp=>by
  obtain⟨b,off,ha,hb,hcell⟩:=h4 (by omega)
  refine⟨b,off,ha,hb,fun j hj => ?_⟩
  rw[hcell j (by omega)]
  have:j<n:=by omega
  simp[at_,this]) (fun x hx=>h.2 x (List.mem_of_mem_take hx))
 rw[hl] at this
 exact this
theorem ret_i {k:IntKind} {a b:Int} (h:a=b):Ending.returned (.int k a) = .returned (.int k b):=by rw[h]
theorem ret_b {a b:Bool} (h:a=b):Ending.returned (.bool a) = .returned (.bool b):=by rw[h]
theorem ret_s {a b:ByteArray} (h:a=b):Ending.returned (.string a) = .returned (.string b):=by rw[h]
set_option linter.defProp false in
def putR:=And.intro @List.getElem_toArray.{0} (And.intro @List.getElem_cons_zero.{0} (And.intro @List.getElem_cons_succ.{0} (And.intro @Act.put.eq_1 (And.intro @List.setIfInBounds_toArray.{0} (And.intro @List.set_cons_zero.{0} (@List.set_cons_succ.{0}))))))
end Go.Proofs.Ytdjbfgfbpimakaa
end

section
namespace Go.Proofs.Ytdjbfgfbpimakaa.M
open Go.RowKit
abbrev Ext (w w':World):Prop:=Below w.heap.size w w'
theorem Ext.rf (w:World):Ext w w:=Below.refl _ _
theorem Ext.tr {a b c:World} (h:Ext a b) (k:Ext b c):Ext a c:=Below.trans h (k.mono h.size)
inductive D where
 | bool (b:Bool)
 | int (k:IntKind) (n:Int)
 | str (s:List UInt8)
 | agg (l:List D)
 | tup (l:List D)
 | list (T:TypeId) (sz:Nat) (l:List D)
 | nilp
 | ref (d:D)
 | fn (f:Fn) (first captured:List D)
instance:Inhabited D:=⟨.int .i64 0⟩
def D.cells:D→List D
 | .agg l=>l
 | d=>[d]
def D.one:D→Bool
 | .agg _=>false
 | .tup _=>false
 | _=>true
def D.isAgg:D→Bool
 | .agg _=>true
 | _=>false
def Hp (w:World) (b:Nat) (c:Array Value) (T:TypeId) (fr:Nat × Nat):Prop:=∃ T',w.heap[b]? = some (.cells c T' fr)∧(T'=T∨1000000≤T)
theorem Hp.of {w:World} {b:Nat} {c:Array Value} {T:TypeId} {fr:Nat × Nat} (h:w.heap[b]? = some (.cells c T fr)):Hp w b c T fr:=⟨T,h,.inl rfl⟩
theorem Hp.mono {w w':World} {b:Nat} {c:Array Value} {T:TypeId} {fr:Nat × Nat} (h:Hp w b c T fr) (hs:w'.heap[b]? = w.heap[b]?):Hp w' b c T fr:=h.elim fun T' h=>⟨T',hs.trans h.1,h.2⟩
inductive V (w:World) (N:Nat→Prop):Value→D→Prop where
 | bool (b:Bool):V w N (.bool b) (.bool b)
 | int (k:IntKind) (n:Int):V w N (.int k n) (.int k n)
 | str (s:ByteArray):V w N (.string s) (.str s.data.toList)
 | agg (cs:Array Value) (l:List D):cs.size=l.length→(∀ d∈l,d.one=true)→(∀ i d,l[i]? = some d→V w N (cs.getD i undef) d)→V w N (.agg cs) (.agg l)
 | tup (cs:Array Value) (l:List D):cs.size=l.length→(∀ i d,l[i]? = some d→V w N (cs.getD i undef) d)→V w N (.tuple cs) (.tup l)
 | empty (a:Option Addr) (cap:Nat) (T:TypeId) (sz:Nat):cap≤9223372036854775807→V w N (.slice a 0 cap) (.list T sz [])
 | list (b o cap:Nat) (T:TypeId) (sz:Nat) (l:List D) (c:Array Value) (fr:Nat × Nat):Hp w b c T fr→N b→l.length≤cap→cap≤9223372036854775807 →
   (∀ e∈l,e.cells.length=sz∧∀ q∈e.cells,q.one=true)→(∀ i e j d,l[i]? = some e→e.cells[j]? = some d→o+(i*sz+j)<c.size) →
   (∀ i e j d,l[i]? = some e→e.cells[j]? = some d→V w N (c.getD (o+(i*sz+j)) undef) d)→V w N (.slice (some ⟨b,o,none⟩) l.length cap) (.list T sz l)
 | nilp:V w N (.pointer none) .nilp
 | ref (b o:Nat) (T:TypeId) (e:D) (c:Array Value) (fr:Nat × Nat):w.heap[b]? = some (.cells c T fr)→N b→(∀ q∈e.cells,q.one=true)→(∀ j d,e.cells[j]? = some d→o+j<c.size)→(∀ j d,e.cells[j]? = some d→V w N (c.getD (o+j) undef) d) →
   V w N (.pointer (some ⟨b,o,none⟩)) (.ref e)
 | fn (f:Fn) (x y:Array Value) (l m:List D):x.size=l.length→y.size=m.length→(∀ i d,l[i]? = some d→V w N (x.getD i undef) d)→(∀ i d,m[i]? = some d→V w N (y.getD i undef) d)→V w N (.func f x y) (.fn f l m)
theorem V.mono {w w':World} {N N':Nat→Prop} {v:Value} {d:D} (h:V w N v d) (hs:∀ b,N b→w'.heap[b]? = w.heap[b]?) (hn:∀ b,N b→N' b):V w' N' v d:=by
 induction h with
 | bool b=>exact .bool b
 | int k n=>exact .int k n
 | str s=>exact .str s
 | agg cs l h1 h2 _ ih=>exact .agg cs l h1 h2 ih
 | tup cs l h1 _ ih=>exact .tup cs l h1 ih
 | empty a cap T sz h=>exact .empty a cap T sz h
 | list b o cap T sz l c fr h1 h2 h3 h4 h5 h6 _ ih=>exact .list b o cap T sz l c fr (h1.mono (hs b h2)) (hn b h2) h3 h4 h5 h6 ih
 | nilp=>exact .nilp
 | ref b o T e c fr h1 h2 h3 h4 _ ih=>exact .ref b o T e c fr ((hs b h2).trans h1) (hn b h2) h3 h4 ih
 | fn f x y l m h1 h2 _ _ ih1 ih2=>exact .fn f x y l m h1 h2 ih1 ih2
theorem V.one {w:World} {N:Nat→Prop} {v:Value} {d:D} (h:V w N v d) (ho:d.one=true):v.oneCell'=true:=by
 cases h<;>first | rfl | simp[D.one] at ho
theorem V.cells {w:World} {N:Nat→Prop} {v:Value} {d:D} (h:V w N v d) (ht:∀ l,d≠.tup l):v.cells.size=d.cells.length∧∀ i e,d.cells[i]? = some e→e.one=true∧V w N (v.cells.getD i undef) e:=by
 cases h with
 | agg cs l h1 h2 h3=>exact⟨h1,fun i e he=>⟨h2 e (List.mem_of_getElem? he),h3 i e he⟩⟩
 | tup cs l=>exact absurd rfl (ht l)
 | _ =>
  refine⟨rfl,fun i e he => ?_⟩
  match i,he with
  | 0,he =>
   simp only[D.cells,List.getElem?_cons_zero,Option.some.injEq] at he
   subst he
   refine⟨rfl,?_⟩
   simp only[Value.cells,Array.getD_eq_getD_getElem?,List.getElem?_toArray,List.getElem?_cons_zero,Option.getD_some]
   first
    | exact .bool _
    | exact .int _ _
    | exact .str _
    | exact .empty _ _ _ _ ‹_›
    | exact .list _ _ _ _ _ _ _ _ ‹_› ‹_› ‹_› ‹_› ‹_› ‹_› ‹_›
    | exact .nilp
    | exact .ref _ _ _ _ _ _ ‹_› ‹_› ‹_› ‹_› ‹_›
    | exact .fn _ _ _ _ _ ‹_› ‹_› ‹_› ‹_›
  | i+1,he=>simp[D.cells] at he
end Go.Proofs.Ytdjbfgfbpimakaa.M
end

section
namespace Go.Proofs.Ytdjbfgfbpimakaa.M
set_option linter.unusedVariables false
def cf (l:List Rat) (i:Nat):Rat:=l.getD i 0
def trimQ (l:List Rat):List Rat:=(l.reverse.dropWhile (· == 0)).reverse
def Nf (l:List Rat):Prop:=l=[]∨cf l (l.length-1)≠0
theorem cf_nil (i:Nat):cf [] i=0:=rfl
theorem cf_ge {l:List Rat} {i:Nat} (h:l.length≤i):cf l i=0:=by simp[cf,List.getD_eq_getElem?_getD,List.getElem?_eq_none h]
theorem trimQ_snoc (l:List Rat) (x:Rat):trimQ (l++[x])=if x=0 then trimQ l else l++[x]:=by
 unfold trimQ
 rw[List.reverse_append,List.reverse_singleton,List.singleton_append]
 by_cases hz:x=0
 ·rw[if_pos hz,List.dropWhile_cons_of_pos (by simpa using hz)]
 ·rw[if_neg hz,List.dropWhile_cons_of_neg (by simpa using hz)];simp
theorem take_snoc {l:List Rat} {k:Nat} (h:k<l.length):l.take (k+1)=l.take k++[cf l k]:=by
 rw[List.take_succ_eq_append_getElem h];simp[h,cf]
theorem trimQ_take {l:List Rat} {k:Nat} (h:k<l.length):trimQ (l.take (k+1))=if cf l k=0 then trimQ (l.take k) else l.take (k+1):=by
 rw[take_snoc h,trimQ_snoc]
theorem snoc_ind {P:List Rat→Prop} (h0:P []) (h1:∀ l x,P l→P (l++[x])) (l:List Rat):P l:=by
 have:∀ l:List Rat,P l.reverse:=by
  intro l
  induction l with
  | nil=>exact h0
  | cons x l ih=>rw[List.reverse_cons];exact h1 _ _ ih
 simpa using this l.reverse
theorem cf_snoc (l:List Rat) (x:Rat) (i:Nat):cf (l++[x]) i=if i=l.length then x else cf l i:=by
 unfold cf
 simp only[List.getD_eq_getElem?_getD]
 by_cases h:i<l.length
 ·rw[List.getElem?_append_left h,if_neg (by omega)]
 ·by_cases e:i=l.length
  ·subst e;simp
  ·rw[if_neg e,List.getElem?_eq_none (by simp;omega),List.getElem?_eq_none (by omega)]
theorem cf_trim (l:List Rat) (i:Nat):cf (trimQ l) i=cf l i:=by
 induction l using snoc_ind with
 | h0=>rfl
 | h1 l x ih =>
  rw[trimQ_snoc]
  split
  ·rename_i h
   rw[ih,cf_snoc]
   split
   ·rename_i e;subst e;rw[cf_ge (Nat.le_refl _),h]
   ·rfl
  ·rfl
theorem trim_len (l:List Rat):(trimQ l).length≤l.length:=by
 induction l using snoc_ind with
 | h0=>exact Nat.le_refl _
 | h1 l x ih =>
  rw[trimQ_snoc]
  split
  ·simp;omega
  ·exact Nat.le_refl _
theorem nf_nil:Nf []:=.inl rfl
theorem nf_trim (l:List Rat):Nf (trimQ l):=by
 induction l using snoc_ind with
 | h0=>exact nf_nil
 | h1 l x ih =>
  rw[trimQ_snoc]
  split
  ·exact ih
  ·rename_i h
   right
   rw[cf_snoc]
   simpa using h
theorem trim_nf {l:List Rat} (h:Nf l):trimQ l=l:=by
 induction l using snoc_ind with
 | h0=>rfl
 | h1 l x _ =>
  rcases h with h | h
  ·simp at h
  ·rw[cf_snoc] at h
   rw[trimQ_snoc,if_neg (by simpa using h)]
theorem nf_len_le {a b:List Rat} (ha:Nf a) (h:∀ i,cf a i=cf b i):a.length≤b.length:=by
 rcases ha with rfl | ha
 ·exact Nat.zero_le _
 ·rcases Nat.lt_or_ge b.length a.length with hlt | hge
  ·exact absurd (by rw[h,cf_ge (by omega)]) ha
  ·exact hge
theorem cf_ext {a b:List Rat} (hl:a.length=b.length) (h:∀ i,cf a i=cf b i):a=b:=by
 apply List.ext_getElem hl
 intro i h1 h2
 have:=h i
 simp only[cf,List.getD_eq_getElem?_getD,List.getElem?_eq_getElem h1,List.getElem?_eq_getElem h2,Option.getD_some] at this
 exact this
theorem nf_ext {a b:List Rat} (ha:Nf a) (hb:Nf b) (h:∀ i,cf a i=cf b i):a=b:=
 cf_ext (Nat.le_antisymm (nf_len_le ha h) (nf_len_le hb fun i=>(h i).symm)) h
def tab (n:Nat) (f:Nat→Rat):List Rat:=(List.range n).map f
theorem tab_len (n:Nat) (f:Nat→Rat):(tab n f).length=n:=by simp[tab]
theorem cf_tab (n:Nat) (f:Nat→Rat) (i:Nat):cf (tab n f) i=if i<n then f i else 0:=by
 unfold cf tab
 rw[List.getD_eq_getElem?_getD,List.getElem?_map]
 by_cases h:i<n
 ·simp[h]
 ·simp[h]
theorem tab_ext {n:Nat} {f g:Nat→Rat} (h:∀ i,i<n→f i=g i):tab n f=tab n g:=by
 unfold tab;apply List.map_congr_left;intro i hi;exact h i (List.mem_range.1 hi)
theorem tab_set {n:Nat} {f:Nat→Rat} {i:Nat} {x:Rat}:(tab n f).set i x=tab n (fun j=>if j=i then x else f j):=by
 apply List.ext_getElem
 ·simp[tab]
 ·intro j h1 h2
  rw[List.getElem_set]
  simp only[tab,List.getElem_map,List.getElem_range]
  by_cases e:i=j
  ·subst e;simp
  ·rw[if_neg e,if_neg (fun h=>e h.symm)]
theorem tab_cf (l:List Rat):tab l.length (cf l)=l:=by
 apply cf_ext (tab_len _ _)
 intro i
 rw[cf_tab]
 split
 ·rfl
 ·rw[cf_ge (by omega)]
def sumQ:Nat→(Nat→Rat)→Rat
 | 0,_=>0
 | n+1,f=>sumQ n f+f n
theorem sumQ_ext:∀ {n:Nat} {f g:Nat→Rat},(∀ i,i<n→f i=g i)→sumQ n f=sumQ n g
 | 0,_,_,_=>rfl
 | n+1,f,g,h=>by rw[sumQ,sumQ,sumQ_ext fun i hi=>h i (by omega),h n (by omega)]
theorem sumQ_0:∀ {n:Nat} {f:Nat→Rat},(∀ i,i<n→f i=0)→sumQ n f=0
 | 0,_,_=>rfl
 | n+1,f,h=>by rw[sumQ,sumQ_0 fun i hi=>h i (by omega),h n (by omega)];grind
theorem sumQ_add:∀ (n:Nat) (f g:Nat→Rat),sumQ n (fun i=>f i+g i)=sumQ n f+sumQ n g
 | 0,_,_=>by simp only[sumQ];grind
 | n+1,f,g=>by simp only[sumQ,sumQ_add n f g];grind
theorem sumQ_mul:∀ (n:Nat) (f:Nat→Rat) (k:Rat),sumQ n (fun i=>f i*k)=sumQ n f*k
 | 0,_,_=>by simp[sumQ]
 | n+1,f,k=>by simp only[sumQ,sumQ_mul n f k];grind
theorem sumQ_le {n m:Nat} {f:Nat→Rat} (h:n≤m) (h0:∀ i,n≤i→i<m→f i=0):sumQ m f=sumQ n f:=by
 induction m with
 | zero=>rw[show n=0 by omega]
 | succ m ih =>
  by_cases e:n=m+1
  ·rw[e]
  ·rw[sumQ,ih (by omega) (fun i h1 h2=>h0 i h1 (by omega)),h0 m (by omega) (by omega)];grind
theorem sumQ_split (n:Nat) (f:Nat→Rat):sumQ (n+1) f=f 0+sumQ n (fun i=>f (i+1)):=by
 induction n with
 | zero=>simp[sumQ];grind
 | succ n ih=>rw[sumQ,ih,sumQ];grind
theorem sumQ_one {n:Nat} {f:Nat→Rat} {k:Nat} (hk:k<n) (h:∀ i,i<n→i≠k→f i=0):sumQ n f=f k:=by
 induction n with
 | zero=>omega
 | succ n ih =>
  rw[sumQ]
  by_cases e:k=n
  ·subst e;rw[sumQ_0 fun i hi=>h i (by omega) (by omega)];grind
  ·rw[ih (by omega) (fun i h1 h2=>h i (by omega) h2),h n (by omega) (fun e'=>e e'.symm)];grind
def evQ (l:List Rat) (x:Rat):Rat:=match l with
 | []=>0
 | a::l=>a+x*evQ l x
def cnv (a b:List Rat) (n:Nat):Rat:=sumQ (n+1) fun i=>cf a i*cf b (n-i)
def addQ (a b:List Rat):List Rat:=trimQ (tab (max a.length b.length) fun i=>cf a i+cf b i)
def sclQ (a:List Rat) (k:Rat):List Rat:=trimQ (tab a.length fun i=>cf a i*k)
def subQ (a b:List Rat):List Rat:=trimQ (tab (max a.length b.length) fun i=>cf a i-cf b i)
def mulQ (a b:List Rat):List Rat:=trimQ (tab (a.length+b.length) (cnv a b))
def derQ (a:List Rat):List Rat:=trimQ (tab (a.length-1) fun i=>cf a (i+1)*((i+1:Nat):Rat))
theorem cf_add (a b:List Rat) (i:Nat):cf (addQ a b) i=cf a i+cf b i:=by
 unfold addQ
 rw[cf_trim,cf_tab]
 split
 ·rfl
 ·rw[cf_ge (by omega),cf_ge (by omega)];grind
theorem cf_sub (a b:List Rat) (i:Nat):cf (subQ a b) i=cf a i-cf b i:=by
 unfold subQ
 rw[cf_trim,cf_tab]
 split
 ·rfl
 ·rw[cf_ge (by omega),cf_ge (by omega)];grind
theorem cf_scl (a:List Rat) (k:Rat) (i:Nat):cf (sclQ a k) i=cf a i*k:=by
 unfold sclQ
 rw[cf_trim,cf_tab]
 split
 ·rfl
 ·rw[cf_ge (by omega)];grind
theorem cnv_0 {a b:List Rat} {n:Nat} (h:a.length+b.length≤n+1):cnv a b n=0:=by
 unfold cnv
 apply sumQ_0
 intro i hi
 by_cases h1:a.length≤i
 ·rw[cf_ge h1];grind
 ·rw[cf_ge (l:=b) (by omega)];grind
theorem cf_mul (a b:List Rat) (i:Nat):cf (mulQ a b) i=cnv a b i:=by
 unfold mulQ
 rw[cf_trim,cf_tab]
 split
 ·rfl
 ·rw[cnv_0 (by omega)]
theorem nf_add (a b:List Rat):Nf (addQ a b):=nf_trim _
theorem nf_sub (a b:List Rat):Nf (subQ a b):=nf_trim _
theorem nf_scl (a:List Rat) (k:Rat):Nf (sclQ a k):=nf_trim _
theorem nf_mul (a b:List Rat):Nf (mulQ a b):=nf_trim _
theorem cf_cons (a:Rat) (l:List Rat) (i:Nat):cf (a::l) i=match i with | 0=>a | i+1=>cf l i:=by cases i<;>rfl
theorem ev_sum (l:List Rat) (x:Rat) {n:Nat} (h:l.length≤n):evQ l x=sumQ n fun i=>cf l i*x^i:=by
 induction l generalizing n with
 | nil=>rw[sumQ_0 fun i _=>by rw[cf_nil];grind];rfl
 | cons a l ih =>
  match n,h with
  | n+1,h =>
   rw[sumQ_split,evQ,ih (n:=n) (by simpa using h)]
   have:(fun i=>cf (a::l) (i+1)*x^(i+1))=fun i=>(cf l i*x^i)*x:=by
    funext i;rw[cf_cons];simp only[Rat.pow_succ];grind
   rw[this,sumQ_mul,cf_cons]
   simp only[Rat.pow_zero]
   grind
theorem ev_cf {a b:List Rat} (h:∀ i,cf a i=cf b i) (x:Rat):evQ a x=evQ b x:=by
 rw[ev_sum a x (Nat.le_max_left a.length b.length),ev_sum b x (Nat.le_max_right a.length b.length)]
 exact sumQ_ext fun i _=>by rw[h]
theorem ev_add (a b:List Rat) (x:Rat):evQ (addQ a b) x=evQ a x+evQ b x:=by
 obtain⟨n,hn⟩:∃ n,n=(addQ a b).length+a.length+b.length:=⟨_,rfl⟩
 rw[ev_sum _ x (n:=n) (by omega),ev_sum a x (n:=n) (by omega),ev_sum b x (n:=n) (by omega),←sumQ_add]
 exact sumQ_ext fun i _=>by rw[cf_add];grind
theorem ev_scl (a:List Rat) (k x:Rat):evQ (sclQ a k) x=evQ a x*k:=by
 obtain⟨n,hn⟩:∃ n,n=(sclQ a k).length+a.length:=⟨_,rfl⟩
 rw[ev_sum _ x (n:=n) (by omega),ev_sum a x (n:=n) (by omega),←sumQ_mul]
 exact sumQ_ext fun i _=>by rw[cf_scl];grind
theorem ev_sub (a b:List Rat) (x:Rat):evQ (subQ a b) x=evQ a x-evQ b x:=by
 have:∀ i,cf (subQ a b) i=cf (addQ a (sclQ b (-1))) i:=fun i=>by rw[cf_sub,cf_add,cf_scl];grind
 rw[ev_cf this,ev_add,ev_scl];grind
theorem cnv_cons (a:Rat) (l b:List Rat) (n:Nat):cnv (a::l) b n=a*cf b n+match n with | 0=>0 | n+1=>cnv l b n:=by
 unfold cnv
 rw[sumQ_split]
 cases n with
 | zero=>simp[cf_cons,sumQ]
 | succ n =>
  simp only[cf_cons,Nat.sub_zero]
  congr 1
  exact sumQ_ext fun i _=>by rw[show n+1-(i+1)=n-i by omega]
theorem ev_mul (a b:List Rat) (x:Rat):evQ (mulQ a b) x=evQ a x*evQ b x:=by
 induction a with
 | nil =>
  have:∀ i,cf (mulQ [] b) i=cf [] i:=fun i=>by rw[cf_mul,cf_nil];exact sumQ_0 fun i _=>by rw[cf_nil];grind
  rw[ev_cf this];simp[evQ]
 | cons c a ih =>
  have:∀ i,cf (mulQ (c::a) b) i=cf (addQ (sclQ b c) (0::mulQ a b)) i:=fun i=>by
   rw[cf_mul,cf_add,cf_scl,cnv_cons,cf_cons]
   cases i with
   | zero=>grind
   | succ i=>simp only[cf_mul];grind
  rw[ev_cf this,ev_add,ev_scl,evQ,ih,evQ];grind
theorem evQ_cons (a:Rat) (l:List Rat) (x:Rat):evQ (a::l) x=a+x*evQ l x:=rfl
def sdiv (c:Rat):List Rat→List Rat
 | []=>[]
 | [_]=>[]
 | _::b::m=>evQ (b::m) c::sdiv c (b::m)
theorem ev_sdiv (c:Rat) (x:Rat):∀ l:List Rat,evQ l x=(x-c)*evQ (sdiv c l) x+evQ l c
 | []=>by simp only[sdiv,evQ];grind
 | [a]=>by simp only[sdiv,evQ];grind
 | a::b::m=>by
  have ih:=ev_sdiv c x (b::m)
  rw[sdiv,evQ_cons a,evQ_cons (evQ (b::m) c),evQ_cons a,ih]
  grind
theorem cf_sdiv (c:Rat):∀ (l:List Rat) (i:Nat),cf l (i+1)=cf (sdiv c l) i-c*cf (sdiv c l) (i+1)
 | [],i=>by simp only[sdiv,cf_nil];grind
 | [a],i=>by simp only[sdiv,cf_nil,cf_cons];grind
 | a::b::m,i=>by
  have ih:=cf_sdiv c (b::m)
  rw[sdiv]
  simp only[cf_cons]
  cases i with
  | zero =>
   have e:=ev_sdiv c 0 (b::m)
   have h0:∀ l:List Rat,evQ l 0=cf l 0:=fun l=>by cases l<;>simp[evQ,cf_nil,cf_cons];grind
   rw[h0,h0] at e
   simp only[cf_cons] at e
   grind
  | succ i=>simp only;rw[←ih];simp only[cf_cons]
theorem sdiv_len (c:Rat):∀ (l:List Rat),(sdiv c l).length=l.length-1
 | []=>rfl
 | [a]=>rfl
 | a::b::m=>by rw[sdiv,List.length_cons,sdiv_len c (b::m)];simp
theorem ev_zero:∀ (k:Nat) (l:List Rat) (n:Nat),l.length≤k→(∀ m:Nat,n≤m→evQ l (m:Rat)=0)→∀ i,cf l i=0
 | 0,l,n,hl,_,i=>cf_ge (by omega)
 | k+1,l,n,hl,h,i=>by
  have hn:=h n (Nat.le_refl _)
  have ih:=ev_zero k (sdiv (n:Rat) l) (n+1) (by rw[sdiv_len];omega) (fun m hm=>by
   have e:=ev_sdiv (n:Rat) (m:Rat) l
   rw[h m (by omega),hn] at e
   have hne:((m:Rat)-(n:Rat))≠0:=by
    intro e0
    have:(m:Rat)=(n:Rat):=by grind
    rw[Rat.natCast_inj] at this
    omega
   have:((m:Rat)-(n:Rat))*evQ (sdiv (n:Rat) l) (m:Rat)=0:=by grind
   rcases Rat.mul_eq_zero.1 this with h | h
   ·exact absurd h hne
   ·exact h)
  cases i with
  | succ i=>rw[cf_sdiv (n:Rat) l i,ih,ih];grind
  | zero =>
   have e:=ev_sdiv (n:Rat) 0 l
   have h0:∀ l:List Rat,evQ l 0=cf l 0:=fun l=>by cases l<;>simp[evQ,cf_nil,cf_cons];grind
   rw[h0,h0,hn,ih] at e
   grind
theorem ev_ext {a b:List Rat} (h:∀ x,evQ a x=evQ b x) (i:Nat):cf a i=cf b i:=by
 have:=ev_zero _ (subQ a b) 0 (Nat.le_refl _) (fun m _=>by rw[ev_sub,h];grind) i
 rw[cf_sub] at this
 grind
theorem ev_nf {a b:List Rat} (ha:Nf a) (hb:Nf b) (h:∀ x,evQ a x=evQ b x):a=b:=nf_ext ha hb (ev_ext h)
def ld (l:List Rat):Rat:=cf l (l.length-1)
theorem ld_ne {l:List Rat} (h:Nf l) (h0:l≠[]):ld l≠0:=h.resolve_left h0
theorem len_le_of {l:List Rat} {n:Nat} (hn:Nf l) (h:∀ i,n≤i→cf l i=0):l.length≤n:=by
 rcases hn with rfl | hn
 ·exact Nat.zero_le _
 ·rcases Nat.lt_or_ge n l.length with hlt | hge
  ·exact absurd (h _ (by omega)) hn
  ·exact hge
theorem cnv_top {a b:List Rat} (ha:a≠[]) (hb:b≠[]):cnv a b (a.length-1+(b.length-1))=ld a*ld b:=by
 have h1:=List.length_pos_iff.2 ha
 have h2:=List.length_pos_iff.2 hb
 unfold cnv
 rw[sumQ_one (k:=a.length-1) (by omega) fun i hi hne => ?_]
 ·rw[show a.length-1+(b.length-1)-(a.length-1)=b.length-1 by omega];rfl
 ·by_cases h:i<a.length-1
  ·rw[cf_ge (l:=b) (by omega)];grind
  ·rw[cf_ge (l:=a) (by omega)];grind
theorem mul_len {a b:List Rat} (na:Nf a) (nb:Nf b) (ha:a≠[]) (hb:b≠[]):(mulQ a b).length=a.length+b.length-1:=by
 have h1:=List.length_pos_iff.2 ha
 have h2:=List.length_pos_iff.2 hb
 have hle:(mulQ a b).length≤a.length+b.length-1:=len_le_of (nf_mul a b) fun i hi=>by rw[cf_mul];exact cnv_0 (by omega)
 have hne:cf (mulQ a b) (a.length-1+(b.length-1))≠0:=by
  rw[cf_mul,cnv_top ha hb]
  intro e
  rcases Rat.mul_eq_zero.1 e with h | h
  ·exact ld_ne na ha h
  ·exact ld_ne nb hb h
 have:¬ (mulQ a b).length≤a.length-1+(b.length-1):=fun h=>hne (cf_ge h)
 omega
theorem mul_nil_l (b:List Rat):mulQ [] b=[]:=nf_ext (nf_mul _ _) nf_nil fun i=>by rw[cf_mul,cf_nil];exact sumQ_0 fun i _=>by rw[cf_nil];grind
theorem mul_nil_r (b:List Rat):mulQ b []=[]:=nf_ext (nf_mul _ _) nf_nil fun i=>by rw[cf_mul,cf_nil];exact sumQ_0 fun i _=>by rw[cf_nil];grind
theorem mul_len_le (a b:List Rat):(mulQ a b).length≤a.length+b.length-1:=by
 by_cases ha:a=[]
 ·subst ha;rw[mul_nil_l];simp
 ·by_cases hb:b=[]
  ·subst hb;rw[mul_nil_r];simp
  ·have h1:=List.length_pos_iff.2 ha
   have h2:=List.length_pos_iff.2 hb
   exact len_le_of (nf_mul a b) fun i hi=>by rw[cf_mul];exact cnv_0 (by omega)
structure DivQ (p d q r:List Rat):Prop where
 nq:Nf q
 nr:Nf r
 eq:∀ x,evQ p x=evQ q x*evQ d x+evQ r x
 lt:r.length<d.length
theorem DivQ.unique {p d q r q' r':List Rat} (hd:Nf d) (h:DivQ p d q r) (h':DivQ p d q' r'):q=q'∧r=r':=by
 have e:mulQ (subQ q q') d=subQ r' r:=ev_nf (nf_mul _ _) (nf_sub _ _) fun x=>by
  rw[ev_mul,ev_sub,ev_sub]
  have:=h.eq x
  have:=h'.eq x
  grind
 have hl:(subQ r' r).length<d.length:=Nat.lt_of_le_of_lt (len_le_of (nf_sub _ _) (n:=max r'.length r.length) fun i hi=>by rw[cf_sub,cf_ge (by omega),cf_ge (by omega)];grind) (by have:=h.lt;have:=h'.lt;omega)
 have hq:subQ q q'=[]:=by
  by_cases hq:subQ q q'=[]
  ·exact hq
  ·have hdne:d≠[]:=fun e=>by subst e;have:=h.lt;simp at this
   have hm:=mul_len (nf_sub q q') hd hq hdne
   have:=List.length_pos_iff.2 hq
   rw[e] at hm
   omega
 have hqq:q=q':=nf_ext h.nq h'.nq fun i=>by
  have:=cf_sub q q' i
  rw[hq,cf_nil] at this
  grind
 refine⟨hqq,ev_nf h.nr h'.nr fun x => ?_⟩
 have:=h.eq x
 have:=h'.eq x
 rw[hqq] at *
 grind
def Db (D H:Nat) (x:Rat):Prop:=0<D∧∃ k:Int,x*(D:Rat)=(k:Rat)∧k.natAbs≤H
theorem Db.mono {D H H':Nat} {x:Rat} (h:Db D H x) (hH:H≤H'):Db D H' x:=⟨h.1,h.2.elim fun k hk=>⟨k,hk.1,Nat.le_trans hk.2 hH⟩⟩
theorem Db.add {D H H':Nat} {x y:Rat} (h:Db D H x) (h':Db D H' y):Db D (H+H') (x+y):=by
 obtain⟨h0,k,e,b⟩:=h
 obtain⟨_,k',e',b'⟩:=h'
 refine⟨h0,k+k',?_,by omega⟩
 rw[Rat.intCast_add,←e,←e'];grind
theorem Db.neg {D H:Nat} {x:Rat} (h:Db D H x):Db D H (-x):=by
 obtain⟨h0,k,e,b⟩:=h
 refine⟨h0,-k,?_,by omega⟩
 rw[Rat.intCast_neg,←e];grind
theorem Db.sub {D H H':Nat} {x y:Rat} (h:Db D H x) (h':Db D H' y):Db D (H+H') (x-y):=by
 rw[Rat.sub_eq_add_neg];exact h.add h'.neg
theorem Db.mul {D H E G:Nat} {x y:Rat} (h:Db D H x) (h':Db E G y):Db (D*E) (H*G) (x*y):=by
 obtain⟨h0,k,e,b⟩:=h
 obtain⟨h0',k',e',b'⟩:=h'
 refine⟨Nat.mul_pos h0 h0',k*k',?_,by rw[Int.natAbs_mul];exact Nat.mul_le_mul b b'⟩
 rw[Rat.intCast_mul,←e,←e',Rat.natCast_mul];grind
theorem Db.up {D H:Nat} {x:Rat} (h:Db D H x) {E:Nat} (hE:0<E):Db (D*E) (H*E) x:=by
 obtain⟨h0,k,e,b⟩:=h
 refine⟨Nat.mul_pos h0 hE,k*E,?_,by rw[Int.natAbs_mul];exact Nat.mul_le_mul b (by simp)⟩
 rw[Rat.intCast_mul,←e,Rat.natCast_mul,Rat.intCast_natCast];grind
theorem Db.zero {D:Nat} (hD:0<D) (H:Nat):Db D H 0:=⟨hD,0,by simp,by simp⟩
theorem Db.ofInt (z:Int):Db 1 z.natAbs (z:Rat):=⟨by omega,z,by simp,Nat.le_refl _⟩
theorem Db.quo {D H:Nat} {y:Rat} (h':Db D H y) (hy:y≠0):∃ E,E≤H∧∀ z:Rat,Db D H z→Db E H (z / y):=by
 obtain⟨h0,k',e',b'⟩:=h'
 have hk:k'≠0:=by
  rintro rfl
  have hD:(D:Rat)≠0:=by rw[ne_eq,Rat.natCast_eq_zero_iff];omega
  have:y*(D:Rat)=0:=by rw[e'];rfl
  rcases Rat.mul_eq_zero.1 this with h | h
  ·exact hy h
  ·exact hD h
 refine⟨k'.natAbs,b',fun z hz => ?_⟩
 obtain⟨_,k,e,b⟩:=hz
 have hD:(D:Rat)≠0:=by rw[ne_eq,Rat.natCast_eq_zero_iff];omega
 have hk':(k':Rat)≠0:=by rw[ne_eq,Rat.intCast_eq_zero_iff];exact hk
 have hz:z / y*(k':Rat)=(k:Rat):=by rw[←e,←e'];grind
 rcases Int.natAbs_eq k' with h | h
 ·refine⟨by omega,k,?_,b⟩
  rw[←Rat.intCast_natCast,←h,hz]
 ·refine⟨by omega,-k,?_,by omega⟩
  have:((k'.natAbs:Nat):Int) = -k':=by omega
  rw[←Rat.intCast_natCast,this,Rat.intCast_neg,Rat.intCast_neg,←hz];grind
def Bq (n:Nat) (x:Rat):Prop:=x.num.natAbs<2^n∧x.den<2^n
theorem Bq.mono {n m:Nat} {x:Rat} (h:Bq n x) (hm:n≤m):Bq m x:=
 ⟨Nat.lt_of_lt_of_le h.1 (Nat.pow_le_pow_right (by omega) hm),Nat.lt_of_lt_of_le h.2 (Nat.pow_le_pow_right (by omega) hm)⟩
theorem Bq.zero (n:Nat) (hn:0<n):Bq n 0:=⟨by simp;exact Nat.pow_pos (by omega),by simpa using Nat.one_lt_two_pow (by omega)⟩
theorem Db.of_self (x:Rat):Db x.den x.num.natAbs x:=⟨x.den_pos,x.num,by
 have:=Rat.mkRat_self x
 rw[Rat.mkRat_eq_div] at this
 have hd:((x.den:Nat):Rat)≠0:=by rw[ne_eq,Rat.natCast_eq_zero_iff];exact x.den_nz
 have h2:=Rat.div_mul_cancel (a:=(x.num:Rat)) hd
 rw[this] at h2
 exact h2,Nat.le_refl _⟩
theorem Db.bq {D H:Nat} {x:Rat} (h:Db D H x):x.num.natAbs≤H∧x.den≤D:=by
 obtain⟨h0,k,e,b⟩:=h
 have hD:(D:Rat)≠0:=by rw[ne_eq,Rat.natCast_eq_zero_iff];omega
 have hx:x=mkRat k D:=by rw[Rat.mkRat_eq_div,←e];grind
 constructor
 ·rw[hx,Rat.num_mkRat,if_neg (by omega)]
  refine Nat.le_trans ?_ b
  rw[Int.natAbs_ediv_of_dvd (Int.ofNat_dvd_left.2 (Nat.gcd_dvd_right ..))]
  exact Nat.div_le_self ..
 ·rw[hx,Rat.den_mkRat,if_neg (by omega)]
  exact Nat.div_le_self ..
theorem Db.Bq {D H n:Nat} {x:Rat} (h:Db D H x) (hD:D<2^n) (hH:H<2^n):Bq n x:=⟨Nat.lt_of_le_of_lt h.bq.1 hH,Nat.lt_of_le_of_lt h.bq.2 hD⟩
def Lb (D H:Nat) (l:List Rat):Prop:=∀ i,Db D H (cf l i)
theorem Lb.pos {D H:Nat} {l:List Rat} (h:Lb D H l):0<D:=(h 0).1
theorem Lb.mono {D H H':Nat} {l:List Rat} (h:Lb D H l) (hH:H≤H'):Lb D H' l:=fun i=>(h i).mono hH
theorem Lb.nil {D:Nat} (hD:0<D) (H:Nat):Lb D H []:=fun _=>Db.zero hD H
theorem Lb.of {D H:Nat} {l:List Rat} (hD:0<D) (h:∀ x∈l,Db D H x):Lb D H l:=fun i=>by
 unfold cf
 rw[List.getD_eq_getElem?_getD]
 cases e:l[i]? with
 | none=>exact Db.zero hD H
 | some x=>exact h x (List.mem_of_getElem? e)
theorem Lb.trim {D H:Nat} {l:List Rat} (h:Lb D H l):Lb D H (trimQ l):=fun i=>by rw[cf_trim];exact h i
theorem Db.sum {D H:Nat} (hD:0<D):∀ (n:Nat) (f:Nat→Rat),(∀ i,i<n→Db D H (f i))→Db D (n*H) (sumQ n f)
 | 0,_,_=>Db.zero hD _
 | n+1,f,h=>by rw[sumQ,Nat.succ_mul];exact (Db.sum hD n f fun i hi=>h i (by omega)).add (h n (by omega))
def dens (l:List Rat):Nat:=(l.map Rat.den).foldr (· * ·) 1
theorem dens_pos:∀ l:List Rat,0<dens l
 | []=>by simp[dens]
 | x::l=>Nat.mul_pos x.den_pos (dens_pos l)
theorem dens_up {l:List Rat} {x:Rat} (h:x∈l):∃ E,0<E∧dens l=x.den*E:=by
 induction l with
 | nil=>cases h
 | cons y l ih =>
  have e:dens (y::l)=y.den*dens l:=rfl
  rcases List.mem_cons.1 h with rfl | h
  ·exact⟨dens l,dens_pos l,e⟩
  ·obtain⟨E,h1,h2⟩:=ih h
   exact⟨y.den*E,Nat.mul_pos y.den_pos h1,by rw[e,h2,Nat.mul_left_comm]⟩
theorem dens_le {n:Nat} {l:List Rat} (h:∀ x∈l,x.den≤2^n):dens l≤2^(n*l.length):=by
 induction l with
 | nil=>simp[dens]
 | cons y l ih =>
  have e:dens (y::l)=y.den*dens l:=rfl
  rw[e,List.length_cons,Nat.mul_succ,Nat.pow_add,Nat.mul_comm]
  exact Nat.mul_le_mul (ih fun x hx=>h x (by simp[hx])) (h y (by simp))
theorem Lb.of_bq {n:Nat} {l:List Rat} (h:∀ x∈l,Bq n x):Lb (dens l) (2^(n+n*l.length)) l:=by
 refine Lb.of (dens_pos l) fun x hx => ?_
 obtain⟨E,h1,h2⟩:=dens_up hx
 rw[h2]
 refine ((Db.of_self x).up h1).mono ?_
 rw[Nat.pow_add]
 refine Nat.mul_le_mul (Nat.le_of_lt (h x hx).1) ?_
 refine Nat.le_trans ?_ (dens_le fun x hx=>Nat.le_of_lt (h x hx).2)
 rw[h2]
 exact Nat.le_mul_of_pos_left _ x.den_pos
end Go.Proofs.Ytdjbfgfbpimakaa.M
end

section
namespace Go.Proofs.Ytdjbfgfbpimakaa.M
open Go.RowKit
inductive AV where
 | und
 | p (d:D)
 | agg (l:List AV)
 | tup (l:List AV)
 | nils (T:TypeId) (sz:Nat)
 | slice (id off len:Nat)
 | ptr (id i off:Nat)
 deriving Inhabited
inductive Cont where
 | row (l:List D)
 | box (v:AV)
 | junk
structure AObj where
 T:TypeId
 sz:Nat
 cont:Cont
 frz:Bool
abbrev Mem:=Nat→Option AObj
def upd {α:Type} (f:Nat→α) (i:Nat) (v:α):Nat→α:=fun j=>if j=i then v else f j
theorem upd_same {α:Type} (f:Nat→α) (i:Nat) (v:α):upd f i v i=v:=by simp[upd]
theorem upd_ne {α:Type} (f:Nat→α) {i j:Nat} (v:α) (h:j≠i):upd f i v j=f j:=by simp[upd,h]
theorem upd_comm {α:Type} (f:Nat→α) {i j:Nat} (v u:α) (h:i≠j):upd (upd f i v) j u=upd (upd f j u) i v:=by
 funext k
 unfold upd
 by_cases h1:k=i<;>by_cases h2:k=j<;>simp_all
structure St where
 r:Nat→AV
 m:Mem
structure Loc where
 b:Nat
 o:Nat
 n:Nat
 sz:Nat
 nil:Bool
abbrev Locs:=Nat→Option Loc
def AV.cells:AV→List AV
 | .p d=>d.cells.map .p
 | .agg l=>l
 | v=>[v]
def AV.one:AV→Bool
 | .p d=>d.one
 | .nils .. | .slice .. | .ptr .. => true
 | _=>false
def AV.isAgg:AV→Option Bool
 | .p d=>some d.isAgg
 | .agg _=>some true
 | .und=>none
 | _=>some false
inductive RV (w:World) (N:Nat→Prop) (loc:Locs):Value→AV→Prop where
 | und (v:Value):RV w N loc v .und
 | p (v:Value) (d:D):V w N v d→RV w N loc v (.p d)
 | agg (cs:Array Value) (l:List AV):cs.size=l.length→(∀ d∈l,d.one=true)→(∀ i d,l[i]? = some d→RV w N loc (cs.getD i undef) d)→RV w N loc (.agg cs) (.agg l)
 | tup (cs:Array Value) (l:List AV):cs.size=l.length→(∀ i d,l[i]? = some d→RV w N loc (cs.getD i undef) d)→RV w N loc (.tuple cs) (.tup l)
 | nils (T:TypeId) (sz:Nat):RV w N loc (.slice none 0 0) (.nils T sz)
 | slice (L:Loc) (id off len cap:Nat):loc id=some L→L.nil=false→len≤cap→cap≤9223372036854775807→L.o+(off*L.sz+cap*L.sz)≤L.n →
   RV w N loc (.slice (some ⟨L.b,L.o+off*L.sz,none⟩) len cap) (.slice id off len)
 | sliceEmp (L:Loc) (id off:Nat) (p:Option Addr):loc id=some L→RV w N loc (.slice p 0 0) (.slice id off 0)
 | ptr (L:Loc) (id i off:Nat):loc id=some L→L.nil=false→RV w N loc (.pointer (some ⟨L.b,L.o+(i*L.sz+off),none⟩)) (.ptr id i off)
theorem RV.mono {w w':World} {N N':Nat→Prop} {loc loc':Locs} {v:Value} {d:AV} (h:RV w N loc v d) (hs:∀ b,N b→w'.heap[b]? = w.heap[b]?) (hn:∀ b,N b→N' b)
  (hl:∀ id L,loc id=some L→loc' id=some L):RV w' N' loc' v d:=by
 induction h with
 | und v=>exact .und v
 | p v d h=>exact .p v d (h.mono hs hn)
 | agg cs l h1 h2 _ ih=>exact .agg cs l h1 h2 ih
 | tup cs l h1 _ ih=>exact .tup cs l h1 ih
 | nils T sz=>exact .nils T sz
 | slice L id off len cap h1 h2 h3 h4 h5=>exact .slice L id off len cap (hl _ _ h1) h2 h3 h4 h5
 | sliceEmp L id off p h1=>exact .sliceEmp L id off p (hl _ _ h1)
 | ptr L id i off h1 h2=>exact .ptr L id i off (hl _ _ h1) h2
theorem RV.one {w:World} {N:Nat→Prop} {loc:Locs} {v:Value} {d:AV} (h:RV w N loc v d) (ho:d.one=true):v.oneCell'=true:=by
 cases h with
 | p v d h=>exact h.one ho
 | _=>first | rfl | simp[AV.one] at ho
theorem RV.cells {w:World} {N:Nat→Prop} {loc:Locs} {v:Value} {d:AV} (h:RV w N loc v d) (ho:∀ e∈d.cells,e.one=true) :
  v.cells.size=d.cells.length∧∀ i e,d.cells[i]? = some e→RV w N loc (v.cells.getD i undef) e:=by
 cases h with
 | und=>simp[AV.cells,AV.one] at ho
 | tup=>simp[AV.cells,AV.one] at ho
 | p v d h =>
  have ht:∀ l,d≠.tup l:=by rintro l rfl;simp[AV.cells,D.cells,AV.one,D.one] at ho
  obtain⟨h1,h2⟩:=h.cells ht
  refine⟨by simpa[AV.cells] using h1,fun i e he => ?_⟩
  simp only[AV.cells,List.getElem?_map,Option.map_eq_some_iff] at he
  obtain⟨x,hx,rfl⟩:=he
  exact .p _ _ (h2 i x hx).2
 | agg cs l h1 h2 h3=>exact⟨h1,h3⟩
 | _ =>
  refine⟨rfl,fun i e he => ?_⟩
  match i,he with
  | 0,he =>
   simp only[AV.cells,List.getElem?_cons_zero,Option.some.injEq] at he
   subst he
   simp only[Value.cells,Array.getD_eq_getD_getElem?,List.getElem?_toArray,List.getElem?_cons_zero,Option.getD_some]
   first
    | exact .nils _ _
    | exact .slice _ _ _ _ _ ‹_› ‹_› ‹_› ‹_› ‹_›
    | exact .sliceEmp _ _ _ _ ‹_›
    | exact .ptr _ _ _ _ ‹_› ‹_›
  | i+1,he=>simp[AV.cells] at he
def ownB (M:Mem) (loc:Locs) (b:Nat):Prop:=∃ id o L,M id=some o∧o.frz=false∧loc id=some L∧L.nil=false∧L.b=b
def NB (base:Nat→Prop) (M:Mem) (loc:Locs) (w:World) (b:Nat):Prop:=b<w.heap.size∧¬ base b∧¬ ownB M loc b
def ContOk (w:World) (N:Nat→Prop) (loc:Locs) (c:Array Value) (o sz:Nat):Cont→Prop
 | .row l=>o+l.length*sz≤c.size∧(∀ e∈l,e.cells.length=sz)∧(∀ i e j d,l[i]? = some e→e.cells[j]? = some d→d.one=true∧V w N (c.getD (o+(i*sz+j)) undef) d)
 | .junk=>o+sz≤c.size
 | .box v=>o+sz≤c.size∧v.cells.length=sz∧(∀ e∈v.cells,e.one=true)∧(∀ j d,v.cells[j]? = some d→RV w N loc (c.getD (o+j) undef) d)
structure ObjOk (w0:World) (base:Nat→Prop) (M:Mem) (loc:Locs) (w:World) (o:AObj) (L:Loc):Prop where
 sz:L.sz=o.sz
 nil:L.nil=true→o.cont = .row []
 at_:L.nil=false→∃ c fr,w.heap[L.b]? = some (.cells c o.T fr)∧c.size=L.n∧ContOk w (NB base M loc w) loc c L.o o.sz o.cont ∧
  (o.frz=false→w0.heap.size≤L.b∧∀ x,x<L.n→(decide (fr.1≤x)&&decide (x<fr.2))=false)∧(o.frz=true→NB base M loc w L.b)
structure Rel (w0:World) (base:Nat→Prop) (nt:Nat) (loc:Locs) (s:St) (a:Act) (w:World):Prop where
 ext:Ext w0 w
 defers:a.defers=[]
 size:a.tmps.size=nt
 low:∀ b,base b→b<w0.heap.size
 dom:∀ id,s.m id=none→loc id=none
 tmps:∀ t,RV w (NB base s.m loc w) loc (a.tmps.getD t undef) (s.r t)
 objs:∀ id o,s.m id=some o→∃ L,loc id=some L∧ObjOk w0 base s.m loc w o L
 inj:∀ id id' o o' L L',s.m id=some o→s.m id'=some o'→o.frz=false→loc id=some L→loc id'=some L'→L.nil=false→L'.nil=false→L.b=L'.b→id=id'
section
variable {w0:World} {base:Nat→Prop} {nt:Nat} {loc:Locs} {s:St} {a:Act} {w:World}
theorem Rel.put (h:Rel w0 base nt loc s a w) {t:Nat} (ht:t<nt) {v:Value} {d:AV} (hv:RV w (NB base s.m loc w) loc v d) :
  Rel w0 base nt loc ⟨upd s.r t d,s.m⟩ (a.put (some t) v) w:=by
 refine⟨h.ext,h.defers,by simp[Act.put,h.size],h.low,h.dom,fun u => ?_,h.objs,h.inj⟩
 by_cases hu:u=t
 ·subst hu
  simp only[upd_same,Act.put,Array.getD_eq_getD_getElem?,Array.getElem?_setIfInBounds_self,h.size,ht,if_true,Option.getD_some]
  exact hv
 ·have hu':t≠u:=fun e=>hu e.symm
  simp only[upd_ne _ _ hu,Act.put,Array.getD_eq_getD_getElem?,Array.getElem?_setIfInBounds_ne hu']
  have:=h.tmps u
  rwa[Array.getD_eq_getD_getElem?] at this
theorem ContOk.mono {w w':World} {N N':Nat→Prop} {loc loc':Locs} {c:Array Value} {o sz:Nat} {k:Cont} (h:ContOk w N loc c o sz k) (hs:∀ b,N b→w'.heap[b]? = w.heap[b]?) (hn:∀ b,N b→N' b)
  (hl:∀ id L,loc id=some L→loc' id=some L):ContOk w' N' loc' c o sz k:=by
 cases k with
 | row l=>exact⟨h.1,h.2.1,fun i e j d h1 h2=>⟨(h.2.2 i e j d h1 h2).1,(h.2.2 i e j d h1 h2).2.mono hs hn⟩⟩
 | box v=>exact⟨h.1,h.2.1,h.2.2.1,fun j d h1=>(h.2.2.2 j d h1).mono hs hn hl⟩
 | junk=>exact h
theorem Rel.later (h:Rel w0 base nt loc s a w) {w':World} (he:Ext w w'):Rel w0 base nt loc s a w':=by
 have hs:∀ b,NB base s.m loc w b→w'.heap[b]? = w.heap[b]?:=fun b hb=>he.block b hb.1
 have hn:∀ b,NB base s.m loc w b→NB base s.m loc w' b:=fun b hb=>⟨Nat.lt_of_lt_of_le hb.1 he.size,hb.2⟩
 refine⟨h.ext.tr he,h.defers,h.size,h.low,h.dom,fun t=>(h.tmps t).mono hs hn (fun _ _ x=>x),fun id o ho => ?_,h.inj⟩
 obtain⟨L,hL,hok⟩:=h.objs id o ho
 refine⟨L,hL,hok.sz,hok.nil,fun hnil => ?_⟩
 obtain⟨c,fr,h1,h2,h3,h4,h5⟩:=hok.at_ hnil
 have hlt:L.b<w.heap.size:=by
  rcases Nat.lt_or_ge L.b w.heap.size with hlt | hge
  ·exact hlt
  ·rw[Array.getElem?_eq_none hge] at h1;cases h1
 exact⟨c,fr,(he.block _ hlt).trans h1,h2,h3.mono hs hn (fun _ _ x=>x),h4,fun hf=>hn _ (h5 hf)⟩
theorem Rel.obj_lt (h:Rel w0 base nt loc s a w) {id:Nat} {o:AObj} {L:Loc} (ho:s.m id=some o) (hL:loc id=some L) (hn:L.nil=false):L.b<w.heap.size:=by
 obtain⟨L',hL',hok⟩:=h.objs id o ho
 rw[hL] at hL'
 cases hL'
 obtain⟨c,fr,h1,_⟩:=hok.at_ hn
 rcases Nat.lt_or_ge L.b w.heap.size with hlt | hge
 ·exact hlt
 ·rw[Array.getElem?_eq_none hge] at h1;cases h1
theorem Rel.alloc (h:Rel w0 base nt loc s a w) {id:Nat} (hid:s.m id=none) {T:TypeId} {sz:Nat} {k:Cont} {c:Array Value}
  (hk:ContOk w (NB base s.m loc w) loc c 0 sz k) :
  ∃ loc',loc' id=some ⟨w.heap.size,0,c.size,sz,false⟩∧Rel w0 base nt loc' ⟨s.r,upd s.m id (some ⟨T,sz,k,false⟩)⟩ a (w.alloc (.cells c T)):=by
 have hloc:=h.dom id hid
 refine⟨upd loc id (some ⟨w.heap.size,0,c.size,sz,false⟩),upd_same _ _ _,?_⟩
 have hl:∀ i L,loc i=some L→upd loc id (some ⟨w.heap.size,0,c.size,sz,false⟩) i=some L:=fun i L hi=>by
  rw[upd_ne];exact hi
  rintro rfl;rw[hloc] at hi;cases hi
 have hext:Ext w (w.alloc (.cells c T)):=(Below.refl _ _).alloc (Nat.le_refl _) _
 have hs:∀ b,NB base s.m loc w b→(w.alloc (.cells c T)).heap[b]? = w.heap[b]?:=fun b hb=>hext.block b hb.1
 have hn:∀ b,NB base s.m loc w b→NB base (upd s.m id (some ⟨T,sz,k,false⟩)) (upd loc id (some ⟨w.heap.size,0,c.size,sz,false⟩)) (w.alloc (.cells c T)) b:=by
  rintro b ⟨h1,h2,h3⟩
  refine⟨by simp;omega,h2,?_⟩
  rintro⟨i,o,L,ho,hf,hL,hnil,hb⟩
  by_cases hi:i=id
  ·subst hi
   rw[upd_same] at hL
   cases hL
   simp at hb;omega
  ·rw[upd_ne _ _ hi] at ho hL
   exact h3 ⟨i,o,L,ho,hf,hL,hnil,hb⟩
 refine⟨h.ext.tr hext,h.defers,h.size,h.low,?_,fun t=>(h.tmps t).mono hs hn hl,?_,?_⟩
 ·intro i hi
  dsimp only at hi
  by_cases e:i=id
  ·subst e;rw[upd_same] at hi;cases hi
  ·rw[upd_ne _ _ e] at hi ⊢;exact h.dom i hi
 ·intro i o ho
  dsimp only at ho
  by_cases e:i=id
  ·subst e
   rw[upd_same] at ho
   cases ho
   refine⟨_,upd_same _ _ _,rfl,by simp,fun _=>⟨c,(0,0),heap_alloc_new w _,rfl,hk.mono hs hn hl,fun _=>⟨h.ext.size,?_⟩,by simp⟩⟩
   intro x _
   simp
  ·rw[upd_ne _ _ e] at ho
   obtain⟨L,hL,hok⟩:=h.objs i o ho
   refine⟨L,hl i L hL,hok.sz,hok.nil,fun hnil => ?_⟩
   obtain⟨c',fr,h1,h2,h3,h4,h5⟩:=hok.at_ hnil
   have hlt:=h.obj_lt ho hL hnil
   exact⟨c',fr,(hext.block _ hlt).trans h1,h2,h3.mono hs hn hl,h4,fun hf=>hn _ (h5 hf)⟩
 ·intro i i' o o' L L' ho ho' hf hL hL' hnil hnil' hb
  dsimp only at ho ho'
  by_cases e:i=id
  ·subst e
   rw[upd_same] at hL
   cases hL
   by_cases e':i'=i
   ·exact e'.symm
   ·rw[upd_ne _ _ e'] at ho' hL'
    have:=h.obj_lt ho' hL' hnil'
    simp at hb;omega
  ·rw[upd_ne _ _ e] at ho hL
   by_cases e':i'=id
   ·subst e'
    rw[upd_same] at hL'
    cases hL'
    have:=h.obj_lt ho hL hnil
    simp at hb;omega
   ·rw[upd_ne _ _ e'] at ho' hL'
    exact h.inj i i' o o' L L' ho ho' hf hL hL' hnil hnil' hb
end
end Go.Proofs.Ytdjbfgfbpimakaa.M
end

section
namespace Go.Proofs.Ytdjbfgfbpimakaa
def valL:List Int→Int
 | []=>0
 | x::t=>x+4294967296*valL t
def Dig (l:List Int):Prop:=∀ x∈l,0≤x∧x≤4294967295
def Norm (l:List Int):Prop:=l=[]∨at_ l (l.length-1)≠0
def sg (n:Bool) (z:Int):Int:=if n then -z else z
def cmpZ (x y:Int):Int:=if x<y then -1 else if x=y then 0 else 1
def sgnZ (x:Int):Int:=if x<0 then -1 else if x=0 then 0 else 1
theorem at_cons_zero (x:Int) (t:List Int):at_ (x::t) 0=x:=rfl
theorem at_cons_succ (x:Int) (t:List Int) (i:Nat):at_ (x::t) (i+1)=at_ t i:=by simp[at_]
theorem list_ext_at {a b:List Int} (hl:a.length=b.length) (h:∀ j,at_ a j=at_ b j):a=b:=by
 apply List.ext_getElem hl
 intro i h1 h2
 have:=h i
 rwa[at_lt h1,at_lt h2] at this
theorem Dig.at_ {l:List Int} (h:Dig l) (i:Nat):0≤at_ l i∧at_ l i≤4294967295:=by
 by_cases hi:i<l.length
 ·exact h _ (at_mem hi)
 ·rw[at_ge (by omega)];omega
theorem Dig.tail {x:Int} {t:List Int} (h:Dig (x::t)):Dig t:=fun y hy=>h y (List.mem_cons_of_mem _ hy)
theorem valL_nonneg {l:List Int} (h:Dig l):0≤valL l:=by
 induction l with
 | nil=>simp[valL]
 | cons x t ih=>have:=ih h.tail;have:=h x (List.mem_cons_self ..);simp only[valL];omega
theorem valL_zero {l:List Int} (h:∀ j,at_ l j=0):valL l=0:=by
 induction l with
 | nil=>rfl
 | cons x t ih =>
  have h0:=h 0
  have ht:∀ j,at_ t j=0:=fun j=>by have:=h (j+1);rwa[at_cons_succ] at this
  rw[at_cons_zero] at h0
  simp[valL,h0,ih ht]
theorem valL_take {l:List Int} {k:Nat} (h:∀ j,k≤j→at_ l j=0):valL (l.take k)=valL l:=by
 induction l generalizing k with
 | nil=>simp
 | cons x t ih =>
  match k with
  | 0=>rw[valL_zero (l:=x::t) (fun j=>h j (by omega))];rfl
  | k+1 =>
   simp only[List.take_succ_cons,valL]
   rw[ih (fun j hj=>by have:=h (j+1) (by omega);rwa[at_cons_succ] at this)]
theorem valL_pos {l:List Int} (hd:Dig l) {i:Nat} (hi:at_ l i≠0):0<valL l:=by
 induction l generalizing i with
 | nil=>simp[at_] at hi
 | cons x t ih =>
  have hx:=hd x (List.mem_cons_self ..)
  have ht:=valL_nonneg hd.tail
  simp only[valL]
  match i with
  | 0=>rw[at_cons_zero] at hi;omega
  | i+1=>rw[at_cons_succ] at hi;have:=ih hd.tail hi;omega
theorem valL_pos' {l:List Int} (hd:Dig l) (hn:Norm l) (hne:l≠[]):0<valL l:=by
 rcases hn with h | h
 ·exact absurd h hne
 ·exact valL_pos hd h
theorem valL_eq_zero {l:List Int} (hd:Dig l) (hn:Norm l):valL l=0↔l=[]:=by
 constructor
 ·intro h
  by_cases hne:l=[]
  ·exact hne
  ·have:=valL_pos' hd hn hne;omega
 ·rintro rfl;rfl
theorem valL_take_succ (l:List Int) (i:Nat):valL (l.take (i+1))=valL (l.take i)+at_ l i*4294967296^i:=by
 induction l generalizing i with
 | nil=>simp[valL,at_]
 | cons x t ih =>
  match i with
  | 0=>simp[valL,at_]
  | i+1 =>
   simp only[List.take_succ_cons,valL,at_cons_succ]
   rw[ih i,Int.pow_succ]
   grind
theorem valL_lt {l:List Int} (hd:Dig l):valL l<4294967296^l.length:=by
 induction l with
 | nil=>simp[valL]
 | cons x t ih =>
  have h1:=ih hd.tail
  have hx:=hd x (List.mem_cons_self ..)
  simp only[valL,List.length_cons,Int.pow_succ]
  generalize (4294967296:Int)^t.length=p at *
  omega
theorem pow_pos' (i:Nat):(0:Int)<4294967296^i:=Int.pow_pos (by omega)
theorem pow_mono' {i j:Nat} (h:i≤j):(4294967296:Int)^i≤4294967296^j:=by
 induction j with
 | zero =>
      obtain rfl:i=0:=by omega
      exact Int.le_refl _
 | succ j ih =>
  by_cases e:i=j+1
  ·subst e;exact Int.le_refl _
  ·have:=ih (by omega)
   have hp:=pow_pos' j
   rw[Int.pow_succ]
   omega
theorem valL_ge {l:List Int} (hd:Dig l) {i:Nat} (hi:at_ l i≠0):4294967296^i≤valL l:=by
 induction l generalizing i with
 | nil=>simp[at_] at hi
 | cons x t ih =>
  have hx:=hd x (List.mem_cons_self ..)
  have ht:=valL_nonneg hd.tail
  simp only[valL]
  match i with
  | 0=>rw[at_cons_zero] at hi;simp;omega
  | i+1 =>
   rw[at_cons_succ] at hi
   have:=ih hd.tail hi
   rw[Int.pow_succ]
   generalize (4294967296:Int)^i=p at *
   omega
theorem valL_lt_of_len {a b:List Int} (ha:Dig a) (hb:Dig b) (hn:Norm b) (h:a.length<b.length):valL a<valL b:=by
 rcases hn with rfl | hn
 ·simp at h
 ·have h1:=valL_lt ha
  have h2:=valL_ge hb hn
  have h3:=pow_mono' (i:=a.length) (j:=b.length-1) (by omega)
  omega
theorem valL_lt_of_at {a b:List Int} (ha:Dig a) (hb:Dig b) (hl:a.length=b.length) {i:Nat} (hi:i<a.length) (heq:∀ j,i<j→at_ a j=at_ b j) (hlt:at_ a i<at_ b i):valL a<valL b:=by
 induction a generalizing b i with
 | nil=>simp at hi
 | cons x s ih =>
  match b,hl with
  | y::t,hl =>
   have hx:=ha x (List.mem_cons_self ..)
   have hy:=hb y (List.mem_cons_self ..)
   simp only[List.length_cons,Nat.add_right_cancel_iff] at hl
   simp only[valL]
   match i,hi,heq,hlt with
   | 0,_,heq,hlt =>
    have:s=t:=list_ext_at hl (fun j=>by have:=heq (j+1) (by omega);rwa[at_cons_succ,at_cons_succ] at this)
    subst this
    rw[at_cons_zero,at_cons_zero] at hlt
    omega
   | i+1,hi,heq,hlt =>
    rw[at_cons_succ,at_cons_succ] at hlt
    have:=ih ha.tail hb.tail hl (i:=i) (by simpa using hi) (fun j hj=>by have:=heq (j+1) (by omega);rwa[at_cons_succ,at_cons_succ] at this) hlt
    omega
theorem cmpZ_lt {x y:Int} (h:x<y):cmpZ x y = -1:=by simp[cmpZ,h]
theorem cmpZ_gt {x y:Int} (h:y<x):cmpZ x y=1:=by unfold cmpZ;rw[if_neg (by omega),if_neg (by omega)]
theorem cmpZ_eq {x y:Int} (h:x=y):cmpZ x y=0:=by simp[cmpZ,h]
theorem at_set_eq {l:List Int} {i:Nat} (h:i<l.length) (v:Int):at_ (l.set i v) i=v:=by simp[at_,h]
theorem at_set_ne {l:List Int} {i j:Nat} (h:i≠j) (v:Int):at_ (l.set i v) j=at_ l j:=by simp[at_,h]
theorem take_set (l:List Int) (i:Nat) (v:Int):(l.set i v).take i=l.take i:=by
 rw[List.take_set_of_le (Nat.le_refl _)]
theorem valL_set {l:List Int} {i:Nat} (h:i<l.length) (v:Int):valL ((l.set i v).take (i+1))=valL (l.take i)+v*4294967296^i:=by
 rw[valL_take_succ,take_set,at_set_eq h]
theorem Dig.set {l:List Int} (hd:Dig l) (i:Nat) {v:Int} (hv:0≤v∧v≤4294967295):Dig (l.set i v):=by
 intro x hx
 rcases List.mem_or_eq_of_mem_set hx with h | h
 ·exact hd x h
 ·subst h;exact hv
def Bt (z:Int) (n:Nat):Prop:=z.natAbs<2^n
def maxBits:Nat:=140737488355328
theorem maxBits_eq:maxBits=140737488355328:=rfl
attribute [irreducible] maxBits
def Sm (z:Int):Prop:=Bt z maxBits
theorem Bt.mono {z:Int} {m n:Nat} (h:Bt z m) (hmn:m≤n):Bt z n:=Nat.lt_of_lt_of_le h (Nat.pow_le_pow_right (by omega) hmn)
theorem Bt.sm {z:Int} {n:Nat} (h:Bt z n) (hn:n≤140737488355328):Sm z:=h.mono (by rw[maxBits_eq];exact hn)
theorem Bt.le {y z:Int} {n:Nat} (h:Bt z n) (hyz:y.natAbs≤z.natAbs):Bt y n:=Nat.lt_of_le_of_lt hyz h
theorem Sm.bt {z:Int} (h:Sm z):Bt z maxBits:=h
theorem Sm.le {y z:Int} (h:Sm z) (hyz:y.natAbs≤z.natAbs):Sm y:=Bt.le h hyz
theorem bt_zero (n:Nat):Bt 0 n:=by unfold Bt;simpa using Nat.pow_pos (n:=n) (show 0<2 by omega)
theorem sm_zero:Sm 0:=bt_zero _
theorem Bt.neg {z:Int} {n:Nat} (h:Bt z n):Bt (-z) n:=h.le (by omega)
theorem Sm.neg {z:Int} (h:Sm z):Sm (-z):=Bt.neg h
theorem Bt.add {a b:Int} {n:Nat} (ha:Bt a n) (hb:Bt b n):Bt (a+b) (n+1):=by
 unfold Bt at *
 rw[Nat.pow_succ]
 omega
theorem Bt.sub {a b:Int} {n:Nat} (ha:Bt a n) (hb:Bt b n):Bt (a-b) (n+1):=by
 unfold Bt at *
 rw[Nat.pow_succ]
 omega
theorem Bt.mul {a b:Int} {m n:Nat} (ha:Bt a m) (hb:Bt b n):Bt (a*b) (m+n):=by
 unfold Bt at *
 rw[Int.natAbs_mul,Nat.pow_add]
 exact Nat.mul_lt_mul'' ha hb
theorem pow32 (i:Nat):(4294967296:Int)^i=((2^(32*i):Nat):Int):=by
 rw[Nat.pow_mul,Int.natCast_pow];rfl
theorem len_of_bt {l:List Int} {n:Nat} (hd:Dig l) (hn:Norm l) (h:Bt (valL l) n):32*l.length≤n+32:=by
 rcases hn with rfl | hn
 ·simp
 ·have h1:=valL_ge hd hn
  have h2:=valL_nonneg hd
  unfold Bt at h
  rw[pow32] at h1
  have h3:2^(32*(l.length-1))<2^n:=by omega
  rcases Nat.lt_or_ge (32*(l.length-1)) n with h4 | h4
  ·omega
  ·have:=Nat.pow_le_pow_right (n:=2) (by omega) h4
   omega
theorem natAbs_sg (n:Bool) (z:Int):(sg n z).natAbs=z.natAbs:=by unfold sg;split<;>omega
theorem neg_iff {n:Bool} {l:List Int} (hd:Dig l) (hn:Norm l) (h0:l=[]→n=false):sg n (valL l)<0↔n=true:=by
 by_cases hl:l=[]
 ·subst hl;rw[h0 rfl];simp[sg,valL]
 ·have:=valL_pos' hd hn hl
  cases n
  ·simp[sg];omega
  ·simp[sg];omega
theorem valL_set_full {l:List Int} {i:Nat} (h:i<l.length) (v:Int):valL (l.set i v)=valL l+(v-at_ l i)*4294967296^i:=by
 induction l generalizing i with
 | nil=>simp at h
 | cons x t ih =>
  match i with
  | 0=>simp[valL,at_];omega
  | i+1 =>
   simp only[List.set_cons_succ,valL,at_cons_succ]
   rw[ih (by simpa using h),Int.pow_succ]
   grind
theorem mul_bound {x y:Int} (hx:0≤x∧x≤4294967295) (hy:0≤y∧y≤4294967295):0≤x*y∧x*y≤18446744065119617025:=by
 refine⟨Int.mul_nonneg hx.1 hy.1,?_⟩
 have:=Int.mul_le_mul hx.2 hy.2 hy.1 (by omega)
 omega
theorem mul_step {V c V0 x vb y ok p q bi Y:Int} (h:V+c*p=V0+x*vb*bi) (hq:p*4294967296=q) (hp:y*p=Y*bi) :
  V+((c+(x*y+ok)) % 4294967296-ok)*p+(c+(x*y+ok)) / 4294967296*q=V0+x*(vb+Y)*bi:=by
 have h1:(c+(x*y+ok)) % 4294967296=(c+(x*y+ok))-4294967296*((c+(x*y+ok)) / 4294967296):=by omega
 rw[h1,←hq]
 generalize (c+(x*y+ok)) / 4294967296=d
 grind
end Go.Proofs.Ytdjbfgfbpimakaa
end

section
namespace Go.Proofs.Ytdjbfgfbpimakaa
open Go.RowKit
def Own (w:World) (b:Nat) (T:TypeId) (k:IntKind) (l:List Int):Prop:=w.heap[b]? = some (.cells (l.map (Value.int k)).toArray T (0,0))
section
variable {w w':World} {b:Nat} {T:TypeId} {k:IntKind} {l:List Int}
theorem Own.lt (h:Own w b T k l):b<w.heap.size:=by
 rcases Nat.lt_or_ge b w.heap.size with hlt | hge
 ·exact hlt
 ·unfold Own at h;rw[Array.getElem?_eq_none hge] at h;cases h
theorem Own.ty (h:Own w b T k l):Ty w b T:=⟨_,_,h⟩
theorem Own.cell (h:Own w b T k l) {i:Nat} (hi:i<l.length):w.cell? ⟨b,i,none⟩=some (.int k (at_ l i)):=by
 rw[cell_of_row w b i _ T (0,0) h]
 simp[at_,hi]
theorem Own.frozen (h:Own w b T k l) (i:Nat):w.frozen? ⟨b,i,none⟩=false:=by
 unfold Own at h
 simp[World.frozen?,h]
theorem Own.keep (h:Own w b T k l) (e:Ext w w'):Own w' b T k l:=(e.block b h.lt).trans h
theorem Own.dr (h:Own w b T k l):Own w.drew b T k l:=h
theorem Own.far (h:Own w b T k l) {p:Addr} (hp:b≠p.block) (u:Value):Own (w.setCell p u) b T k l:=(Below.heap_setCell w p u b hp).trans h
theorem Own.new {w:World} {n:Nat} {c:Array Value} {T:TypeId} {k:IntKind} {l:List Int} (hn:n=w.heap.size) (hc:c=(l.map (Value.int k)).toArray):Own (w.alloc (.cells c T)) n T k l:=by
 subst hn;subst hc;exact heap_alloc_new w _
theorem Own.set (h:Own w b T k l) (i:Nat) (v:Int):Own (w.setCell ⟨b,i,none⟩ (.int k v)) b T k (l.set i v):=by
 unfold Own at h ⊢
 simp[World.setCell,Array.getElem?_modify,h,List.map_set]
theorem Own.isL (h:Own w b (ET k) k l) (hm:l.length≤9223372036854775807) (hf:∀ x∈l,Fit k x):IsL w ⟨some ⟨b,0,none⟩,l.length,l.length⟩ k l:=
 IsL.mk_ (Nat.le_refl _) hm (fun _=>⟨b,0,rfl,h.ty,fun j hj=>by rw[Nat.zero_add];exact h.cell hj⟩) hf
theorem Own.of_row {base n:Nat} (h:w.ownsRow base T 1 (.slice (some ⟨b,0,none⟩) n n) n (l.map (Value.int k))):Own w b T k l:=by
 obtain⟨h1,h2⟩:=h
 rcases h2 with⟨h2,_⟩ | ⟨g,cap,cur,hv,_,hg,_,_,hs,ht⟩
 ·cases h2
 ·injection hv with e1 e2 e3
  injection e1 with e1
  injection e1 with e1
  subst e1;subst e3
  unfold Own
  rw[hg,←ht,List.take_of_length_le (by simp;omega)]
end
theorem grown_ext {a b:World} (h:a.grownBy b none):Ext a b:=(Ext.rf a).gr h (fun _ h=>by cases h)
theorem wpL_make {P:Program} (w:World) {ops:Array Oper} {rest:List Oper} {o:Oper} {a:Act} {Q:Exit→Act→World→Prop}
  (hg:o.guard=none) (l c:Operand) (t:TypeId) (hop:o.op=Op.makeSlice t l c)
  (e:TypeId) (k:IntKind) (bytes:Nat) (h1:P.underlying t=some (.slice e)) (hinfo:(P.info? e).map (fun i=>(i.zero,i.size,i.bytes))=some (some (.int k 0),1,bytes))
  (kl kc:IntKind) (L C:Int) (n:Nat) (hl:a.eval l = .int kl L) (hc:a.eval c = .int kc C) (hL:L=(n:Int)) (hC:C=(n:Int)) (b2:bytes*n≤281474976710656) (b3:n≤9223372036854775807)
  (hK:∀ w',Own w' w.heap.size e k (List.replicate n 0)→Ext w w'→w.heap.size<w'.heap.size→wpList P ops Q rest (a.put o.dst (.slice (some ⟨w.heap.size,0,none⟩) n n)) w') :
  wpList P ops Q (o::rest) a w:=by
 obtain⟨i,hi,hz0,hz1,hz2⟩:=info_parts hinfo
 refine wpList_make_full w hg l c t hop w.heap.size e i _ 1 h1 hi hz0 hz1 kl kc L C n hl hc hL hC (by rw[hz2];exact b2) b3 (Nat.le_refl _) fun w' hown hgr => ?_
 have ho:Own w' w.heap.size e k (List.replicate n 0):=by
  have hx:(madeCells (Value.int k 0).cells (n*1)).toList=(List.replicate n (0:Int)).map (Value.int k):=by
   rw[Nat.mul_one]
   show (madeCells #[Value.int k 0] n).toList=_
   rw[toList_madeCells_one];simp
  rw[hx] at hown
  exact Own.of_row hown
 exact hK w' ho (grown_ext hgr) ho.lt
theorem bcell {W w1:World} (hb:Ext W w1):(∀ b o,b<W.heap.size→w1.cell? ⟨b,o,none⟩=W.cell? ⟨b,o,none⟩)∧(∀ b o,b<W.heap.size→w1.frozen? ⟨b,o,none⟩=W.frozen? ⟨b,o,none⟩):=
 ⟨fun b o h=>hb.cell (p:=⟨b,o,none⟩) h,fun b o h=>hb.frozen (p:=⟨b,o,none⟩) h⟩
theorem isL_new {w:World} {n m:Nat} {c:Array Value} {k:IntKind} {l:List Int} (hn:n=w.heap.size) (hc:c=(l.map (Value.int k)).toArray) (hm:m=l.length) (hb:l.length≤9223372036854775807) (hf:∀ x∈l,Fit k x) :
  IsL (w.alloc (.cells c (ET k))) ⟨some ⟨n,0,none⟩,m,m⟩ k l:=by
 subst hm
 exact Own.isL (Own.new hn hc) hb hf
theorem held_of {W w':World} (e:Ext W w'):Ext W w'∧(∀ b o,b<W.heap.size→w'.cell? ⟨b,o,none⟩=W.cell? ⟨b,o,none⟩):=⟨e,(bcell e).1⟩
theorem held_ext {W w':World} {R:Prop} (e:Ext W w'∧R):Ext W w':=e.1
def Bx (w:World) (T:TypeId) (n:Nat):Prop:=(∃ u,w.cell? ⟨n,0,none⟩=some u)∧(∃ u,w.cell? ⟨n,1,none⟩=some u)∧w.frozen? ⟨n,0,none⟩=false∧w.frozen? ⟨n,1,none⟩=false∧Ty w n T
theorem Bx.keep {w w':World} {T:TypeId} {n:Nat} (h:Bx w T n) (e:Ext w w'):Bx w' T n:=by
 obtain⟨⟨u,h0⟩,⟨v,h1⟩,f0,f1,t⟩:=h
 exact⟨⟨u,cell_later e h0⟩,⟨v,cell_later e h1⟩,(e.frozen (p:=⟨n,0,none⟩) t.lt).trans f0,(e.frozen (p:=⟨n,1,none⟩) t.lt).trans f1,t.keep e⟩
theorem Bx.dr {w:World} {T:TypeId} {n:Nat} (h:Bx w T n):Bx w.drew T n:=h
theorem Bx.new {w:World} {T:TypeId} {n:Nat} {x y:Value} (hn:n=w.heap.size):Bx (w.alloc (.cells #[x,y] T)) T n:=by
 subst hn
 exact⟨⟨x,by simp⟩,⟨y,by simp⟩,by simp,by simp,Ty.new _ _ _⟩
theorem Bx.st2 {w:World} {T:TypeId} {n:Nat} (h:Bx w T n) (x y:Value):Bx ((w.setCell ⟨n,0,none⟩ x).setCell ⟨n,1,none⟩ y) T n:=by
 obtain⟨⟨u,h0⟩,⟨v,h1⟩,f0,f1,t⟩:=h
 have h1':(w.setCell ⟨n,0,none⟩ x).cell? ⟨n,1,none⟩=some v:=by rw[World.cell?_setCell_other _ _ _ _ (by simp)];exact h1
 refine⟨⟨x,?_⟩,⟨y,World.cell?_setCell_same _ _ _ h1'⟩,by simpa using f0,by simpa using f1,(t.st _ _).st _ _⟩
 rw[World.cell?_setCell_other _ _ _ _ (by simp)]
 exact World.cell?_setCell_same _ _ _ h0
theorem sb_ext {W w':World} {R R':Prop} (e:(Ext W w'∧R)∧R'):Ext W w':=e.1.1
theorem sb_bx {w':World} {A:Prop} {T:TypeId} {n:Nat} (e:A∧Bx w' T n):Bx w' T n:=e.2
end Go.Proofs.Ytdjbfgfbpimakaa
end

section
namespace Go.Proofs.Ytdjbfgfbpimakaa.M
set_option linter.unusedVariables false
theorem evQ_nil (x:Rat):evQ [] x=0:=rfl
theorem ev_trim (l:List Rat) (x:Rat):evQ (trimQ l) x=evQ l x:=ev_cf (cf_trim l) x
def shl (s:Nat) (k:Rat) (d:List Rat) (t:Nat):Rat:=if s≤t then k*cf d (t-s) else 0
theorem ev_shl (s:Nat) (k:Rat) (d:List Rat) (x:Rat) {n:Nat} (h:s+d.length≤n):sumQ n (fun t=>shl s k d t*x^t)=k*x^s*evQ d x:=by
 have key:∀ s n,s+d.length≤n→sumQ n (fun t=>shl s k d t*x^t)=k*x^s*evQ d x:=by
  intro s
  induction s with
  | zero =>
   intro n hn
   rw[ev_sum d x (n:=n) (by omega)]
   have:(fun t=>shl 0 k d t*x^t)=fun t=>(cf d t*x^t)*k:=by funext t;simp only[shl,Nat.zero_le,if_true,Nat.sub_zero];grind
   rw[this,sumQ_mul,Rat.pow_zero];grind
  | succ s ih =>
   intro n hn
   obtain⟨n,rfl⟩:∃ m,n=m+1:=⟨n-1,by omega⟩
   ·rw[sumQ_split]
    have:(fun t=>shl (s+1) k d (t+1)*x^(t+1))=fun t=>(shl s k d t*x^t)*x:=by
     funext t
     have:shl (s+1) k d (t+1)=shl s k d t:=by
      unfold shl
      by_cases h:s≤t
      ·rw[if_pos (by omega),if_pos h,show t+1-(s+1)=t-s by omega]
      ·rw[if_neg (by omega),if_neg h]
     rw[this,Rat.pow_succ];grind
    rw[this,sumQ_mul,ih n (by omega),Rat.pow_succ]
    have:shl (s+1) k d 0=0:=by unfold shl;rw[if_neg (by omega)]
    rw[this];grind
 exact key s n h
def dstep (r d:List Rat) (s:Nat) (k:Rat):List Rat:=tab r.length fun t=>cf r t-shl s k d t
theorem cf_dstep {r d:List Rat} {s:Nat} {k:Rat} (h:s+d.length≤r.length) (t:Nat):cf (dstep r d s k) t=cf r t-shl s k d t:=by
 unfold dstep
 rw[cf_tab]
 split
 ·rfl
 ·unfold shl;rw[cf_ge (by omega),cf_ge (l:=d) (by omega)];split<;>grind
theorem ev_dstep {r d:List Rat} {s:Nat} {k:Rat} (h:s+d.length≤r.length) (x:Rat):evQ (dstep r d s k) x=evQ r x-k*x^s*evQ d x:=by
 rw[ev_sum _ x (n:=r.length) (by simp[dstep,tab_len]),ev_sum r x (n:=r.length) (Nat.le_refl _),←ev_shl s k d x h]
 have e:∀ (n:Nat) (f g:Nat→Rat),sumQ n (fun i=>f i-g i)=sumQ n f-sumQ n g:=by
  intro n f g
  induction n with
  | zero=>simp only[sumQ];grind
  | succ n ih=>simp only[sumQ,ih];grind
 rw[←e]
 exact sumQ_ext fun t _=>by rw[cf_dstep h];grind
theorem dstep_len (r d:List Rat) (s:Nat) (k:Rat):(dstep r d s k).length=r.length:=by simp[dstep,tab_len]
theorem dstep_top {r d:List Rat} {s:Nat} (hd:d≠[]) (h0:ld d≠0) (h:s+d.length≤r.length) (hr:∀ t,s+d.length≤t→cf r t=0) {t:Nat} (ht:s+d.length≤t+1) :
  cf (dstep r d s (cf r (s+d.length-1) / ld d)) t=0:=by
 have hdl:=List.length_pos_iff.2 hd
 rw[cf_dstep h]
 unfold shl
 rw[if_pos (by omega)]
 by_cases e:t=s+d.length-1
 ·subst e
  rw[show s+d.length-1-s=d.length-1 by omega]
  have:cf d (d.length-1)=ld d:=rfl
  rw[this];grind
 ·rw[hr t (by omega),cf_ge (l:=d) (by omega)];grind
theorem Lb.step {D H E G s:Nat} {r d:List Rat} {k:Rat} (h:s+d.length≤r.length) (hr:Lb D H r) (hk:∀ j,Db (D*E) (H*G) (k*cf d j)) (hE:0<E):Lb (D*E) (H*(E+G)) (dstep r d s k):=fun t=>by
 rw[cf_dstep h,Nat.mul_add]
 refine ((hr t).up hE).sub ?_
 unfold shl
 split
 ·exact hk _
 ·exact Db.zero (Nat.mul_pos hr.pos hE) _
theorem Lb.top {D H:Nat} {d:List Rat} (h:Lb D H d) (h0:ld d≠0):∃ E,E≤H∧0<E∧∀ j,Db E H (cf d j / ld d):=by
 obtain⟨E,h1,h2⟩:=Db.quo (h (d.length-1)) h0
 exact⟨E,h1,(h2 0 (Db.zero h.pos _)).1,fun j=>h2 _ (h j)⟩
theorem div_ex {d:List Rat} (nd:Nf d) (hd:d≠[]) {E G:Nat} (hE:0<E) (hEG:∀ j,Db E G (cf d j / ld d)):∀ (s:Nat) (p:List Rat) (D H:Nat),p.length≤s+d.length-1→Lb D H p →
  ∃ q r,DivQ p d q r∧q.length≤s∧Lb (D*E^s) (H*(E+G)^s) r∧∀ i,Db (D*E^s) (H*(E+G)^s) (cf q i*ld d)
 | 0,p,D,H,hl,hb=>⟨[],trimQ p,⟨nf_nil,nf_trim _,fun x=>by rw[ev_trim,evQ_nil];grind,by have:=trim_len p;have:=List.length_pos_iff.2 hd;omega⟩,Nat.le_refl _,by simpa using hb.trim,fun i=>by rw[cf_nil,Rat.zero_mul];simpa using Db.zero hb.pos _⟩
 | s+1,p,D,H,hl,hb=>by
  have hdl:=List.length_pos_iff.2 hd
  have h0:=ld_ne nd hd
  obtain⟨P,hP⟩:∃ P,P=tab (s+d.length) (cf p):=⟨_,rfl⟩
  have hPl:P.length=s+d.length:=by rw[hP,tab_len]
  have hPc:∀ t,cf P t=cf p t:=fun t=>by
   rw[hP,cf_tab];split
   ·rfl
   ·rw[cf_ge (by omega)]
  have hPb:Lb D H P:=fun i=>by rw[hPc];exact hb i
  obtain⟨k,hk⟩:∃ k,k=cf P (s+d.length-1) / ld d:=⟨_,rfl⟩
  have hkj:∀ j,Db (D*E) (H*G) (k*cf d j):=fun j=>by
   have:=(hPb (s+d.length-1)).mul (hEG j)
   rw[hk]
   have e:cf P (s+d.length-1) / ld d*cf d j=cf P (s+d.length-1)*(cf d j / ld d):=by grind
   rw[e];exact this
  have hS:s+d.length≤P.length:=by omega
  have hz:∀ t,s+d.length≤t+1→cf (dstep P d s k) t=0:=fun t ht=>by
   rw[hk];exact dstep_top hd h0 hS (fun t ht=>by rw[hPc,cf_ge (by omega)]) ht
  have hlen:(trimQ (dstep P d s k)).length≤s+d.length-1:=len_le_of (nf_trim _) fun i hi=>by rw[cf_trim];exact hz i (by omega)
  obtain⟨q,r,h1,h2,h3,h4⟩:=div_ex nd hd hE hEG s (trimQ (dstep P d s k)) (D*E) (H*(E+G)) hlen (Lb.step hS hPb hkj hE).trim
  have hmul:Lb (D*E^(s+1)) (H*(E+G)^(s+1)) r:=by
   rw[Nat.pow_succ',Nat.pow_succ',←Nat.mul_assoc,←Nat.mul_assoc];exact h3
  refine⟨trimQ (tab (s+1) fun i=>if i=s then k else cf q i),r,⟨nf_trim _,h1.nr,fun x => ?_,h1.lt⟩,?_,hmul,fun i => ?_⟩
  ·have e1:=h1.eq x
   rw[ev_trim,ev_dstep hS,ev_cf hPc] at e1
   have e2:evQ (tab (s+1) fun i=>if i=s then k else cf q i) x=evQ q x+k*x^s:=by
    rw[ev_sum _ x (n:=s+1) (by rw[tab_len];omega),sumQ,ev_sum q x h2]
    have:cf (tab (s+1) fun i=>if i=s then k else cf q i) s=k:=by rw[cf_tab,if_pos (by omega),if_pos rfl]
    rw[this]
    congr 1
    exact sumQ_ext fun i hi=>by rw[cf_tab,if_pos (by omega),if_neg (by omega)]
   rw[ev_trim,e2]
   grind
  ·exact Nat.le_trans (trim_len _) (by rw[tab_len];omega)
  ·rw[cf_trim,cf_tab]
   split
   ·rw[Nat.pow_succ',Nat.pow_succ',←Nat.mul_assoc,←Nat.mul_assoc]
    split
    ·rw[hk,Rat.div_mul_cancel h0]
     have:=(hPb (s+d.length-1)).up (E:=E*E^s) (Nat.mul_pos hE (Nat.pow_pos hE))
     rw[←Nat.mul_assoc] at this
     refine this.mono ?_
     rw[Nat.mul_assoc H]
     exact Nat.mul_le_mul_left _ (Nat.mul_le_mul (Nat.le_add_right ..) (Nat.pow_le_pow_left (Nat.le_add_right ..) _))
    ·exact h4 i
   ·rw[Rat.zero_mul];exact Db.zero hmul.pos _
noncomputable def quoQ (p d:List Rat):List Rat:=open Classical in if h:∃ q r,DivQ p d q r then h.choose else []
noncomputable def remQ (p d:List Rat):List Rat:=open Classical in if h:∃ q r,DivQ p d q r then h.choose_spec.choose else []
theorem divQ_of {p d q r:List Rat} (h:DivQ p d q r):DivQ p d (quoQ p d) (remQ p d):=by
 have e:∃ q r,DivQ p d q r:=⟨q,r,h⟩
 unfold quoQ remQ
 rw[dif_pos e,dif_pos e]
 exact e.choose_spec.choose_spec
theorem div_eq {p d q r:List Rat} (nd:Nf d) (h:DivQ p d q r):q=quoQ p d∧r=remQ p d:=h.unique nd (divQ_of h)
end Go.Proofs.Ytdjbfgfbpimakaa.M
end

section
namespace Go.Proofs.Ytdjbfgfbpimakaa
theorem valL_split (l:List Int) (j:Nat):valL l=valL (l.take j)+4294967296^j*valL (l.drop j):=by
 induction j generalizing l with
 | zero=>simp[valL]
 | succ j ih =>
  match l with
  | []=>simp[valL]
  | x::t =>
   simp only[List.take_succ_cons,List.drop_succ_cons,valL]
   rw[ih t,Int.pow_succ]
   grind
theorem Dig.take {l:List Int} (h:Dig l) (j:Nat):Dig (l.take j):=fun x hx=>h x (List.mem_of_mem_take hx)
theorem Dig.drop {l:List Int} (h:Dig l) (j:Nat):Dig (l.drop j):=fun x hx=>h x (List.mem_of_mem_drop hx)
theorem valL_take_lt {l:List Int} (h:Dig l) (j:Nat):0≤valL (l.take j)∧valL (l.take j)<4294967296^j:=by
 refine⟨valL_nonneg (h.take j),?_⟩
 have h1:=valL_lt (h.take j)
 have h2:=pow_mono' (i:=(l.take j).length) (j:=j) (by simp;omega)
 omega
theorem valL_at_drop (l:List Int) (j:Nat):valL (l.drop j)=at_ l j+4294967296*valL (l.drop (j+1)):=by
 rcases Nat.lt_or_ge j l.length with h | h
 ·rw[List.drop_eq_getElem_cons h,at_lt h];rfl
 ·rw[List.drop_of_length_le h,List.drop_of_length_le (by omega),at_ge h];simp[valL]
theorem high_zero {l:List Int} (hd:Dig l) {k:Nat} (h:valL l<4294967296^k):∀ i,k≤i→at_ l i=0:=by
 intro i hi
 by_cases h0:at_ l i=0
 ·exact h0
 ·have h1:=valL_ge hd h0
  have h2:=pow_mono' hi
  omega
theorem lt_of_high {l:List Int} (hd:Dig l) {k:Nat} (h:∀ i,k≤i→at_ l i=0):valL l<4294967296^k:=by
 have h1:=valL_take h
 have h2:=valL_take_lt hd k
 omega
theorem at_drop (l:List Int) (j i:Nat):at_ (l.drop j) i=at_ l (j+i):=by simp[at_,List.getElem?_drop]
theorem drop_zero {l:List Int} {k:Nat} (h:∀ i,k≤i→at_ l i=0):valL (l.drop k)=0:=
 valL_zero fun i=>by rw[at_drop];exact h _ (by omega)
theorem by_three {l:List Int} {j n:Nat} (hn:2≤n) (h:∀ i,j+n+1≤i→at_ l i=0) :
  valL (l.drop j)=valL ((l.drop j).take (n-2))+4294967296^(n-2)*((at_ l (j+n)*4294967296+at_ l (j+n-1))*4294967296+at_ l (j+n-2)):=by
 rw[valL_split (l.drop j) (n-2)]
 congr 2
 rw[List.drop_drop,valL_at_drop,valL_at_drop,valL_at_drop,drop_zero (k:=j+(n-2)+1+1+1) (fun i hi=>h i (by omega))]
 rw[show j+(n-2)+1+1=j+n by omega,show j+(n-2)+1=j+n-1 by omega,show j+(n-2)=j+n-2 by omega]
 omega
theorem by_two {l:List Int} {n:Nat} (hn:2≤n) (h:l.length=n) :
  valL l=valL (l.take (n-2))+4294967296^(n-2)*(at_ l (n-1)*4294967296+at_ l (n-2)):=by
 have:=by_three (l:=l) (j:=0) (n:=n) hn (fun i hi=>at_ge (by omega))
 simp only[List.drop_zero,Nat.zero_add] at this
 rw[this,at_ge (l:=l) (i:=n) (by omega)]
 rw[Int.zero_mul,Int.zero_add]
section
variable {u0 u1 u2 lu lv top v2 P U V g rest X Y:Int}
structure Places (u0 u1 u2 lu lv top v2 P U V:Int):Prop where
 hU:U=lu+P*((u0*4294967296+u1)*4294967296+u2)
 hV:V=lv+P*(top*4294967296+v2)
 lu0:0≤lu
 lu1:lu<P
 lv0:0≤lv
 lv1:lv<P
 d0:0≤u0∧u0≤4294967295
 d1:0≤u1∧u1≤4294967295
 d2:0≤u2∧u2≤4294967295
 e1:2147483648≤top∧top≤4294967295
 e2:0≤v2∧v2≤4294967295
 lt:U<V*4294967296
theorem Places.top_ (h:Places u0 u1 u2 lu lv top v2 P U V):u0≤top:=by
 obtain⟨hU,hV,a0,a1,b0,b1,d0,d1,d2,e1,e2,lt⟩:=h
 refine Int.not_lt.1 fun hc => ?_
 have hX:(top*4294967296+v2+1)*4294967296≤(u0*4294967296+u1)*4294967296+u2:=by omega
 have h1:=Int.mul_le_mul_of_nonneg_left hX (show 0≤P by omega)
 have h2:P*((top*4294967296+v2+1)*4294967296)=(P*(top*4294967296+v2)+P)*4294967296:=by grind
 rw[h2] at h1
 generalize P*(top*4294967296+v2)=p at *
 generalize P*((u0*4294967296+u1)*4294967296+u2)=q at *
 omega
theorem Places.head (h:Places u0 u1 u2 lu lv top v2 P U V):0≤u0*4294967296+u1∧u0*4294967296+u1≤top*4294967296+4294967295:=by
 have:=h.top_;have:=h.d0;have:=h.d1;omega
theorem Places.start (h:Places u0 u1 u2 lu lv top v2 P U V) :
  (u0*4294967296+u1) / top*top+(u0*4294967296+u1) % top=u0*4294967296+u1∧0≤(u0*4294967296+u1) % top∧(u0*4294967296+u1) % top<top ∧
  0≤(u0*4294967296+u1) / top∧(u0*4294967296+u1) / top≤4294967297∧U<((u0*4294967296+u1) / top+1)*V:=by
 have hh:=h.head
 obtain⟨hU,hV,a0,a1,b0,b1,d0,d1,d2,e1,e2,lt⟩:=h
 generalize hq:u0*4294967296+u1=q at *
 have h1:q / top*top+q % top=q:=by rw[Int.mul_comm];exact Int.mul_ediv_add_emod q top
 have h2:=Int.emod_nonneg q (show top≠0 by omega)
 have h3:=Int.emod_lt_of_pos q (show 0<top by omega)
 have h4:0≤q / top:=Int.ediv_nonneg hh.1 (by omega)
 refine⟨h1,h2,h3,h4,?_,?_⟩
 ·have:q / top<4294967298:=by
   apply Int.ediv_lt_of_lt_mul (by omega)
   omega
  omega
 ·generalize q / top=g at *
  generalize q % top=r at *
  have hX:(q*4294967296+u2)+1≤(g+1)*(top*4294967296+v2):=by
   have e:(g+1)*(top*4294967296+v2)=(g*top+top)*4294967296+(g+1)*v2:=by grind
   have e2:0≤(g+1)*v2:=Int.mul_nonneg (by omega) e2.1
   rw[e]
   generalize (g+1)*v2=z at *
   generalize g*top=gt at *
   omega
  have h5:=Int.mul_le_mul_of_nonneg_left hX (show 0≤P by omega)
  have h6:P*((g+1)*(top*4294967296+v2))=(g+1)*(P*(top*4294967296+v2)):=by grind
  rw[h6,Int.mul_add,Int.mul_one] at h5
  have h7:(g+1)*(P*(top*4294967296+v2))≤(g+1)*V:=Int.mul_le_mul_of_nonneg_left (by omega) (by omega)
  generalize (g+1)*(P*(top*4294967296+v2))=x at *
  generalize (g+1)*V=y at *
  generalize P*(q*4294967296+u2)=z at *
  omega
theorem Places.dec (h:Places u0 u1 u2 lu lv top v2 P U V) (hg:0≤g) (hr:0≤rest) (hq:g*top+rest=u0*4294967296+u1) (hc:4294967296≤g∨rest*4294967296+u2<g*v2) :
  1≤g∧U<g*V:=by
 obtain⟨hU,hV,a0,a1,b0,b1,d0,d1,d2,e1,e2,lt⟩:=h
 have hg1:1≤g:=by
  rcases hc with hc | hc
  ·omega
  ·rcases Int.lt_or_le 0 g with h0 | h0
   ·omega
   ·obtain rfl:g=0:=by omega
    rw[Int.zero_mul] at hc
    omega
 refine⟨hg1,?_⟩
 have hV0:0≤V:=by
  have:=Int.mul_nonneg (show 0≤P by omega) (show 0≤top*4294967296+v2 by omega)
  omega
 rcases hc with hc | hc
 ·have h1:4294967296*V≤g*V:=Int.mul_le_mul_of_nonneg_right hc hV0
  omega
 ·generalize hq':u0*4294967296+u1=q at *
  have hX:(q*4294967296+u2)+1≤g*(top*4294967296+v2):=by
   have e:g*(top*4294967296+v2)=(g*top)*4294967296+g*v2:=by grind
   rw[e]
   generalize g*v2=z at *
   generalize g*top=gt at *
   omega
  have h5:=Int.mul_le_mul_of_nonneg_left hX (show 0≤P by omega)
  have h6:P*(g*(top*4294967296+v2))=g*(P*(top*4294967296+v2)):=by grind
  rw[h6,Int.mul_add,Int.mul_one] at h5
  have h7:g*(P*(top*4294967296+v2))≤g*V:=Int.mul_le_mul_of_nonneg_left (by omega) hg
  generalize g*(P*(top*4294967296+v2))=x at *
  generalize g*V=y at *
  generalize P*(q*4294967296+u2)=z at *
  omega
theorem Places.stop (h:Places u0 u1 u2 lu lv top v2 P U V) (hg:0≤g) (hq:g*top+rest=u0*4294967296+u1)
  (hc:4294967296≤rest∨(g<4294967296∧g*v2≤rest*4294967296+u2)):g<4294967296∧(g-1)*V≤U:=by
 have hh:=h.head
 obtain⟨hU,hV,a0,a1,b0,b1,d0,d1,d2,e1,e2,lt⟩:=h
 generalize hq':u0*4294967296+u1=q at *
 have hgB:g<4294967296:=by
  rcases hc with hc | hc
  ·refine Int.not_le.1 fun hge => ?_
   have:=Int.mul_le_mul_of_nonneg_right hge (show 0≤top by omega)
   omega
  ·exact hc.1
 refine⟨hgB,?_⟩
 have hX:g*(top*4294967296+v2)≤q*4294967296+u2:=by
  have e:g*(top*4294967296+v2)=(g*top)*4294967296+g*v2:=by grind
  rw[e]
  rcases hc with hc | hc
  ·have h1:g*v2≤4294967295*4294967295:=Int.mul_le_mul (by omega) e2.2 e2.1 (by omega)
   generalize g*v2=z at *
   generalize g*top=gt at *
   omega
  ·have h1:=hc.2
   generalize g*v2=z at *
   generalize g*top=gt at *
   omega
 have hY:0≤top*4294967296+v2:=by omega
 have hPX:0≤P*(q*4294967296+u2):=Int.mul_nonneg (by omega) (by omega)
 have hPY:0≤P*(top*4294967296+v2):=Int.mul_nonneg (by omega) hY
 rcases Int.lt_or_le 0 g with h0 | h0
 ·have h1:(g-1)*V≤(g-1)*(P*(top*4294967296+v2)+P):=Int.mul_le_mul_of_nonneg_left (by omega) (by omega)
  have h2:(g-1)*(P*(top*4294967296+v2)+P)=P*(g*(top*4294967296+v2)-(top*4294967296+v2)+g-1):=by grind
  have h3:P*(g*(top*4294967296+v2)-(top*4294967296+v2)+g-1)≤P*(q*4294967296+u2):=by
   refine Int.mul_le_mul_of_nonneg_left ?_ (by omega)
   generalize g*(top*4294967296+v2)=z at *
   omega
  rw[h2] at h1
  omega
 ·obtain rfl:g=0:=by omega
  omega
end
theorem took {low Bj U V g bor W Bn:Int} (hlow:0≤low∧low<Bj) (hb:bor=0∨bor=1) (hW:W=low+Bj*U-Bj*(g*V)+Bj*Bn*bor) (hW0:0≤W∧W<Bj*Bn) :
  (bor=0→g*V≤U)∧(bor=1→U<g*V):=by
 constructor
 ·rintro rfl
  rw[Int.mul_zero,Int.add_zero] at hW
  refine Int.not_lt.1 fun hc => ?_
  have h1:Bj*U+Bj≤Bj*(g*V):=by
   have:=Int.mul_le_mul_of_nonneg_left (show U+1≤g*V by omega) (show 0≤Bj by omega)
   rw[Int.mul_add,Int.mul_one] at this
   exact this
  omega
 ·rintro rfl
  rw[Int.mul_one] at hW
  refine Int.not_le.1 fun hc => ?_
  have h1:=Int.mul_le_mul_of_nonneg_left hc (show 0≤Bj by omega)
  omega
theorem left_lt {low Bj U V g:Int} (hlow:0≤low∧low<Bj) (h:U<(g+1)*V):low+Bj*U-Bj*(g*V)<V*Bj:=by
 have h2:U-g*V+1≤V:=by rw[Int.add_mul,Int.one_mul] at h;omega
 have h1:=Int.mul_le_mul_of_nonneg_left h2 (show 0≤Bj by omega)
 have e:Bj*(U-g*V+1)=Bj*U-Bj*(g*V)+Bj:=by grind
 have e2:V*Bj=Bj*V:=Int.mul_comm ..
 omega
theorem gave {low Bj U V g c W W2 Bn:Int} (hlow:0≤low∧low<Bj) (hc:c=0∨c=1) (hW:W=low+Bj*U-Bj*(g*V)+Bj*Bn) (hW2:W2=W+Bj*V-Bj*Bn*c) (hb:0≤W2∧W2<Bj*Bn) (hle:(g-1)*V≤U) :
  W2=low+Bj*U-Bj*((g-1)*V):=by
 have e:Bj*((g-1)*V)=Bj*(g*V)-Bj*V:=by grind
 have h1:=Int.mul_le_mul_of_nonneg_left hle (show 0≤Bj by omega)
 rcases hc with rfl | rfl
 ·rw[Int.mul_zero] at hW2
  omega
 ·rw[Int.mul_one] at hW2
  omega
end Go.Proofs.Ytdjbfgfbpimakaa
end

section
namespace Go.Proofs.Ytdjbfgfbpimakaa.M
open Go.RowKit
inductive Opd where
 | t (n:Nat)
 | k (v:AV)
def Opd.ev (r:Nat→AV):Opd→AV
 | .t n=>r n
 | .k v=>v
inductive AOp where
 | mov (x:Opd)
 | nilCheck (x:Opd)
 | pick (c a b:Opd)
 | alloc (T sz:Nat) (z:AV)
 | box (T sz:Nat) (x:Opd)
 | build (z:List AV) (parts:List (Nat × Nat × Opd))
 | buildSlice (T sz:Nat) (z:D) (n:Nat) (parts:List (Nat × Opd))
 | buildSliceF (T sz:Nat) (z:D) (n:Nat) (parts:List (Nat × Opd))
 | load (ag:Bool) (sz:Nat) (x:Opd)
 | store (sz:Nat) (x v:Opd)
 | bin (bo:Bool) (op:BinOp) (x y:Opd)
 | eqs (n:Nat) (neg:Bool) (x y:Opd)
 | un (op:UnOp) (x:Opd)
 | conv (k:IntKind) (x:Opd)
 | makeSlice (T sz bytes:Nat) (z:D) (l c:Opd)
 | slice (sz:Nat) (x:Opd) (lo hi mx:Option Opd)
 | sliceS (x:Opd) (lo hi:Option Opd)
 | fieldAddr (off sz:Nat) (ag:Bool) (x:Opd)
 | field (off sz:Nat) (ag:Bool) (x:Opd)
 | indexAddr (sz:Nat) (x i:Opd)
 | index (x i:Opd)
 | extract (x:Opd) (i:Nat)
 | len (x:Opd)
 | lenS (x:Opd)
 | mm (mx:Bool) (x y:Opd)
 | append (T sz bytes:Nat) (x y:Opd)
 | appendF (T sz bytes:Nat) (x y:Opd)
 | call (f:FuncId) (args:List Opd)
 | fnv (fn:Fn) (first captured:List Opd)
def inK:IntKind→Int→Bool
 | .i8,n=>decide (-128≤n∧n≤127)
 | .i16,n=>decide (-32768≤n∧n≤32767)
 | .i32,n=>decide (-2147483648≤n∧n≤2147483647)
 | .i64,n=>decide (-9223372036854775808≤n∧n≤9223372036854775807)
 | .u8,n=>decide (0≤n∧n≤255)
 | .u16,n=>decide (0≤n∧n≤65535)
 | .u32,n=>decide (0≤n∧n≤4294967295)
 | .u64,n=>decide (0≤n∧n≤18446744073709551615)
def partD (l:List D) (off sz:Nat) (ag:Bool):Option D:=
 if ag then (if off+sz≤l.length then some (.agg ((l.drop off).take sz)) else none) else l[off]?
def partA (l:List AV) (off sz:Nat) (ag:Bool):Option AV:=
 if ag then (if off+sz≤l.length then some (.agg ((l.drop off).take sz)) else none) else l[off]?
def D.part (d:D) (off sz:Nat) (ag:Bool):Option D:=partD d.cells off sz ag
def AV.part (v:AV) (off sz:Nat) (ag:Bool):Option AV:=
 match v with
 | .p d=>(d.part off sz ag).map .p
 | v=>partA v.cells off sz ag
def AV.get (v:AV) (off sz osz:Nat) (ag:Bool):Option AV:=
 if off=0∧sz=osz∧v.isAgg=some ag then some v else v.part off sz ag
mutual
def AV.pure:AV→Option D
 | .p d=>some d
 | .nils T sz=>some (.list T sz [])
 | .agg l=>(pureL l).map .agg
 | _=>none
def pureL:List AV→Option (List D)
 | []=>some []
 | v::l=>match v.pure,pureL l with
  | some d,some ds=>some (d::ds)
  | _,_=>none
end
def AV.mk (l:List AV):AV:=match pureL l with
 | some ds => .p (.agg ds)
 | none => .agg l
mutual
def AV.toD (any:Bool) (M:Mem):Nat→AV→Option D
 | 0,_=>none
 | n+1,v=>match v with
  | .p d=>some d
  | .nils T sz=>some (.list T sz [])
  | .agg l=>(toDL any M n l).map .agg
  | .tup l=>(toDL any M n l).map .tup
  | .slice id off len=>match M id with
   | some o=>match o.cont with
    | .row l=>if (o.frz||any)&&decide (off+len≤l.length) then some (.list o.T o.sz ((l.drop off).take len)) else none
    | _=>none
   | none=>none
  | .ptr id i off=>if i=0∧off=0 then match M id with
   | some o=>match o.cont with
    | .box v=>if o.frz||any then (AV.toD any M n v).map .ref else none
    | _=>none
   | none=>none else none
  | .und=>none
def toDL (any:Bool) (M:Mem):Nat→List AV→Option (List D)
 | 0,_=>none
 | n+1,l=>match l with
  | []=>some []
  | v::l=>match AV.toD any M n v,toDL any M n l with
   | some d,some ds=>some (d::ds)
   | _,_=>none
end
def asI:AV→Option Int
 | .p (.int _ n)=>some n
 | _=>none
def binD (op:BinOp):D→D→Option (Bool × D)
 | .int k a,.int k' b =>
  match op with
  | .shl=>some (decide (0≤b∧b<k.bits)&&inK k (a*2^b.toNat),.int k (a*2^b.toNat))
  | .shr=>some (decide (0≤b∧b<k.bits),.int k (a / 2^b.toNat))
  | op=>if k=k' then
   match op with
   | .add=>some (inK k (a+b),.int k (a+b))
   | .sub=>some (inK k (a-b),.int k (a-b))
   | .mul=>some (inK k (a*b),.int k (a*b))
   | .quo=>some (decide (b≠0)&&inK k (a.tdiv b),.int k (a.tdiv b))
   | .rem=>some (decide (b≠0),.int k (a.tmod b))
   | .eql=>some (true,.bool (decide (a=b)))
   | .neq=>some (true,.bool (!decide (a=b)))
   | .lss=>some (true,.bool (decide (a<b)))
   | .leq=>some (true,.bool (decide (a≤b)))
   | .gtr=>some (true,.bool (decide (b<a)))
   | .geq=>some (true,.bool (decide (b≤a)))
   | _=>none
   else none
 | .str a,.str b =>
  match op with
  | .add=>some (decide (a.length+b.length≤9223372036854775807),.str (a++b))
  | .eql=>some (true,.bool (decide (a=b)))
  | .neq=>some (true,.bool (!decide (a=b)))
  | _=>none
 | .bool a,.bool b =>
  match op with
  | .eql=>some (true,.bool (a == b))
  | .neq=>some (true,.bool (!(a == b)))
  | _=>none
 | _,_=>none
def D.isBool:D→Bool
 | .bool _=>true
 | _=>false
def intsOf:List D→Option (List IntKind × List Int)
 | []=>some ([],[])
 | .int k n::l=>(intsOf l).map fun p=>(k::p.1,n::p.2)
 | _=>none
def unD (op:UnOp):D→Option (Bool × D)
 | .int k a=>match op with
  | .neg=>some (inK k (-a),.int k (-a))
  | _=>none
 | .bool a=>match op with
  | .not=>some (true,.bool (!a))
  | _=>none
 | _=>none
def fillA (cells:List AV) (r:Nat→AV):List (Nat × Nat × Opd)→Option (List AV)
 | []=>some cells
 | (off,sz,x)::rest =>
  if (x.ev r).cells.length=sz∧off+sz≤cells.length∧(x.ev r).cells.all AV.one=true then fillA (cells.take off++(x.ev r).cells++cells.drop (off+sz)) r rest else none
def fillR (sz:Nat) (l:List D) (r:Nat→AV) (M:Mem):List (Nat × Opd)→Option (List D)
 | []=>some l
 | (i,x)::rest=>match (x.ev r).toD false M 20 with
  | some d=>if d.cells.length=sz∧d.cells.all D.one=true∧i<l.length then fillR sz (l.set i d) r M rest else none
  | none=>none
def bounds (r:Nat→AV) (len:Nat) (lo hi mx:Option Opd):Option (Bool × Nat × Nat):=
 match (match lo with | none=>some 0 | some x=>asI (x.ev r)),(match hi with | none=>some (len:Int) | some x=>asI (x.ev r)) with
 | some l,some h=>match mx with
  | none=>some (decide (0≤l∧l≤h∧h≤len),l.toNat,h.toNat)
  | some y=>match asI (y.ev r) with
   | some m=>some (decide (0≤l∧l≤h∧h≤m∧m≤len),l.toNat,h.toNat)
   | none=>none
 | _,_=>none
mutual
def AV.forget (id:Nat):AV→AV
 | .slice i off len=>if i=id then .und else .slice i off len
 | .ptr i j off=>if i=id then .und else .ptr i j off
 | .agg l=>match forgetL id l with
  | some l => .agg l
  | none => .und
 | .tup l=>match forgetL id l with
  | some l => .tup l
  | none => .und
 | v=>v
def forgetL (id:Nat):List AV→Option (List AV)
 | []=>some []
 | v::l=>match v.forget id,forgetL id l with
  | .und,_=>none
  | v,some l=>some (v::l)
  | _,none=>none
end
def ev (o:AOp) (id:Nat) (s:St):Option (Bool × AV × St):=
 match o with
 | .mov x=>some (true,x.ev s.r,s)
 | .nilCheck x=>match x.ev s.r with
  | .ptr i j o=>some (true,.ptr i j o,s)
  | .p (.ref d)=>some (true,.p (.ref d),s)
  | _=>none
 | .pick c a b=>match c.ev s.r with
  | .p (.bool true)=>some (true,a.ev s.r,s)
  | .p (.bool false)=>some (true,b.ev s.r,s)
  | _=>none
 | .alloc T sz z=>match s.m id with
  | none=>some (true,.ptr id 0 0,⟨s.r,upd s.m id (some ⟨T,sz,.box z,false⟩)⟩)
  | some _=>none
 | .box T sz x=>match s.m id with
  | none=>if (x.ev s.r).cells.length=sz∧(x.ev s.r).cells.all AV.one=true then some (true,.ptr id 0 0,⟨s.r,upd s.m id (some ⟨T,sz,.box (x.ev s.r),false⟩)⟩) else none
  | some _=>none
 | .build z parts=>match fillA z s.r parts with
  | some l=>some (true,AV.mk l,s)
  | none=>none
 | .buildSlice T sz z n parts=>match s.m id with
  | none=>match fillR sz (List.replicate n z) s.r s.m parts with
   | some l=>some (true,.slice id 0 n,⟨s.r,upd s.m id (some ⟨T,sz,.row l,false⟩)⟩)
   | none=>none
  | some _=>none
 | .buildSliceF T sz z n parts=>match s.m id with
  | none=>match fillR sz (List.replicate n z) s.r s.m parts with
   | some l=>some (true,.slice id 0 n,⟨s.r,upd s.m id (some ⟨T,sz,.row l,true⟩)⟩)
   | none=>none
  | some _=>none
 | .load ag sz x=>match x.ev s.r with
  | .ptr i j off=>match s.m i with
   | some ⟨_,osz,.row l,_⟩=>match (AV.p (l.getD j default)).get off sz osz ag with
    | some v=>some (decide (j<l.length),v,s)
    | none=>none
   | some ⟨_,osz,.box v,_⟩=>if j=0 then match v.get off sz osz ag with
    | some u=>some (true,u,s)
    | none=>none else none
   | _=>none
  | .p (.ref d)=>if d.isAgg=ag then some (decide (d.cells.length=sz∧0<sz),.p d,s) else none
  | _=>none
 | .store sz x v=>match x.ev s.r with
  | .ptr i j off=>match s.m i with
   | some ⟨T,osz,.row l,false⟩=>match (v.ev s.r).toD false s.m 20 with
    | some d=>if d.cells.length=sz∧d.cells.all D.one=true then
      (
       if off=0∧sz=osz then some (decide (j<l.length),.und,⟨s.r,upd s.m i (some ⟨T,osz,.row (l.set j d),false⟩)⟩)
       else none) else none
    | none=>none
   | some ⟨T,osz,.box u,false⟩=>if (v.ev s.r).cells.length=sz∧(v.ev s.r).cells.all AV.one=true∧j=0 then
     (
      if off=0∧sz=osz then some (true,.und,⟨s.r,upd s.m i (some ⟨T,osz,.box (v.ev s.r),false⟩)⟩)
      else if off+sz≤osz then some (true,.und,⟨s.r,upd s.m i (some ⟨T,osz,.box (AV.mk (u.cells.take off++(v.ev s.r).cells++u.cells.drop (off+sz))),false⟩)⟩) else none) else none
   | some ⟨T,osz,.junk,false⟩=>if (v.ev s.r).cells.length=sz∧(v.ev s.r).cells.all AV.one=true∧j=0 then
     (if off=0∧sz=osz then some (true,.und,⟨s.r,upd s.m i (some ⟨T,osz,.box (v.ev s.r),false⟩)⟩) else none) else none
   | _=>none
  | _=>none
 | .bin bo op x y=>match x.ev s.r,y.ev s.r with
  | .p a,.p b=>if a.isBool=bo then match binD op a b with
   | some (c,d)=>some (c,.p d,s)
   | none=>none else none
  | _,_=>none
 | .eqs n neg x y=>match x.ev s.r,y.ev s.r with
  | .p (.agg a),.p (.agg b)=>match intsOf a,intsOf b with
   | some (k,l),some (k',m)=>if k=k'∧k.length=n then some (true,.p (.bool (if neg then !decide (l=m) else decide (l=m))),s) else none
   | _,_=>none
  | _,_=>none
 | .un op x=>match x.ev s.r with
  | .p a=>match unD op a with
   | some (c,d)=>some (c,.p d,s)
   | none=>none
  | _=>none
 | .conv k x=>match x.ev s.r with
  | .p (.int _ n)=>some (inK k n,.p (.int k n),s)
  | _=>none
 | .makeSlice T sz bytes z l c=>match s.m id with
  | none=>match asI (l.ev s.r),asI (c.ev s.r) with
   | some n,some m=>some (decide (0≤n∧n=m∧bytes*n≤281474976710656∧n≤9223372036854775807),.slice id 0 n.toNat,⟨s.r,upd s.m id (some ⟨T,sz,.row (List.replicate n.toNat z),false⟩)⟩)
   | _,_=>none
  | some _=>none
 | .sliceS x lo hi=>match x.ev s.r with
  | .p (.str t)=>match bounds s.r t.length lo hi none with
   | some (c,l,h)=>some (c,.p (.str ((t.drop l).take (h-l))),s)
   | none=>none
  | _=>none
 | .slice sz x lo hi mx=>match x.ev s.r with
  | .p (.list T sz' t)=>if sz=sz' then match bounds s.r t.length lo hi mx with
   | some (c,l,h)=>some (c,.p (.list T sz ((t.drop l).take (h-l))),s)
   | none=>none else none
  | .slice i off len=>match s.m i with
   | some o=>if o.sz=sz then match bounds s.r len lo hi mx with
    | some (c,l,h)=>some (c,.slice i (off+l) (h-l),s)
    | none=>none else none
   | none=>none
  | .nils T sz=>match bounds s.r 0 lo hi mx with
   | some (c,_,_)=>some (c,.nils T sz,s)
   | none=>none
  | _=>none
 | .fieldAddr off sz ag x=>match x.ev s.r with
  | .ptr i j o=>some (true,.ptr i j (o+off),s)
  | .p (.ref d)=>match d.part off sz ag with
   | some e=>some (true,.p (.ref e),s)
   | none=>none
  | _=>none
 | .field off sz ag x=>if (x.ev s.r).isAgg=some true then match (x.ev s.r).part off sz ag with
  | some v=>some (true,v,s)
  | none=>none else none
 | .indexAddr sz x i=>match x.ev s.r,asI (i.ev s.r) with
  | .p (.list _ sz' t),some n=>if sz=sz' then some (decide (0≤n∧n<t.length),.p (.ref (t.getD n.toNat default)),s) else none
  | .slice j off len,some n=>match s.m j with
   | some o=>if o.sz=sz then some (decide (0≤n∧n<len),.ptr j (off+n.toNat) 0,s) else none
   | none=>none
  | _,_=>none
 | .index x i=>match x.ev s.r,asI (i.ev s.r) with
  | .p (.str t),some n=>some (decide (0≤n∧n<t.length),.p (.int .u8 ((t.getD n.toNat 0).toNat:Int)),s)
  | _,_=>none
 | .extract x i=>match x.ev s.r with
  | .p (.tup l)=>(l[i]?).map fun d=>(true,.p d,s)
  | .tup l=>(l[i]?).map fun d=>(true,d,s)
  | _=>none
 | .mm mx x y=>match x.ev s.r,y.ev s.r with
  | .p (.int k p),.p (.int k' q)=>if k=k' then some (true,.p (.int k (if mx then (if q > p then q else p) else (if q<p then q else p))),s) else none
  | _,_=>none
 | .lenS x=>match x.ev s.r with
  | .p (.str t)=>some (true,.p (.int .i64 t.length),s)
  | _=>none
 | .len x=>match x.ev s.r with
  | .p (.list _ _ t)=>some (true,.p (.int .i64 t.length),s)
  | .slice _ _ n=>some (true,.p (.int .i64 n),s)
  | .nils _ _=>some (true,.p (.int .i64 0),s)
  | _=>none
 | _=>none
def frzS (id:Nat) (s:St):St:=match s.m id with
 | some o=>⟨s.r,upd s.m id (some ⟨o.T,o.sz,o.cont,true⟩)⟩
 | none=>s
def elemsOf (sz:Nat) (m:Mem):AV→Option (List D)
 | .slice j off n=>match m j with
  | some ⟨_,sz',.row l,_⟩=>if sz'=sz∧off+n≤l.length then some ((l.drop off).take n) else none
  | _=>none
 | .p (.list _ sz' l)=>if sz'=sz then some l else none
 | .nils _ sz'=>if sz'=sz then some [] else none
 | _=>none
def AObj.forget (id:Nat) (o:AObj):AObj:=match o.cont with
 | .box v=>match v.forget id with
  | .und=>⟨o.T,o.sz,.junk,o.frz⟩
  | u=>⟨o.T,o.sz,.box u,o.frz⟩
 | _=>o
def forgetR (id:Nat) (r:Nat→AV):Nat→AV:=fun t=>(r t).forget id
def forgetM (id:Nat) (m:Mem):Mem:=fun j=>(m j).map (AObj.forget id)
def evApp (T sz bytes:Nat) (x y:Opd) (id:Nat) (s:St):Option (Bool × AV × St):=
 match elemsOf sz s.m (y.ev s.r) with
 | none=>none
 | some ys=>match x.ev s.r with
  | .nils _ sz'=>match s.m id with
   | none=>if sz'=sz then some (decide (ys.length*bytes≤140737488355328∧ys.length≤9223372036854775807),.slice id 0 ys.length,⟨s.r,upd s.m id (some ⟨T,sz,.row ys,false⟩)⟩) else none
   | some _=>none
  | .slice i 0 n=>match s.m i with
   | some ⟨T',sz',.row l,false⟩=>if sz'=sz∧T'=T∧n=l.length then
     some (decide ((n+ys.length)*bytes≤140737488355328∧n+ys.length≤9223372036854775807),.slice i 0 (n+ys.length),⟨forgetR i s.r,upd (forgetM i s.m) i (some ⟨T,sz,.row (l++ys),false⟩)⟩) else none
   | _=>none
  | _=>none
end Go.Proofs.Ytdjbfgfbpimakaa.M
end

section
namespace Go.Proofs.Ytdjbfgfbpimakaa
open Go.RowKit
structure IV where
 n:Bool
 s:SV
def IsI (w:World) (x:IV) (z:Int):Prop:=
 ∃ l,IsL w x.s .u32 l∧Norm l∧z=sg x.n (valL l)∧(l=[]→x.n=false)∧Sm z
theorem IsI.keep {w w':World} {x:IV} {z:Int} (h:IsI w x z) (e:Ext w w'):IsI w' x z:=by
 obtain⟨l,h1,h2⟩:=h
 exact⟨l,h1.keep e,h2⟩
theorem IsI.kept {w w':World} {x:IV} {z:Int} (h:IsI w x z) (e:Kept 116 w w'):IsI w' x z:=by
 obtain⟨l,h1,h2⟩:=h
 exact⟨l,h1.kept e,h2⟩
theorem isI_zero (w:World):IsI w ⟨false,⟨none,0,0⟩⟩ 0:=⟨[],isL_nil w _,.inl rfl,by simp[sg,valL],fun _=>rfl,sm_zero⟩
def RetI (w:World) (z:Int) (e:Ending) (w':World):Prop:=
 ∃ x:IV,e = .returned (.agg #[.bool x.n,.slice x.s.a x.s.len x.s.cap])∧IsI w' x z∧Ext w w'
theorem isI_made {w:World} {neg:Bool} {ao:Option Addr} {cap k:Nat} {l:List Int} (h:IsL w ⟨ao,l.length,cap⟩ .u32 l) (hk:k+1≤l.length)
  (hz:∀ j,k+1≤j→at_ l j=0) (hne:at_ l k≠0) (hcm:cap≤9223372036854775807) (hs:Sm (sg neg (valL l))):IsI w ⟨neg,⟨ao,k+1,k+1⟩⟩ (sg neg (valL l)):=by
 have hcap:l.length≤cap:=h.1.2.1
 refine⟨l.take (k+1),h.take hk (Nat.le_refl _) (by omega),.inr ?_,by rw[valL_take hz],fun e => ?_,hs⟩
 ·have:(l.take (k+1)).length-1=k:=by simp;omega
  rw[this]
  simpa[at_] using hne
 ·have:=congrArg List.length e
  rw[List.length_take,List.length_nil] at this
  omega
set_option maxHeartbeats 400000 in
theorem made_any (neg:Bool) (s:SV) (l:List Int) (w:World) (h:IsL w s .u32 l) (hs:Sm (sg neg (valL l))) :
  Calls Try.prog 79 #[.bool neg,.slice s.a s.len s.cap] w (RetI w (sg neg (valL l))):=by
 obtain⟨ao,cap,rfl,hcap,hcm,hop⟩:=h.open_
 replace hs:=hd_ hs
 go_enter Try.func79,Try.ntmps79
 go_wp2
 go_loop [5] (fun n => ∃ k:Nat,k≤l.length∧n = .int .i64 k∧(∀ j,k≤j→at_ l j=0)) (fun n=>(intOf n).toNat)
 case atStart=>exact⟨l.length,Nat.le_refl _,rfl,fun j hj=>at_ge hj⟩
 case round =>
  obtain⟨k,hk,rfl,hz⟩:=hrel
  match k,hk,hz with
  | 0,hk,hz =>
   have H0:=hd_ (valL_zero (fun j=>hz j (by omega)))
   clear hz
   go_wp2
   refine bodyPost_ret (v:=.agg #[.bool false,.slice none 0 0]) (by simp[results,Try.results79,go_sem]) rfl ⟨⟨false,⟨none,0,0⟩⟩,rfl,?_,(Ext.rf _).al _⟩
   rw[H0.out]
   cases neg<;>exact isI_zero _
  | k+1,hk,hz =>
   have Hz:=hd_ hz;clear hz
   obtain⟨b,off,rfl,hb,hc⟩:=hop (by omega)
   have hbl:=hb.lt
   have hc:=hc k (by omega)
   have hf:=h.fit (i:=k) (by omega)
   by_cases h0:at_ l k=0
   ·have h0':(at_ l k == 0)=true:=by simp[h0]
    have H0:=hd_ h0;clear h0
    go_wp2
    go_round
    case rel=>exact⟨k,by omega,by go_num,fun j hj=>if e:j=k then by rw[e];exact H0.out else Hz.out j (by omega)⟩
    case measure=>first | (simp[intOf];done) | (simp[intOf];omega)
   ·have h0':(at_ l k == 0)=false:=by simp[h0]
    go_wp2
    refine bodyPost_ret (v:=.agg #[.bool neg,.slice (some ⟨b,off,none⟩) (k+1) (k+1)]) (by simp[results,Try.results79,go_sem]) rfl ⟨⟨neg,⟨some ⟨b,off,none⟩,k+1,k+1⟩⟩,rfl,?_,?_⟩
    ·exact (isI_made h hk Hz.out h0 hcm hs.out).keep (((Ext.rf _).al _))
    ·exact (Ext.rf _).al _
theorem IsI.open_ {w:World} {x:IV} {z:Int} (h:IsI w x z):∃ l,IsL w x.s .u32 l∧Norm l∧Dig l∧l.length≤4398046511105∧z=sg x.n (valL l)∧(l=[]→x.n=false)∧Sm z:=by
 obtain⟨l,h1,h2,h3,h4,h5⟩:=h
 refine⟨l,h1,h2,h1.2,?_,h3,h4,h5⟩
 have hb:Bt (valL l) maxBits:=by
  rw[h3] at h5
  exact h5.bt.le (by rw[natAbs_sg];exact Nat.le_refl _)
 have:=len_of_bt h1.2 h2 hb
 rw[maxBits_eq] at this
 omega
theorem IsI.sm {w:World} {x:IV} {z:Int} (h:IsI w x z):Sm z:=by obtain⟨_,_,_,_,_,h⟩:=h;exact h
end Go.Proofs.Ytdjbfgfbpimakaa
end

section
namespace Go.Proofs.Ytdjbfgfbpimakaa
open Go.RowKit
def Rw (w:World) (base:Nat) (k:IntKind) (s:SV) (l:List Int):Prop:=w.ownsRow base (ET k) 1 (.slice s.a s.len s.cap) l.length (l.map (Value.int k))
section
variable {w w':World} {base:Nat} {k:IntKind} {s:SV} {l:List Int}
theorem Rw.nil_ (w:World) (base:Nat) (k:IntKind):Rw w base k ⟨none,0,0⟩ []:=World.ownsRow_nil _ _ _ _
theorem Rw.len (h:Rw w base k s l):s.len=l.length:=by
 rcases h.2 with⟨hv,hl⟩ | ⟨g,cap,cur,hv,_⟩
 ·injection hv with _ e _;omega
 ·injection hv
theorem Rw.cap_ (h:Rw w base k s l):l.length≤s.cap∧s.cap≤9223372036854775807:=by
 rcases h.2 with⟨hv,hl⟩ | ⟨g,cap,cur,hv,_,_,h1,h2,_⟩
 ·injection hv with _ _ e;omega
 ·injection hv with _ _ e;subst e;exact⟨h1,h2⟩
theorem Rw.keep (h:Rw w base k s l) (e:Ext w w'):Rw w' base k s l:=by
 obtain⟨h1,h2⟩:=h
 refine⟨h1,?_⟩
 rcases h2 with h2 | ⟨g,cap,cur,hv,hb,hg,rest⟩
 ·exact .inl h2
 ·exact .inr ⟨g,cap,cur,hv,hb,(e.block g (Array.getElem?_eq_some_iff.1 hg).1).trans hg,rest⟩
theorem Rw.al (h:Rw w base k s l) (o:Obj):Rw (w.alloc o) base k s l:=h.keep ((Ext.rf w).al o)
theorem Rw.kept (h:Rw w base k s l) (e:Kept (ET k) w w'):Rw w' base k s l:=by
 obtain⟨h1,h2⟩:=h
 refine⟨h1,?_⟩
 rcases h2 with h2 | ⟨g,cap,cur,hv,hb,hg,rest⟩
 ·exact .inl h2
 ·exact .inr ⟨g,cap,cur,hv,hb,(e g ⟨_,_,hg⟩).trans hg,rest⟩
theorem Rw.open_ (h:Rw w base k s l) (hl:0<l.length):∃ g cap,s=⟨some ⟨g,0,none⟩,l.length,cap⟩∧base≤g∧Ty w g (ET k)∧l.length≤cap∧cap≤9223372036854775807 ∧
  (∀ j,j<l.length→w.cell? ⟨g,j,none⟩=some (.int k (at_ l j)))∧(∀ j,w.frozen? ⟨g,j,none⟩=false):=by
 have h0:=h
 rcases h.2 with⟨hv,hn⟩ | ⟨g,cap,cur,hv,hb,hg,h1,h2,_⟩
 ·omega
 ·obtain⟨a,n,c⟩:=s
  simp only[Value.slice.injEq] at hv
  obtain⟨rfl,rfl,rfl⟩:=hv
  refine⟨g,c,rfl,hb,⟨_,_,hg⟩,h1,h2,fun j hj => ?_,fun j=>World.ownsRow.frozenAt h0 j⟩
  have:=World.ownsRow.cellAt h0 j (by simpa using hj)
  rw[this]
  simp[at_,hj]
theorem Rw.set {g cap:Nat} (h:Rw w base k ⟨some ⟨g,0,none⟩,l.length,cap⟩ l) (j:Nat) (v:Int):Rw (w.setCell ⟨g,j,none⟩ (.int k v)) base k ⟨some ⟨g,0,none⟩,l.length,cap⟩ (l.set j v):=by
 have:=(World.ownsRow.stored h j (.int k v)).1
 unfold Rw
 rw[List.length_set,List.map_set]
 exact this
theorem Rw.set' {g n cap:Nat} (h:Rw w base k ⟨some ⟨g,0,none⟩,n,cap⟩ l) (j:Nat) (v:Int):Rw (w.setCell ⟨g,j,none⟩ (.int k v)) base k ⟨some ⟨g,0,none⟩,n,cap⟩ (l.set j v):=by
 obtain rfl:n=l.length:=h.len
 exact h.set j v
theorem Rw.isL (h:Rw w base k s l) (hf:∀ x∈l,Fit k x):IsL w s k l:=by
 have h1:=h.len
 have h2:=h.cap_
 obtain⟨a,n,c⟩:=s
 simp only at h1 h2
 subst h1
 refine IsL.mk_ h2.1 h2.2 (fun hl => ?_) hf
 obtain⟨g,cap,he,hb,ht,_,_,hc,_⟩:=h.open_ hl
 simp only[SV.mk.injEq] at he
 exact⟨g,0,he.1,ht,fun j hj=>by rw[Nat.zero_add];exact hc j hj⟩
theorem Rw.take {g n cap m:Nat} (h:Rw w base k ⟨some ⟨g,0,none⟩,n,cap⟩ l) (hm:m≤n):Rw w base k ⟨some ⟨g,0,none⟩,m,cap⟩ (l.take m):=by
 obtain rfl:n=l.length:=h.len
 have hl:(l.take m).length=m:=by simp;omega
 rcases h.2 with⟨hv,_⟩ | ⟨g',cap',cur,hv,hb,hg,h1,h2,h3,h4⟩
 ·cases hv
 ·simp only[Value.slice.injEq] at hv
  obtain⟨e1,-,rfl⟩:=hv
  unfold Rw
  rw[hl]
  refine⟨by simp;omega,.inr ⟨g',cap,cur,by rw[e1],hb,hg,by omega,h2,h3,?_⟩⟩
  rw[List.map_take,←h4,List.take_take]
  congr 1;omega
theorem Rw.of_own {b:Nat} (h:Own w b (ET k) k l) (hb:base≤b) (hm:l.length≤9223372036854775807):Rw w base k ⟨some ⟨b,0,none⟩,l.length,l.length⟩ l:=
 ⟨by simp,.inr ⟨b,l.length,_,rfl,hb,h,Nat.le_refl _,hm,by simp,by simpa using List.take_of_length_le (by simp)⟩⟩
end
theorem wpL_app1 {P:Program} (w:World) {ops:Array Oper} {rest:List Oper} {o:Oper} {a:Act} {Q:Exit→Act→World→Prop} (hgd:o.guard=none) (sl x:Operand) (t:TypeId)
  (ho:o.op = .call { callee:=.builtin .append,args:=#[sl,x],argTypes:=#[t,t] })
  (k:IntKind) (bytes:Nat) (ht:P.underlying t=some (.slice (ET k))) (hinfo:(P.info? (ET k)).map (fun i=>(i.zero,i.size,i.bytes))=some (some (.int k 0),1,bytes))
  (W0:World) (s:SV) (l:List Int) (v:Int) (hs:a.eval sl = .slice s.a s.len s.cap) (hx:a.eval x = .slice (some ⟨w.heap.size,0,none⟩) 1 1) (hown:Rw w W0.heap.size k s l) (hE:Ext W0 w)
  (hb:(l.length+1)*bytes≤140737488355328) (h63:l.length+1≤9223372036854775807)
  (h:∀ (s':SV) (w':World),Rw w' W0.heap.size k s' (l++[v])→Ext W0 w'→(∀ T,T≠ET k→Kept T w w')→wpList P ops Q rest (a.put o.dst (.slice s'.a s'.len s'.cap)) w') :
  wpList P ops Q (o::rest) a (w.alloc (.cells #[.int k v] (ET k))):=by
 obtain⟨i,hi,hz0,hz1,hz2⟩:=info_parts hinfo
 refine wpList_append_own _ hgd sl x t ho W0.heap.size (ET k) i _ 1 bytes ht hi hz0 hz1 hz2 rfl (by omega) (.slice s.a s.len s.cap) l.length (l.map (Value.int k)) hs (hown.al _) ⟨w.heap.size,0,none⟩ 1 1 [.int k v] hx rfl
  (by intro j u hu;match j,hu with | 0,hu=>simp at hu;subst hu;simp[Addr.add]) (by intro u hu;simp at hu;subst hu;rfl) h63 hb (Nat.le_trans hE.size (by simp)) ?_
 intro v' w' hown' hgr hnil
 have hform:∃ s':SV,v' = .slice s'.a s'.len s'.cap:=by
  rcases hown'.2 with⟨e,_⟩ | ⟨g,cap,cur,e,_⟩
  ·exact⟨⟨none,0,0⟩,e⟩
  ·exact⟨⟨some ⟨g,0,none⟩,_,cap⟩,e⟩
 obtain⟨s',rfl⟩:=hform
 refine h s' w' ?_ ((hE.al _).gr hgr ?_) ?_
 ·unfold Rw
  rw[List.length_append,List.map_append]
  exact hown'
 ·intro g hg
  rcases hown.2 with⟨e,_⟩ | ⟨g',cap,cur,e,hb',_⟩
  ·rw[e] at hg;cases hg
  ·rw[e] at hg
   simp only[Value.ownBlock,Option.some.injEq] at hg
   omega
 ·intro T hT b hb
  refine (hgr.block b (by have:=hb.lt;simp;omega) ?_).trans (Below.heap_alloc _ _ _ hb.lt)
  intro e
  rcases hown.2 with⟨e',_⟩ | ⟨g',cap,cur,e',_,hg',_⟩
  ·rw[e'] at e;cases e
  ·rw[e'] at e
   simp only[Value.ownBlock,Option.some.injEq] at e
   subst e
   exact Ty.ne_ hb ⟨_,_,hg'⟩ hT rfl
end Go.Proofs.Ytdjbfgfbpimakaa
end

section
namespace Go.Proofs.Ytdjbfgfbpimakaa
open Go.RowKit
def bs (l:List UInt8):ByteArray:=⟨l.toArray⟩
def byt (l:List UInt8) (i:Nat):Nat:=(l.getD i 0).toNat
@[simp,go_sem] theorem bs_size (l:List UInt8):(bs l).size=l.length:=by simp[bs,ByteArray.size]
@[simp,go_sem] theorem bs_toList (l:List UInt8):(bs l).toList=l:=by
 rw[ByteArray.toList_eq];simp[bs]
@[simp,go_sem] theorem bs_get (l:List UInt8) (i:Nat) (h:i<(bs l).size):((bs l)[i]'h).toNat=byt l i:=by
 have h':i<l.length:=by simpa using h
 simp[byt,h',bs,ByteArray.getElem_eq_getElem_data]
@[simp,go_sem] theorem bs_extract (l:List UInt8) (a b:Nat):(bs l).extract a b=bs ((l.drop a).take (b-a)):=ByteArray.extract_mk l a b
@[simp,go_sem] theorem bs_append (l m:List UInt8):bs l++bs m=bs (l++m):=ByteArray.mk_append_mk l m
@[simp,go_sem] theorem take_tail_all (l:List UInt8):List.take (l.length-1) l.tail=l.tail:=List.take_of_length_le (by simp)
@[simp,go_sem] theorem take_drop_all (l:List UInt8) (a:Nat):List.take (l.length-a) (List.drop a l)=List.drop a l:=List.take_of_length_le (by simp)
def nums (m:List UInt8):List Int:=m.map fun c=>(c.toNat:Int)
@[simp] theorem nums_length (m:List UInt8):(nums m).length=m.length:=by simp[nums]
theorem at_nums (m:List UInt8) (i:Nat):at_ (nums m) i=byt m i:=by
 by_cases h:i<m.length
 ·simp[at_,nums,byt,h]
 ·simp[at_,nums,byt,h]
theorem nums_fit (m:List UInt8):∀ x∈nums m,Fit .u8 x:=by
 intro x hx
 simp only[nums,List.mem_map] at hx
 obtain⟨c,_,rfl⟩:=hx
 have:=UInt8.toNat_lt c
 show 0≤_∧_≤_
 omega
theorem wpL_bytes {P:Program} (w:World) {ops:Array Oper} {rest:List Oper} {o:Oper} {a:Act} {Q:Exit→Act→World→Prop} (hgd:o.guard=none) (src dst:TypeId) (x:Operand) (hop:o.op=Op.convert src dst x)
  (hs:P.underlying src=some .string) (hd:P.underlying dst=some (.slice (ET .u8))) (he:P.underlying (ET .u8)=some (.int .u8)) (m:List UInt8) (hx:a.eval x = .string (bs m)) (hm:m.length≤9223372036854775807)
  (h:∀ (cap:Nat) (w':World),IsL w' ⟨some ⟨w.heap.size,0,none⟩,m.length,cap⟩ .u8 (nums m)→Ext w w'→(∀ j,j<m.length→w'.cell? ⟨w.heap.size,j,none⟩=some (.int .u8 (byt m j)))→wpList P ops Q rest (a.put o.dst (.slice (some ⟨w.heap.size,0,none⟩) m.length cap)) w') :
  wpList P ops Q (o::rest) a w:=by
 refine wpList_plain hgd fun K hK' => ?_
 have hrun:=run_bytes_of_string (P:=P) w src dst (ET .u8) (bs m) hs hd he
 rw[bs_size] at hrun
 unfold Oper.wp
 simp[execOp,hop,hx,hrun,Result.andThen]
 have hge:=grownCap_ge w m.length 0 (ET .u8)
 have hle:=grownCap_le_maxLen w m.length 0 (ET .u8) hm
 have hcell:∀ j,j<m.length→(w.drew.alloc (.cells (bytesRow (bs m) (grownCap w m.length 0 (ET .u8))) (ET .u8) ((bytesRow (bs m) (grownCap w m.length 0 (ET .u8))).size,(bytesRow (bs m) (grownCap w m.length 0 (ET .u8))).size+1))).cell? ⟨w.heap.size,j,none⟩=some (.int .u8 (byt m j)):=by
  intro j hj
  have:=World.cell?_alloc_mark w.drew (bytesRow (bs m) (grownCap w m.length 0 (ET .u8))) (ET .u8) ((bytesRow (bs m) (grownCap w m.length 0 (ET .u8))).size,(bytesRow (bs m) (grownCap w m.length 0 (ET .u8))).size+1) j
  refine this.trans ?_
  rw[bytesRow_at (bs m) _ j (by simpa[bs] using hj)]
  simp[bs,byt,hj]
 refine hK' _ _ (h _ _ ?_ ((Ext.rf w).dr.al _) hcell)
 have hl:(nums m).length=m.length:=nums_length m
 have:=IsL.mk_ (w:=w.drew.alloc (.cells (bytesRow (bs m) (grownCap w m.length 0 (ET .u8))) (ET .u8) ((bytesRow (bs m) (grownCap w m.length 0 (ET .u8))).size,(bytesRow (bs m) (grownCap w m.length 0 (ET .u8))).size+1))) (ao:=some ⟨w.heap.size,0,none⟩) (cap:=grownCap w m.length 0 (ET .u8)) (k:=.u8) (l:=nums m) (by rw[hl];exact hge) hle
  (fun _=>⟨w.heap.size,0,rfl,⟨_,_,heap_alloc_new w.drew _⟩,fun j hj=>by rw[Nat.zero_add,at_nums];exact hcell j (by rw[←hl];exact hj)⟩) (nums_fit m)
 rw[hl] at this
 exact this
end Go.Proofs.Ytdjbfgfbpimakaa
end

section
namespace Go.Proofs.Ytdjbfgfbpimakaa.Z4
def valL:List Int→Int
 | []=>0
 | x::t=>x+10000*valL t
def Dig (l:List Int):Prop:=∀ x∈l,0≤x∧x≤9999
def Norm (l:List Int):Prop:=l=[]∨at_ l (l.length-1)≠0
theorem Dig.at_ {l:List Int} (h:Dig l) (i:Nat):0≤at_ l i∧at_ l i≤9999:=by
 by_cases hi:i<l.length
 ·exact h _ (at_mem hi)
 ·rw[at_ge (by omega)];omega
theorem Dig.tail {x:Int} {t:List Int} (h:Dig (x::t)):Dig t:=fun y hy=>h y (List.mem_cons_of_mem _ hy)
theorem valL_nonneg {l:List Int} (h:Dig l):0≤valL l:=by
 induction l with
 | nil=>simp[valL]
 | cons x t ih=>have:=ih h.tail;have:=h x (List.mem_cons_self ..);simp only[valL];omega
theorem valL_zero {l:List Int} (h:∀ j,at_ l j=0):valL l=0:=by
 induction l with
 | nil=>rfl
 | cons x t ih =>
  have h0:=h 0
  have ht:∀ j,at_ t j=0:=fun j=>by have:=h (j+1);rwa[at_cons_succ] at this
  rw[at_cons_zero] at h0
  simp[valL,h0,ih ht]
theorem valL_take {l:List Int} {k:Nat} (h:∀ j,k≤j→at_ l j=0):valL (l.take k)=valL l:=by
 induction l generalizing k with
 | nil=>simp
 | cons x t ih =>
  match k with
  | 0=>rw[valL_zero (l:=x::t) (fun j=>h j (by omega))];rfl
  | k+1 =>
   simp only[List.take_succ_cons,valL]
   rw[ih (fun j hj=>by have:=h (j+1) (by omega);rwa[at_cons_succ] at this)]
theorem valL_pos {l:List Int} (hd:Dig l) {i:Nat} (hi:at_ l i≠0):0<valL l:=by
 induction l generalizing i with
 | nil=>simp[at_] at hi
 | cons x t ih =>
  have hx:=hd x (List.mem_cons_self ..)
  have ht:=valL_nonneg hd.tail
  simp only[valL]
  match i with
  | 0=>rw[at_cons_zero] at hi;omega
  | i+1=>rw[at_cons_succ] at hi;have:=ih hd.tail hi;omega
theorem valL_pos' {l:List Int} (hd:Dig l) (hn:Norm l) (hne:l≠[]):0<valL l:=by
 rcases hn with h | h
 ·exact absurd h hne
 ·exact valL_pos hd h
theorem valL_eq_zero {l:List Int} (hd:Dig l) (hn:Norm l):valL l=0↔l=[]:=by
 constructor
 ·intro h
  by_cases hne:l=[]
  ·exact hne
  ·have:=valL_pos' hd hn hne;omega
 ·rintro rfl;rfl
theorem valL_take_succ (l:List Int) (i:Nat):valL (l.take (i+1))=valL (l.take i)+at_ l i*10000^i:=by
 induction l generalizing i with
 | nil=>simp[valL,at_]
 | cons x t ih =>
  match i with
  | 0=>simp[valL,at_]
  | i+1 =>
   simp only[List.take_succ_cons,valL,at_cons_succ]
   rw[ih i,Int.pow_succ]
   grind
theorem valL_lt {l:List Int} (hd:Dig l):valL l<10000^l.length:=by
 induction l with
 | nil=>simp[valL]
 | cons x t ih =>
  have h1:=ih hd.tail
  have hx:=hd x (List.mem_cons_self ..)
  simp only[valL,List.length_cons,Int.pow_succ]
  generalize (10000:Int)^t.length=p at *
  omega
theorem pow_pos' (i:Nat):(0:Int)<10000^i:=Int.pow_pos (by omega)
theorem pow_mono' {i j:Nat} (h:i≤j):(10000:Int)^i≤10000^j:=by
 induction j with
 | zero =>
      obtain rfl:i=0:=by omega
      exact Int.le_refl _
 | succ j ih =>
  by_cases e:i=j+1
  ·subst e;exact Int.le_refl _
  ·have:=ih (by omega)
   have hp:=pow_pos' j
   rw[Int.pow_succ]
   omega
theorem valL_ge {l:List Int} (hd:Dig l) {i:Nat} (hi:at_ l i≠0):10000^i≤valL l:=by
 induction l generalizing i with
 | nil=>simp[at_] at hi
 | cons x t ih =>
  have hx:=hd x (List.mem_cons_self ..)
  have ht:=valL_nonneg hd.tail
  simp only[valL]
  match i with
  | 0=>rw[at_cons_zero] at hi;simp;omega
  | i+1 =>
   rw[at_cons_succ] at hi
   have:=ih hd.tail hi
   rw[Int.pow_succ]
   generalize (10000:Int)^i=p at *
   omega
theorem valL_lt_of_len {a b:List Int} (ha:Dig a) (hb:Dig b) (hn:Norm b) (h:a.length<b.length):valL a<valL b:=by
 rcases hn with rfl | hn
 ·simp at h
 ·have h1:=valL_lt ha
  have h2:=valL_ge hb hn
  have h3:=pow_mono' (i:=a.length) (j:=b.length-1) (by omega)
  omega
theorem valL_lt_of_at {a b:List Int} (ha:Dig a) (hb:Dig b) (hl:a.length=b.length) {i:Nat} (hi:i<a.length) (heq:∀ j,i<j→at_ a j=at_ b j) (hlt:at_ a i<at_ b i):valL a<valL b:=by
 induction a generalizing b i with
 | nil=>simp at hi
 | cons x s ih =>
  match b,hl with
  | y::t,hl =>
   have hx:=ha x (List.mem_cons_self ..)
   have hy:=hb y (List.mem_cons_self ..)
   simp only[List.length_cons,Nat.add_right_cancel_iff] at hl
   simp only[valL]
   match i,hi,heq,hlt with
   | 0,_,heq,hlt =>
    have:s=t:=list_ext_at hl (fun j=>by have:=heq (j+1) (by omega);rwa[at_cons_succ,at_cons_succ] at this)
    subst this
    rw[at_cons_zero,at_cons_zero] at hlt
    omega
   | i+1,hi,heq,hlt =>
    rw[at_cons_succ,at_cons_succ] at hlt
    have:=ih ha.tail hb.tail hl (i:=i) (by simpa using hi) (fun j hj=>by have:=heq (j+1) (by omega);rwa[at_cons_succ,at_cons_succ] at this) hlt
    omega
theorem valL_set {l:List Int} {i:Nat} (h:i<l.length) (v:Int):valL ((l.set i v).take (i+1))=valL (l.take i)+v*10000^i:=by
 rw[valL_take_succ,take_set,at_set_eq h]
theorem Dig.set {l:List Int} (hd:Dig l) (i:Nat) {v:Int} (hv:0≤v∧v≤9999):Dig (l.set i v):=by
 intro x hx
 rcases List.mem_or_eq_of_mem_set hx with h | h
 ·exact hd x h
 ·subst h;exact hv
theorem neg_iff {n:Bool} {l:List Int} (hd:Dig l) (hn:Norm l) (h0:l=[]→n=false):sg n (valL l)<0↔n=true:=by
 by_cases hl:l=[]
 ·subst hl;rw[h0 rfl];simp[sg,valL]
 ·have:=valL_pos' hd hn hl
  cases n
  ·simp[sg];omega
  ·simp[sg];omega
theorem valL_set_full {l:List Int} {i:Nat} (h:i<l.length) (v:Int):valL (l.set i v)=valL l+(v-at_ l i)*10000^i:=by
 induction l generalizing i with
 | nil=>simp at h
 | cons x t ih =>
  match i with
  | 0=>simp[valL,at_];omega
  | i+1 =>
   simp only[List.set_cons_succ,valL,at_cons_succ]
   rw[ih (by simpa using h),Int.pow_succ]
   grind
theorem pow4 (i:Nat):((2^(13*i):Nat):Int)≤(10000:Int)^i:=by
 have h:(2^13)^i≤10000^i:=Nat.pow_le_pow_left (by decide) i
 rw[←Nat.pow_mul] at h
 have e:(10000:Int)^i=((10000^i:Nat):Int):=by rw[Int.natCast_pow];rfl
 rw[e]
 omega
theorem len_of_bt {l:List Int} {n:Nat} (hd:Dig l) (hn:Norm l) (h:Bt (valL l) n):13*l.length≤n+13:=by
 rcases hn with rfl | hn
 ·simp
 ·have h1:=valL_ge hd hn
  have h2:=valL_nonneg hd
  have h0:=pow4 (l.length-1)
  unfold Bt at h
  have h3:2^(13*(l.length-1))<2^n:=by omega
  rcases Nat.lt_or_ge (13*(l.length-1)) n with h4 | h4
  ·omega
  ·have:=Nat.pow_le_pow_right (n:=2) (by omega) h4
   omega
theorem mul_bound {x y:Int} (hx:0≤x∧x≤9999) (hy:0≤y∧y≤9999):0≤x*y∧x*y≤99980001:=by
 refine⟨Int.mul_nonneg hx.1 hy.1,?_⟩
 have:=Int.mul_le_mul hx.2 hy.2 hy.1 (by omega)
 omega
theorem valL_snoc (l:List Int) (x:Int):valL (l++[x])=valL l+x*10000^l.length:=by
 induction l with
 | nil=>simp[valL]
 | cons y t ih=>simp only[List.cons_append,valL,ih,List.length_cons,Int.pow_succ];grind
theorem Dig.snoc {l:List Int} (h:Dig l) {x:Int} (hx:0≤x∧x≤9999):Dig (l++[x]):=by
 intro y hy
 rcases List.mem_append.1 hy with hy | hy
 ·exact h y hy
 ·rw[List.mem_singleton.1 hy];exact hx
theorem Dig.fit {l:List Int} (h:Dig l):∀ x∈l,Fit .i64 x:=by
 intro x hx
 have:=h x hx
 show _≤_∧_≤_
 omega
end Go.Proofs.Ytdjbfgfbpimakaa.Z4
end

section
namespace Go.Proofs.Ytdjbfgfbpimakaa
open Go.RowKit
end Go.Proofs.Ytdjbfgfbpimakaa
end

section
namespace Go.Proofs.Ytdjbfgfbpimakaa
open Go.Shelf
def lays133_ren:Go.Shelf.Ren:=⟨fun | 133=>106 | 128=>116 | n=>n,fun | 51=>116 | 3=>3 | 4=>4 | 46=>117 | 5=>5 | 9=>9 | n=>n,fun | n=>n⟩
theorem lays133:Go.Proofs.Lays.n133 Try.prog lays133_ren:={
 mixed:=by kernel_rfl
 f128:=Try.func116.trans (congrArg some (by kernel_rfl))
 f133:=Try.func106.trans (congrArg some (by kernel_rfl))
 t3:=Try.underlying3
 a3:=Try.isAgg3
 z3:=Try.sizeOf3
 v3:=Try.zeroValue3
 t4:=Try.underlying4
 a4:=Try.isAgg4
 z4:=Try.sizeOf4
 v4:=Try.zeroValue4
 t5:=Try.underlying5
 a5:=Try.isAgg5
 z5:=Try.sizeOf5
 v5:=Try.zeroValue5
 t9:=Try.underlying9
 a9:=Try.isAgg9
 z9:=Try.sizeOf9
 v9:=Try.zeroValue9
 t46:=Try.underlying117
 a46:=Try.isAgg117
 z46:=Try.sizeOf117
 v46:=Try.zeroValue117
 t51:=Try.underlying116
 a51:=Try.isAgg116
 z51:=Try.sizeOf116
 v51:=Try.zeroValue116 }
theorem lz32 (x:Int) (w:World) (h0:0≤x) (h1:x≤4294967295) :
  Calls Try.prog 106 #[.int .u32 x] w fun e w'=>e = .returned (.int .i64 (32-(Lib.bitLen x.toNat:Int)))∧w=w':=(Any.bits_LeadingZeros32 lays133 x w h0 h1).mono fun _ _ h=>⟨h.1,h.2.symm⟩
theorem bitLen_bounds (n:Nat) (h0:0<n) (h:n<18446744073709551616):0<Lib.bitLen n∧2^(Lib.bitLen n-1)≤n∧n<2^Lib.bitLen n:=by
 induction n using Nat.strongRecOn with
 | ind n ih =>
  rcases Nat.lt_or_ge n 2 with h1 | h1
  ·obtain rfl:n=1:=by omega
   decide
  ·have h2:=Lib.bitLen_half n (by omega) h
   have h3:=ih (n / 2) (by omega) (by omega) (by omega)
   rw[h2]
   generalize Lib.bitLen (n / 2)=k at *
   have e:1+k-1=k-1+1:=by omega
   have e2:1+k=k+1:=by omega
   rw[e,e2,Nat.pow_succ,Nat.pow_succ]
   refine⟨by omega,by omega,by omega⟩
theorem lz_bounds {x:Int} (h0:0<x) (h1:x≤4294967295):∃ s:Nat,s<32∧(32-(Lib.bitLen x.toNat:Int))=s∧2147483648≤x*2^s∧x*2^s≤4294967295:=by
 obtain⟨n,rfl⟩:=Int.eq_ofNat_of_zero_le (Int.le_of_lt h0)
 rw[show ((n:Int)).toNat=n by omega]
 have hb:=bitLen_bounds n (by omega) (by omega)
 have h32:Lib.bitLen n≤32:=by
  refine Nat.not_lt.1 fun hc => ?_
  have:2^32≤2^(Lib.bitLen n-1):=Nat.pow_le_pow_right (by omega) (by omega)
  omega
 generalize Lib.bitLen n=k at *
 have e1:2^(32-k)*2^(k-1)=2147483648:=by rw[←Nat.pow_add,show 32-k+(k-1)=31 by omega]
 have e2:2^(32-k)*2^k=4294967296:=by rw[←Nat.pow_add,show 32-k+k=32 by omega]
 have g1:=Nat.mul_le_mul_left (2^(32-k)) hb.2.1
 have g2:2^(32-k)*(n+1)≤2^(32-k)*2^k:=Nat.mul_le_mul_left _ hb.2.2
 have g3:1≤2^(32-k):=Nat.one_le_two_pow
 rw[Nat.mul_add,Nat.mul_one] at g2
 have e3:(n:Int)*2^(32-k)=((2^(32-k)*n:Nat):Int):=by rw[Int.natCast_mul,Int.mul_comm];simp
 refine⟨32-k,by omega,by omega,?_,?_⟩<;>rw[e3]<;>omega
end Go.Proofs.Ytdjbfgfbpimakaa
end

section
namespace Go.Proofs.Ytdjbfgfbpimakaa.M
open Go.RowKit
def aggT:TypeDesc→Bool
 | .struct _=>true
 | .array _ _=>true
 | _=>false
def TyOk (P:Program) (T:TypeId) (ag:Bool) (sz:Nat):Prop:=∃ d i,P.underlying T=some d∧aggT d=ag∧P.info? T=some i∧i.size=sz
section
variable {P:Program} {w:World}
theorem run_isAgg {T:TypeId} {ag:Bool} {sz:Nat} (h:TyOk P T ag sz):(isAgg T).run P w = .ok ag w:=by
 obtain⟨d,i,h1,h2,h3,h4⟩:=h
 subst h2
 unfold isAgg
 simp only[Sem.run_bind,run_underlying h1,Result.andThen]
 cases d<;>rfl
theorem run_sizeOf {T:TypeId} {ag:Bool} {sz:Nat} (h:TyOk P T ag sz):(sizeOf T).run P w = .ok sz w:=by
 obtain⟨d,i,h1,h2,h3,h4⟩:=h
 simp[sizeOf,typeInfo,h3,h4]
def rd (c:Array Value) (o n:Nat):Array Value:=((List.range n).map fun j=>c.getD (o+j) undef).toArray
@[simp] theorem rd_size (c:Array Value) (o n:Nat):(rd c o n).size=n:=by simp[rd]
theorem rd_get (c:Array Value) (o n i:Nat) (h:i<n):(rd c o n).getD i undef=c.getD (o+i) undef:=by
 simp[rd,Array.getD_eq_getD_getElem?,h]
theorem add_mid (b o j:Nat):(⟨b,o,none⟩:Addr).add j=⟨b,o+j,none⟩:=by
 unfold Addr.add;split<;>simp_all
theorem cell_at {b o:Nat} {c:Array Value} {T:TypeId} {fr:Nat × Nat} (hb:w.heap[b]? = some (.cells c T fr)) (ho:o<c.size):w.cell? ⟨b,o,none⟩=some (c.getD o undef):=by
 rw[cell_of_row w b o c T fr hb]
 simp[ho]
theorem run_cells {b o n:Nat} {c:Array Value} {T:TypeId} {fr:Nat × Nat} (hb:w.heap[b]? = some (.cells c T fr)) (hn:o+n≤c.size):(loadCells ⟨b,o,none⟩ n).run P w = .ok (rd c o n) w:=by
 rw[run_loadCells (P:=P) w ⟨b,o,none⟩ n (fun j=>c.getD (o+j) undef) (fun j hj=>by rw[add_mid];exact cell_at hb (by omega))]
 rfl
theorem run_loadAgg {T:TypeId} {b o n:Nat} {c:Array Value} {T':TypeId} {fr:Nat × Nat} (hT:TyOk P T true n) (hb:w.heap[b]? = some (.cells c T' fr)) (hn:o+n≤c.size) :
  (loadVar T ⟨b,o,none⟩).run P w = .ok (.agg (rd c o n)) w:=by
 unfold loadVar
 simp only[Sem.run_bind,run_isAgg hT,Result.andThen,if_true,run_sizeOf hT,run_cells hb hn]
 rfl
theorem run_loadOne {T:TypeId} {b o n:Nat} {c:Array Value} {T':TypeId} {fr:Nat × Nat} (hT:TyOk P T false n) (hb:w.heap[b]? = some (.cells c T' fr)) (hn:o<c.size) :
  (loadVar T ⟨b,o,none⟩).run P w = .ok (c.getD o undef) w:=by
 unfold loadVar
 simp only[Sem.run_bind,run_isAgg hT,Result.andThen,Bool.false_eq_true,if_false]
 simp[cell_at hb hn]
theorem run_storeAt {T:TypeId} {ag:Bool} {b o n:Nat} {c:Array Value} {T':TypeId} {fr:Nat × Nat} {v:Value} (hT:TyOk P T ag n) (hb:w.heap[b]? = some (.cells c T' fr)) (hn:o+n≤c.size) (hv:v.cells.size=n)
  (hfr:∀ x,x<c.size→(decide (fr.1≤x)&&decide (x<fr.2))=false) (h1:∀ u∈v.cells.toList,u.oneCell'=true) :
  (Instr.storeAt T (.pointer (some ⟨b,o,none⟩)) v).run P w = .ok () (w.setCells b o v.cells.toList):=by
 have hl:v.cells.toList.length=n:=by simpa using hv
 have:=run_storeCells_cells (P:=P) b o v.cells.toList 0 w (fun j hj=>by rw[Nat.add_zero,cell_at hb (by omega)];rfl) (fun j hj=>by
  rw[Nat.add_zero]
  have:=hfr (o+j) (by omega)
  simp only[World.frozen?,hb]
  exact this) h1
 rw[Nat.add_zero] at this
 unfold Instr.storeAt Instr.sureAddr storeVar
 simp only[Sem.run_bind,Result.andThen,run_sizeOf hT,hv,ne_eq,not_true,if_false]
 simp[this]
def setC (c:Array Value):Nat→List Value→Array Value
 | _,[]=>c
 | o,v::r=>setC (c.setIfInBounds o v) (o+1) r
theorem heap_setCells {b:Nat} {T:TypeId} {fr:Nat × Nat}:∀ (vs:List Value) (o:Nat) (w:World) (c:Array Value),w.heap[b]? = some (.cells c T fr)→(w.setCells b o vs).heap[b]? = some (.cells (setC c o vs) T fr)
 | [],_,_,_,h=>h
 | v::r,o,w,c,h=>by
  rw[World.setCells,setC]
  refine heap_setCells r (o+1) _ _ ?_
  simp[World.setCell,Array.getElem?_modify,h]
theorem heap_setCells_ne {b b':Nat} (hne:b'≠b):∀ (vs:List Value) (o:Nat) (w:World),(w.setCells b o vs).heap[b']? = w.heap[b']?
 | [],_,_=>rfl
 | v::r,o,w=>by
  rw[World.setCells,heap_setCells_ne hne r (o+1)]
  exact Below.heap_setCell _ _ _ _ hne
theorem below_setCells {B b:Nat} (hb:B≤b):∀ (vs:List Value) (o:Nat) (w:World),Below B w (w.setCells b o vs)
 | [],_,_=>Below.refl _ _
 | v::r,o,_=>((Below.refl _ _).setCell (p:=⟨b,o,none⟩) hb v).trans (below_setCells hb r (o+1) _)
theorem size_setCells {b:Nat}:∀ (vs:List Value) (o:Nat) (w:World),(w.setCells b o vs).heap.size=w.heap.size
 | [],_,_=>rfl
 | v::r,o,_=>by rw[World.setCells,size_setCells r (o+1)];simp[World.setCell]
@[simp] theorem size_setC:∀ (vs:List Value) (o:Nat) (c:Array Value),(setC c o vs).size=c.size
 | [],_,_=>rfl
 | v::r,o,c=>by rw[setC,size_setC r (o+1)];simp
theorem setC_out:∀ (vs:List Value) (o:Nat) (c:Array Value) (i:Nat),(i<o∨o+vs.length≤i)→(setC c o vs).getD i undef=c.getD i undef
 | [],_,_,_,_=>rfl
 | v::r,o,c,i,h=>by
  simp only[List.length_cons] at h
  rw[setC,setC_out r (o+1) _ i (by omega)]
  simp only[Array.getD_eq_getD_getElem?]
  rw[Array.getElem?_setIfInBounds_ne (by omega)]
theorem setC_in:∀ (vs:List Value) (o:Nat) (c:Array Value) (i:Nat),o+vs.length≤c.size→i<vs.length→(setC c o vs).getD (o+i) undef=vs.getD i undef
 | v::r,o,c,0,hc,_=>by
  simp only[List.length_cons] at hc
  rw[setC,setC_out r (o+1) _ _ (by omega)]
  simp only[Array.getD_eq_getD_getElem?,Nat.add_zero,Array.getElem?_setIfInBounds_self,List.getD_cons_zero]
  rw[if_pos (by omega)];rfl
 | v::r,o,c,i+1,hc,hi=>by
  simp only[List.length_cons] at hc hi
  have:=setC_in r (o+1) (c.setIfInBounds o v) i (by simp;omega) (by omega)
  rw[setC,show o+(i+1)=o+1+i by omega,this]
  simp
end
section
variable {w0:World} {base:Nat→Prop} {nt:Nat} {loc:Locs} {s:St} {a:Act} {w:World}
theorem Rel.write (h:Rel w0 base nt loc s a w) {id:Nat} {o:AObj} {L:Loc} (ho:s.m id=some o) (hf:o.frz=false) (hL:loc id=some L) (hn:L.nil=false) {k:Cont} {p:Nat} {vs:List Value}
  (hk:∀ (w':World) (c:Array Value),w.heap.size≤w'.heap.size→(∀ b,NB base s.m loc w b→w'.heap[b]? = w.heap[b]?)→ContOk w' (NB base s.m loc w') loc c L.o o.sz o.cont→c.size=L.n→ContOk w' (NB base s.m loc w') loc (setC c p vs) L.o o.sz k) :
  Rel w0 base nt loc ⟨s.r,upd s.m id (some ⟨o.T,o.sz,k,false⟩)⟩ a (w.setCells L.b p vs):=by
 obtain⟨L',hL',hok⟩:=h.objs id o ho
 rw[hL] at hL'
 cases hL'
 obtain⟨c,fr,h1,h2,h3,h4,h5⟩:=hok.at_ hn
 have h4:=h4 hf
 have hlt:=h.obj_lt ho hL hn
 have hown:∀ b,ownB (upd s.m id (some ⟨o.T,o.sz,k,false⟩)) loc b↔ownB s.m loc b:=by
  intro b
  constructor
  ·rintro⟨i,o',L',ho',hf',hL',hn',hb'⟩
   by_cases e:i=id
   ·subst e
    exact⟨i,o,L',ho,hf,hL',hn',hb'⟩
   ·rw[upd_ne _ _ e] at ho'
    exact⟨i,o',L',ho',hf',hL',hn',hb'⟩
  ·rintro⟨i,o',L',ho',hf',hL',hn',hb'⟩
   by_cases e:i=id
   ·subst e
    exact⟨i,_,L',upd_same _ _ _,rfl,hL',hn',hb'⟩
   ·exact⟨i,o',L',by rw[upd_ne _ _ e];exact ho',hf',hL',hn',hb'⟩
 have hself:ownB s.m loc L.b:=⟨id,o,L,ho,hf,hL,hn,rfl⟩
 have hsz:(w.setCells L.b p vs).heap.size=w.heap.size:=size_setCells _ _ _
 have hs:∀ b,b≠L.b→(w.setCells L.b p vs).heap[b]? = w.heap[b]?:=fun b hb=>heap_setCells_ne hb _ _ _
 have hNs:∀ b,NB base s.m loc w b→(w.setCells L.b p vs).heap[b]? = w.heap[b]?:=fun b hb=>hs b (fun e=>hb.2.2 (e ▸ hself))
 have hN:∀ b,NB base s.m loc w b→NB base (upd s.m id (some ⟨o.T,o.sz,k,false⟩)) loc (w.setCells L.b p vs) b:=fun b hb=>⟨by rw[hsz];exact hb.1,hb.2.1,fun e=>hb.2.2 ((hown b).1 e)⟩
 have hN':∀ b,NB base s.m loc (w.setCells L.b p vs) b→NB base (upd s.m id (some ⟨o.T,o.sz,k,false⟩)) loc (w.setCells L.b p vs) b:=fun b hb=>⟨hb.1,hb.2.1,fun e=>hb.2.2 ((hown b).1 e)⟩
 refine⟨?_,h.defers,h.size,h.low,?_,fun t=>(h.tmps t).mono hNs hN (fun _ _ x=>x),?_,?_⟩
 ·exact Below.trans h.ext (below_setCells h4.1 _ _ _)
 ·intro i hi
  dsimp only at hi
  by_cases e:i=id
  ·subst e;rw[upd_same] at hi;cases hi
  ·rw[upd_ne _ _ e] at hi;exact h.dom i hi
 ·intro i o' ho'
  dsimp only at ho'
  by_cases e:i=id
  ·subst e
   rw[upd_same] at ho'
   cases ho'
   refine⟨L,hL,hok.sz,fun e=>(by rw[hn] at e;cases e),fun _=>⟨setC c p vs,fr,heap_setCells _ _ _ _ h1,by simpa using h2,?_,fun _=>h4,by simp⟩⟩
   have:=hk (w.setCells L.b p vs) c (by rw[hsz];exact Nat.le_refl _) hNs (h3.mono hNs (fun b hb=>⟨by rw[hsz];exact hb.1,hb.2⟩) (fun _ _ x=>x)) h2
   exact this.mono (fun _ _=>rfl) hN' (fun _ _ x=>x)
  ·rw[upd_ne _ _ e] at ho'
   obtain⟨L',hL',hok'⟩:=h.objs i o' ho'
   refine⟨L',hL',hok'.sz,hok'.nil,fun hnil => ?_⟩
   obtain⟨c',fr',g1,g2,g3,g4,g5⟩:=hok'.at_ hnil
   have hne:L'.b≠L.b:=fun hb=>by
    have:=h.inj id i o o' L L' ho ho' hf hL hL' hn hnil hb.symm
    exact e this.symm
   exact⟨c',fr',(hs _ hne).trans g1,g2,g3.mono hNs hN (fun _ _ x=>x),g4,fun hf'=>hN _ (g5 hf')⟩
 ·intro i i' o1 o2 L1 L2 ho1 ho2 hf1 hL1 hL2 hn1 hn2 hb
  dsimp only at ho1 ho2
  have old:∀ j oj,upd s.m id (some ⟨o.T,o.sz,k,false⟩) j=some oj→∃ oj',s.m j=some oj'∧oj'.frz=oj.frz:=by
   intro j oj hj
   by_cases e:j=id
   ·subst e;rw[upd_same] at hj;cases hj;exact⟨o,ho,hf⟩
   ·rw[upd_ne _ _ e] at hj;exact⟨oj,hj,rfl⟩
  obtain⟨o1',g1,g1'⟩:=old i o1 ho1
  obtain⟨o2',g2,_⟩:=old i' o2 ho2
  exact h.inj i i' o1' o2' L1 L2 g1 g2 (g1'.trans hf1) hL1 hL2 hn1 hn2 hb
end
end Go.Proofs.Ytdjbfgfbpimakaa.M
end

section
namespace Go.Proofs.Ytdjbfgfbpimakaa
open Go.RowKit
theorem infoU32:(Try.prog.info? 116).map (fun i=>(i.zero,i.size,i.bytes))=some (some (.int .u32 0),1,4):=by kernel_rfl
set_option maxHeartbeats 400000 in
theorem add32 (x y c:Int) (w:World) (hx:0≤x∧x≤4294967295) (hy:0≤y∧y≤4294967295) (hc:0≤c∧c≤1) :
  Calls Try.prog 112 #[.int .u32 x,.int .u32 y,.int .u32 c] w (fun e w'=>e = .returned (.tuple #[.int .u32 ((x+y+c) % 4294967296),.int .u32 ((x+y+c) / 4294967296)])∧w=w'):=by
 go_enter Try.func112,Try.ntmps112
 go_wp2
 go_ret2
 exact⟨rfl,rfl⟩
def bor (x y c:Int):Int:=if x-y-c<0 then 1 else 0
theorem top_and (a b:Nat) (ha:a<4294967296) (hb:b<4294967296):(a &&& b) / 2147483648=(a / 2147483648)*(b / 2147483648):=by
 have h:(a &&& b) / 2^31=(a / 2^31) &&& (b / 2^31):=Nat.and_div_two_pow
 simp only[Nat.reducePow] at h
 rw[h]
 have h1:a / 2147483648<2:=by omega
 have h2:b / 2147483648<2:=by omega
 generalize a / 2147483648=p at *
 generalize b / 2147483648=q at *
 match p,h1,q,h2 with
 | 0,_,0,_=>rfl
 | 0,_,1,_=>rfl
 | 1,_,0,_=>rfl
 | 1,_,1,_=>rfl
theorem top_or (a b:Nat) (ha:a<4294967296) (hb:b<4294967296):(a ||| b) / 2147483648=max (a / 2147483648) (b / 2147483648):=by
 have h:(a ||| b) / 2^31=(a / 2^31) ||| (b / 2^31):=Nat.or_div_two_pow
 simp only[Nat.reducePow] at h
 rw[h]
 have h1:a / 2147483648<2:=by omega
 have h2:b / 2147483648<2:=by omega
 generalize a / 2147483648=p at *
 generalize b / 2147483648=q at *
 match p,h1,q,h2 with
 | 0,_,0,_=>rfl
 | 0,_,1,_=>rfl
 | 1,_,0,_=>rfl
 | 1,_,1,_=>rfl
theorem top_xor (a b:Nat) (ha:a<4294967296) (hb:b<4294967296):(a ^^^ b) / 2147483648=(a / 2147483648+b / 2147483648) % 2:=by
 have h:(a ^^^ b) / 2^31=(a / 2^31) ^^^ (b / 2^31):=Nat.xor_div_two_pow
 simp only[Nat.reducePow] at h
 rw[h]
 have h1:a / 2147483648<2:=by omega
 have h2:b / 2147483648<2:=by omega
 generalize a / 2147483648=p at *
 generalize b / 2147483648=q at *
 match p,h1,q,h2 with
 | 0,_,0,_=>rfl
 | 0,_,1,_=>rfl
 | 1,_,0,_=>rfl
 | 1,_,1,_=>rfl
theorem not_u32 (a:Nat) (ha:a<4294967296):4294967295 ^^^ a<4294967296:=Nat.xor_lt_two_pow (n:=32) (by omega) ha
theorem borrow_nat (x y d:Nat) (hx:x<4294967296) (hy:y<4294967296) (hd:d<4294967296) :
  (((4294967295 ^^^ x) &&& y) ||| ((4294967295 ^^^ (x ^^^ y)) &&& d)) / 2147483648=max ((1-x / 2147483648)*(y / 2147483648)) ((1-(x / 2147483648+y / 2147483648) % 2)*(d / 2147483648)):=by
 have hxy:x ^^^ y<4294967296:=Nat.xor_lt_two_pow (n:=32) hx hy
 have h1:=not_u32 x hx
 have h2:=not_u32 _ hxy
 have h3:(4294967295 ^^^ x) &&& y<4294967296:=Nat.and_lt_two_pow (n:=32) _ hy
 have h4:(4294967295 ^^^ (x ^^^ y)) &&& d<4294967296:=Nat.and_lt_two_pow (n:=32) _ hd
 rw[top_or _ _ h3 h4,top_and _ _ h1 hy,top_and _ _ h2 hd,top_xor _ _ (by omega) hx,top_xor _ _ (by omega) hxy,top_xor _ _ hx hy]
 congr 1
 ·congr 1;omega
 ·congr 1;omega
theorem borrow_bits (x y c:Int) (hx:0≤x∧x≤4294967295) (hy:0≤y∧y≤4294967295) (hc:0≤c∧c≤1) :
  bits BinOp.or IntKind.u32 (bits BinOp.and IntKind.u32 (bits BinOp.xor IntKind.u32 IntKind.u32.max x) y)
   (bits BinOp.and IntKind.u32 (bits BinOp.xor IntKind.u32 IntKind.u32.max (bits BinOp.xor IntKind.u32 x y)) ((x-y-c) % 4294967296)) / 2147483648=bor x y c:=by
 obtain⟨a,rfl⟩:=Int.eq_ofNat_of_zero_le hx.1
 obtain⟨b,rfl⟩:=Int.eq_ofNat_of_zero_le hy.1
 obtain⟨d,hd⟩:=Int.eq_ofNat_of_zero_le (a:=((a:Int)-b-c) % 4294967296) (by omega)
 have hd':d<4294967296:=by omega
 have ha:a<4294967296:=by omega
 have hb:b<4294967296:=by omega
 have hm:IntKind.u32.max=((4294967295:Nat):Int):=by decide
 have hxy:a ^^^ b<4294967296:=Nat.xor_lt_two_pow (n:=32) ha hb
 have h1:=not_u32 a ha
 have h2:=not_u32 _ hxy
 have h3:(4294967295 ^^^ a) &&& b<4294967296:=Nat.and_lt_two_pow (n:=32) _ hb
 have h4:(4294967295 ^^^ (a ^^^ b)) &&& d<4294967296:=Nat.and_lt_two_pow (n:=32) _ hd'
 rw[hd,hm,u32_xor_nat _ _ (by omega) ha,u32_xor_nat _ _ ha hb,u32_xor_nat _ _ (by omega) hxy,u32_and_nat _ _ h1 hb,u32_and_nat _ _ h2 hd',u32_or_nat _ _ h3 h4]
 have:=borrow_nat a b d ha hb hd'
 have e:(((((4294967295 ^^^ a) &&& b) ||| ((4294967295 ^^^ (a ^^^ b)) &&& d):Nat):Int)) / 2147483648=((((((4294967295 ^^^ a) &&& b) ||| ((4294967295 ^^^ (a ^^^ b)) &&& d)) / 2147483648:Nat)):Int):=by omega
 rw[e,this]
 unfold bor
 have ha2:a / 2147483648<2:=by omega
 have hb2:b / 2147483648<2:=by omega
 have hd2:d / 2147483648<2:=by omega
 split
 ·generalize hp:a / 2147483648=p at *
  generalize hq:b / 2147483648=q at *
  generalize hr:d / 2147483648=r at *
  match p,ha2,q,hb2,r,hd2 with
  | 0,_,0,_,0,_=>omega
  | 0,_,0,_,1,_=>rfl
  | 0,_,1,_,0,_=>rfl
  | 0,_,1,_,1,_=>rfl
  | 1,_,0,_,0,_=>omega
  | 1,_,0,_,1,_=>omega
  | 1,_,1,_,0,_=>omega
  | 1,_,1,_,1,_=>rfl
 ·generalize hp:a / 2147483648=p at *
  generalize hq:b / 2147483648=q at *
  generalize hr:d / 2147483648=r at *
  match p,ha2,q,hb2,r,hd2 with
  | 0,_,0,_,0,_=>rfl
  | 0,_,0,_,1,_=>omega
  | 0,_,1,_,0,_=>omega
  | 0,_,1,_,1,_=>omega
  | 1,_,0,_,0,_=>rfl
  | 1,_,0,_,1,_=>rfl
  | 1,_,1,_,0,_=>rfl
  | 1,_,1,_,1,_=>omega
set_option maxHeartbeats 400000 in
theorem sub32 (x y c:Int) (w:World) (hx:0≤x∧x≤4294967295) (hy:0≤y∧y≤4294967295) (hc:0≤c∧c≤1) :
  Calls Try.prog 111 #[.int .u32 x,.int .u32 y,.int .u32 c] w (fun e w'=>e = .returned (.tuple #[.int .u32 ((x-y-c) % 4294967296),.int .u32 (bor x y c)])∧w=w'):=by
 have H:=borrow_bits x y c hx hy hc
 go_enter Try.func111,Try.ntmps111
 go_wp2
 go_ret2
 exact⟨rfl,rfl⟩
set_option maxHeartbeats 400000 in
theorem cmpI (x y:Int) (w:World) :
  Calls Try.prog 92 #[.int .i64 x,.int .i64 y] w (fun e w'=>e = .returned (.int .i64 (cmpZ x y))∧w=w'):=by
 rcases Int.lt_trichotomy x y with h | h | h
 ·have H:=hd_ (cmpZ_lt h)
  go_enter Try.func92,Try.ntmps92
  go_wp2
  go_ret
  exact⟨by rw[H.out];rfl,rfl⟩
 ·subst h
  have H:=hd_ (cmpZ_eq (x:=x) rfl)
  go_enter Try.func92,Try.ntmps92
  go_wp2
  go_ret
  exact⟨by rw[H.out];rfl,rfl⟩
 ·have H:=hd_ (cmpZ_gt h)
  go_enter Try.func92,Try.ntmps92
  go_wp2
  go_ret
  exact⟨by rw[H.out];rfl,rfl⟩
set_option maxHeartbeats 400000 in
theorem cmpU (x y:Int) (w:World) :
  Calls Try.prog 104 #[.int .u32 x,.int .u32 y] w (fun e w'=>e = .returned (.int .i64 (cmpZ x y))∧w=w'):=by
 rcases Int.lt_trichotomy x y with h | h | h
 ·have H:=hd_ (cmpZ_lt h)
  go_enter Try.func104,Try.ntmps104
  go_wp2
  go_ret
  exact⟨by rw[H.out];rfl,rfl⟩
 ·subst h
  have H:=hd_ (cmpZ_eq (x:=x) rfl)
  go_enter Try.func104,Try.ntmps104
  go_wp2
  go_ret
  exact⟨by rw[H.out];rfl,rfl⟩
 ·have H:=hd_ (cmpZ_gt h)
  go_enter Try.func104,Try.ntmps104
  go_wp2
  go_ret
  exact⟨by rw[H.out];rfl,rfl⟩
end Go.Proofs.Ytdjbfgfbpimakaa
end

section
namespace Go.Proofs.Ytdjbfgfbpimakaa.M
open Go.RowKit
section
variable {w:World} {N:Nat→Prop} {loc:Locs}
theorem RV.inv {v:Value} {d:D} (h:RV w N loc v (.p d)):V w N v d:=by cases h;assumption
theorem rv_agg {cs:Array Value} {l:List AV} (h1:cs.size=l.length) (h2:∀ d∈l,d.one=true) (h3:∀ i d,l[i]? = some d→RV w N loc (cs.getD i undef) d):RV w N loc (.agg cs) (.agg l):=.agg cs l h1 h2 h3
theorem pureL_spec:∀ {l:List AV} {ds:List D},pureL l=some ds→l.length=ds.length∧∀ (i:Nat) (d:D),ds[i]? = some d→∃ e:AV,l[i]? = some e∧e.pure=some d
 | [],ds,h=>by
  simp only[pureL,Option.some.injEq] at h
  subst h
  exact⟨rfl,fun i d h=>by simp at h⟩
 | v::l,ds,h=>by
  simp only[pureL] at h
  split at h
  ·rename_i d ds' h1 h2
   simp only[Option.some.injEq] at h
   subst h
   obtain⟨g1,g2⟩:=pureL_spec h2
   refine⟨by simp[g1],fun i d' hi => ?_⟩
   match i,hi with
   | 0,hi=>simp at hi;subst hi;exact⟨v,rfl,h1⟩
   | i+1,hi=>simpa using g2 i d' (by simpa using hi)
  ·cases h
theorem RV.pure:∀ {v:Value} {x:AV} {d:D},RV w N loc v x→x.pure=some d→V w N v d:=by
 intro v x d h
 induction h generalizing d with
 | p v e h=>intro hx;simp only[AV.pure,Option.some.injEq] at hx;subst hx;exact h
 | nils T sz=>intro hx;simp only[AV.pure,Option.some.injEq] at hx;subst hx;exact .empty _ _ _ _ (by omega)
 | agg cs l h1 h2 _ ih =>
  intro hx
  simp only[AV.pure,Option.map_eq_some_iff] at hx
  obtain⟨ds,hds,rfl⟩:=hx
  obtain⟨g1,g2⟩:=pureL_spec hds
  refine .agg cs ds (h1.trans g1) (fun e he => ?_) (fun i e hi => ?_)
  ·obtain⟨i,hi⟩:=List.getElem?_of_mem he
   obtain⟨x,hx,hp⟩:=g2 i e hi
   have:=h2 x (List.mem_of_getElem? hx)
   cases x<;>simp[AV.one] at this<;>simp[AV.pure] at hp
   ·subst hp;exact this
   ·subst hp;rfl
  ·obtain⟨x,hx,hp⟩:=g2 i e hi
   exact ih i x hx hp
 | _=>intro hx;simp[AV.pure] at hx
theorem rv_mk {cs:Array Value} {l:List AV} (h1:cs.size=l.length) (h2:∀ d∈l,d.one=true) (h3:∀ i d,l[i]? = some d→RV w N loc (cs.getD i undef) d):RV w N loc (.agg cs) (AV.mk l):=by
 unfold AV.mk
 split
 ·rename_i ds hds
  exact .p _ _ (RV.pure (rv_agg h1 h2 h3) (by simp[AV.pure,hds]))
 ·exact rv_agg h1 h2 h3
theorem rv_get {c:Array Value} {T:TypeId} {fr:Nat × Nat} {b o osz off sz:Nat} {v u:AV} {ag:Bool} {P:Program} {T':TypeId} (hb:w.heap[b]? = some (.cells c T fr)) (ho:o+osz≤c.size) (hl:v.cells.length=osz) (h1:∀ e∈v.cells,e.one=true)
  (hc:∀ j d,v.cells[j]? = some d→RV w N loc (c.getD (o+j) undef) d) (hg:v.get off sz osz ag=some u) (hT:TyOk P T' ag sz) (hs:ag=false→sz=1) :
  ∃ x,(Instr.loadAt T' (.pointer (some ⟨b,o+off,none⟩))).run P w = .ok x w∧RV w N loc x u:=by
 have hload:(Instr.loadAt T' (.pointer (some ⟨b,o+off,none⟩))).run P w=(loadVar T' ⟨b,o+off,none⟩).run P w:=by
  simp[Instr.loadAt,Instr.sureAddr]
 rw[hload]
 have hpart:v.part off sz ag=some u→∃ x,(loadVar T' ⟨b,o+off,none⟩).run P w = .ok x w∧RV w N loc x u:=by
  intro hp
  have hp':partA v.cells off sz ag=some u∨∃ d,v = .p d∧∃ e,d.part off sz ag=some e∧u = .p e:=by
   cases v with
   | p d =>
    simp only[AV.part,Option.map_eq_some_iff] at hp
    obtain⟨e,he,rfl⟩:=hp
    exact .inr ⟨d,rfl,e,he,rfl⟩
   | _=>exact .inl hp
  clear hp
  rcases hp' with hp | ⟨d,rfl,e,hp,rfl⟩
  ·unfold partA at hp
   cases ag with
   | true =>
    simp only[if_true] at hp
    split at hp
    ·rename_i hle
     simp only[Option.some.injEq] at hp
     subst hp
     refine⟨_,run_loadAgg hT hb (by omega),rv_agg (by simp;omega) (fun d hd=>h1 d (List.mem_of_mem_drop (List.mem_of_mem_take hd))) (fun i d hi => ?_)⟩
     have hlt:i<sz:=by have:=(List.getElem?_eq_some_iff.1 hi).1;simp at this;omega
     rw[rd_get _ _ _ _ hlt,Nat.add_assoc]
     refine hc (off+i) d ?_
     rw[List.getElem?_take_of_lt hlt,List.getElem?_drop] at hi
     exact hi
    ·cases hp
   | false =>
    simp only[Bool.false_eq_true,if_false] at hp
    have hlt:=(List.getElem?_eq_some_iff.1 hp).1
    exact⟨_,run_loadOne hT hb (by omega),hc off u hp⟩
  ·have hl':d.cells.length=osz:=by simpa[AV.cells] using hl
   have hV:∀ j e,d.cells[j]? = some e→e.one=true∧V w N (c.getD (o+j) undef) e:=by
    intro j e he
    have hm:(AV.p d).cells[j]? = some (.p e):=by simp[AV.cells,he]
    refine⟨h1 (.p e) (List.mem_of_getElem? hm),?_⟩
    exact (hc j (.p e) hm).inv
   unfold D.part partD at hp
   cases ag with
   | true =>
    simp only[if_true] at hp
    split at hp
    ·rename_i hle
     simp only[Option.some.injEq] at hp
     subst hp
     refine⟨_,run_loadAgg hT hb (by omega),.p _ _ (.agg _ _ (by simp;omega) (fun d' hd => ?_) (fun i d' hi => ?_))⟩
     ·obtain⟨i,hi⟩:=List.getElem?_of_mem (List.mem_of_mem_drop (List.mem_of_mem_take hd))
      exact (hV i d' hi).1
     ·have hlt:i<sz:=by have:=(List.getElem?_eq_some_iff.1 hi).1;simp at this;omega
      rw[rd_get _ _ _ _ hlt,Nat.add_assoc]
      rw[List.getElem?_take_of_lt hlt,List.getElem?_drop] at hi
      exact (hV (off+i) d' hi).2
    ·cases hp
   | false =>
    simp only[Bool.false_eq_true,if_false] at hp
    have hlt:=(List.getElem?_eq_some_iff.1 hp).1
    exact⟨_,run_loadOne hT hb (by omega),.p _ _ (hV off e hp).2⟩
 unfold AV.get at hg
 split at hg
 ·rename_i hcond
  obtain⟨rfl,rfl,hag⟩:=hcond
  simp only[Option.some.injEq] at hg
  subst hg
  cases ag with
  | true =>
   refine⟨_,run_loadAgg hT hb (by omega),?_⟩
   cases v with
   | p d =>
    cases d with
    | agg l =>
     have hl':l.length=sz:=by simpa[AV.cells,D.cells] using hl
     have hm:∀ (j:Nat) (e:D),l[j]? = some e→(AV.p (.agg l)).cells[j]? = some (AV.p e):=fun j e he=>by simp[AV.cells,D.cells,he]
     refine .p _ _ (.agg _ _ (by simp;omega) (fun d' hd => ?_) (fun i d' hi => ?_))
     ·obtain⟨i,hi⟩:=List.getElem?_of_mem hd
      exact h1 (.p d') (List.mem_of_getElem? (hm i d' hi))
     ·have hlt:i<sz:=by have:=(List.getElem?_eq_some_iff.1 hi).1;omega
      rw[rd_get _ _ _ _ hlt]
      exact (hc i _ (hm i d' hi)).inv
    | _=>simp[AV.isAgg,D.isAgg] at hag
   | agg l =>
    have hl':l.length=sz:=by simpa[AV.cells] using hl
    refine rv_agg (by simp;omega) (fun d' hd=>h1 d' hd) (fun i d' hi => ?_)
    have hlt:i<sz:=by have:=(List.getElem?_eq_some_iff.1 hi).1;omega
    rw[rd_get _ _ _ _ hlt]
    exact hc i d' hi
   | _=>simp[AV.isAgg] at hag
  | false =>
   have hs':=hs rfl
   subst hs'
   refine⟨_,run_loadOne hT hb (by omega),?_⟩
   rw[Nat.add_zero]
   have h0:v.cells[0]? = some v:=by
    cases v with
    | p d=>cases d<;>simp[AV.isAgg,D.isAgg] at hag<;>rfl
    | agg l=>simp[AV.isAgg] at hag
    | und=>simp[AV.isAgg] at hag
    | _=>rfl
   have:=hc 0 v h0
   rwa[Nat.add_zero] at this
 ·exact hpart hg
end
end Go.Proofs.Ytdjbfgfbpimakaa.M
end

section
namespace Go.Proofs.Ytdjbfgfbpimakaa.M
open Go.RowKit
def opd (P:Program) (T:Option TypeId):Operand→Opd
 | .tmp t => .t t
 | .const (.bool b) => .k (.p (.bool b))
 | .const (.int k n) => .k (.p (.int k n))
 | .const (.string s) => .k (.p (.str s.data.toList))
 | .const (.pointer none) => .k (.p .nilp)
 | .const (.slice none 0 0)=>match T.bind P.underlying with
  | some (.slice e) => .k (.nils e (P.cellsOf e))
  | _ => .k .und
 | .func f => .k (.p (.fn (.func f) [] []))
 | _ => .k .und
theorem opd_ok (P:Program) (T:Option TypeId) (x:Operand) {w:World} {N:Nat→Prop} {loc:Locs} {a:Act} {r:Nat→AV} (h:∀ t,RV w N loc (a.tmps.getD t undef) (r t)) :
  RV w N loc (a.eval x) ((opd P T x).ev r):=by
 unfold opd
 split
 ·exact h _
 ·exact .p _ _ (.bool _)
 ·exact .p _ _ (.int _ _)
 ·exact .p _ _ (.str _)
 ·exact .p _ _ .nilp
 ·split
  ·exact .nils _ _
  ·exact .und _
 ·exact .p _ _ (.fn _ _ _ [] [] rfl rfl (fun i d h=>by simp at h) (fun i d h=>by simp at h))
 ·exact .und _
def tyOf (P:Program) (T:TypeId):Option (Bool × Nat):=match P.underlying T,P.info? T with
 | some d,some i=>some (aggT d,i.size)
 | _,_=>none
theorem tyOf_ok {P:Program} {T:TypeId} {ag:Bool} {sz:Nat} (h:tyOf P T=some (ag,sz)):TyOk P T ag sz:=by
 unfold tyOf at h
 split at h
 ·rename_i d i h1 h2
  simp only[Option.some.injEq,Prod.mk.injEq] at h
  exact⟨d,i,h1,h.1,h2,h.2⟩
 ·cases h
def zeroD (P:Program):Nat→TypeId→Option (List D)
 | 0,_=>none
 | n+1,T=>match P.underlying T with
  | some .bool=>some [.bool false]
  | some (.int k)=>some [.int k 0]
  | some .string=>some [.str []]
  | some (.pointer _)=>some [.nilp]
  | some (.slice e)=>some [.list e (P.cellsOf e) []]
  | some (.struct fs)=>(fs.toList.mapM fun f=>zeroD P n f.type).map List.flatten
  | _=>none
def chkD:Value→D→Bool
 | .bool a,.bool b=>a == b
 | .int k a,.int k' b=>k == k'&&a == b
 | .string s,.str l=>s.data.toList == l
 | .pointer none,.nilp=>true
 | .slice none 0 0,.list _ _ []=>true
 | _,_=>false
def chkL:List Value→List D→Bool
 | [],[]=>true
 | v::vs,d::ds=>chkD v d&&chkL vs ds
 | _,_=>false
theorem chkD_ok {v:Value} {d:D} (h:chkD v d=true) (w:World) (N:Nat→Prop):V w N v d∧d.one=true:=by
 unfold chkD at h
 split at h
 ·have:=eq_of_beq h;subst this;exact⟨.bool _,rfl⟩
 ·simp only[Bool.and_eq_true,beq_iff_eq] at h;obtain⟨rfl,rfl⟩:=h;exact⟨.int _ _,rfl⟩
 ·simp only[beq_iff_eq] at h;subst h;exact⟨.str _,rfl⟩
 ·exact⟨.nilp,rfl⟩
 ·exact⟨.empty _ _ _ _ (by omega),rfl⟩
 ·cases h
theorem chkL_ok:∀ {vs:List Value} {ds:List D},chkL vs ds=true→vs.length=ds.length∧∀ i d,ds[i]? = some d→d.one=true∧∀ (w:World) (N:Nat→Prop),V w N (vs.getD i undef) d
 | [],[],_=>⟨rfl,fun i d h=>by simp at h⟩
 | v::vs,d::ds,h=>by
  simp only[chkL,Bool.and_eq_true] at h
  obtain⟨g1,g2⟩:=chkL_ok h.2
  refine⟨by simp[g1],fun i d' hi => ?_⟩
  match i,hi with
  | 0,hi=>simp at hi;subst hi;exact⟨(chkD_ok h.1 default (fun _=>True)).2,fun w N=>(chkD_ok h.1 w N).1⟩
  | i+1,hi=>simpa using g2 i d' (by simpa using hi)
 | [],_::_,h=>by simp[chkL] at h
 | _::_,[],h=>by simp[chkL] at h
def zeroOf (P:Program) (T:TypeId):Option (List D × Bool × Nat):=match P.info? T,tyOf P T,zeroD P 20 T with
 | some i,some (ag,sz),some l=>match i.zero with
  | some z=>if chkL z.cells.toList l&&l.length == sz&&(ag||sz == 1) then some (l,ag,sz) else none
  | none=>none
 | _,_,_=>none
def ZOk (P:Program) (T:TypeId) (l:List D) (ag:Bool) (sz:Nat):Prop:=∃ i z,P.info? T=some i∧i.zero=some z∧TyOk P T ag sz∧chkL z.cells.toList l=true∧l.length=sz∧(ag=false→sz=1)
theorem zeroOf_ok {P:Program} {T:TypeId} {l:List D} {ag:Bool} {sz:Nat} (h:zeroOf P T=some (l,ag,sz)):ZOk P T l ag sz:=by
 unfold zeroOf at h
 split at h
 ·rename_i i ag' sz' l' h1 h2 h3
  split at h
  ·rename_i z hz
   split at h
   ·rename_i hc
    simp only[Bool.and_eq_true,Bool.or_eq_true,beq_iff_eq] at hc
    simp only[Option.some.injEq,Prod.mk.injEq] at h
    obtain⟨rfl,rfl,rfl⟩:=h
    exact⟨i,z,h1,hz,tyOf_ok h2,hc.1.1,hc.1.2,fun e=>hc.2.resolve_left (by simp[e])⟩
   ·cases h
  ·cases h
 ·cases h
def zeroA (l:List D) (ag:Bool):AV:=if ag then .p (.agg l) else match l with
 | [.list T sz []] => .nils T sz
 | [d] => .p d
 | _ => .und
def avOk (v:AV) (sz:Nat):Bool:=v.cells.length == sz&&v.cells.all AV.one
def intStruct (P:Program) (T:TypeId):Bool:=match P.underlying T with
 | some (.struct fs) => !P.stoodInHeld T && !P.eqGuardType P.depth T && fs.toList.zipIdx.all fun (f, i) => f.offset == i && f.name != "_" && (match P.underlying f.type with | some (.int _) => true | _ => false)
 | _=>false
def aop (P:Program) (o:Oper):Option AOp:=
 match o.op with
 | .move x=>some (.mov (opd P (some o.type) x))
 | .assign x=>some (.mov (opd P (some o.type) x))
 | .nilCheck x=>some (.nilCheck (opd P none x))
 | .pick c a b=>some (.pick (opd P none c) (opd P (some o.type) a) (opd P (some o.type) b))
 | .alloc T=>match zeroOf P T with
  | some (l,ag,sz)=>if avOk (zeroA l ag) sz then some (.alloc T sz (zeroA l ag)) else none
  | none=>none
 | .box T x=>match tyOf P T with
  | some (_,sz)=>some (.box T sz (opd P (some T) x))
  | none=>none
 | .build T parts=>match zeroOf P T,P.underlying T with
  | some (l,true,_),some (.struct fs)=>match fs.toList.mapM (fun f=>(P.info? f.type).map fun i=>(f.offset,i.size)) with
   | some places=>match parts.toList.mapM (fun p:Nat × Operand=>match places[p.1]?,fs[p.1]? with
     | some (off,sz),some f=>some (off,sz,opd P (some f.type) p.2)
     | _,_=>none) with
    | some ps=>some (.build (l.map .p) ps)
    | none=>none
   | none=>none
  | _,_=>none
 | .buildSlice T n parts=>match P.underlying T with
  | some (.slice e)=>match zeroOf P e with
   | some (l,ag,sz)=>if n*sz≤16777216∧n≤9223372036854775807 then some (.buildSlice e sz (if ag then .agg l else l.headD default) n (parts.toList.map fun (i,x)=>(i,opd P (some e) x))) else none
   | none=>none
  | _=>none
 | .load T x=>match tyOf P T with
  | some (ag,sz)=>if ag||sz == 1 then some (.load ag sz (opd P none x)) else none
  | none=>none
 | .store T x v=>match tyOf P T with
  | some (_,sz)=>some (.store sz (opd P none x) (opd P (some T) v))
  | none=>none
 | .binOp op T x y _=>match P.underlying T with
  | some (.int _)=>some (.bin false op (opd P none x) (opd P none y))
  | some .string=>some (.bin false op (opd P none x) (opd P none y))
  | some .bool=>some (.bin true op (opd P none x) (opd P none y))
  | some (.struct fs)=>if intStruct P T then match op with
    | .eql=>some (.eqs fs.size false (opd P none x) (opd P none y))
    | .neq=>some (.eqs fs.size true (opd P none x) (opd P none y))
    | _=>none else none
  | _=>none
 | .unOp op _ x=>some (.un op (opd P none x))
 | .convert S T x=>match P.underlying S,P.underlying T with
  | some _,some (.int k)=>some (.conv k (opd P none x))
  | _,_=>none
 | .makeSlice T l c=>match P.underlying T with
  | some (.slice e)=>match zeroOf P e,P.info? e with
   | some (z,ag,sz),some i=>some (.makeSlice e sz i.bytes (if ag then .agg z else z.headD default) (opd P none l) (opd P none c))
   | _,_=>none
  | _=>none
 | .slice T x lo hi mx=>match P.underlying T with
  | some .string=>if mx.isSome then none else some (.sliceS (opd P none x) (lo.map (opd P none)) (hi.map (opd P none)))
  | some (.slice e)=>match tyOf P e with
   | some (_,sz)=>if mx.isSome&&hi.isNone then none else some (.slice sz (opd P none x) (lo.map (opd P none)) (hi.map (opd P none)) (mx.map (opd P none)))
   | none=>none
  | _=>none
 | .fieldAddr S x f=>match P.underlying S with
  | some (.struct fs)=>match fs[f]? with
   | some g=>match tyOf P g.type with
    | some (ag,sz)=>if sz == 0 then none else some (.fieldAddr g.offset sz ag (opd P none x))
    | none=>none
   | none=>none
  | _=>none
 | .field S x f=>match P.underlying S with
  | some (.struct fs)=>match fs[f]? with
   | some g=>match tyOf P g.type with
    | some (ag,sz)=>some (.field g.offset sz ag (opd P none x))
    | none=>none
   | none=>none
  | _=>none
 | .indexAddr T x i=>match P.underlying T with
  | some (.slice e)=>match tyOf P e with
   | some (_,sz)=>some (.indexAddr sz (opd P none x) (opd P none i))
   | none=>none
  | _=>none
 | .index T x i=>match P.underlying T with
  | some .string=>some (.index (opd P none x) (opd P none i))
  | _=>none
 | .extract x i=>some (.extract (opd P none x) i)
 | .call c=>match c.callee with
  | .value (.func f)=>some (.call f (c.args.toList.zipIdx.map fun (x,i)=>opd P c.argTypes[i]? x))
  | .builtin .len=>match c.args.toList,c.argTypes.toList with
   | [x],[T]=>match P.underlying T with
    | some .string=>some (.lenS (opd P none x))
    | some (.slice _)=>some (.len (opd P none x))
    | _=>none
   | _,_=>none
  | .builtin .max=>match c.args.toList with
   | [x,y]=>some (.mm true (opd P none x) (opd P none y))
   | _=>none
  | .builtin .min=>match c.args.toList with
   | [x,y]=>some (.mm false (opd P none x) (opd P none y))
   | _=>none
  | .builtin .append=>match c.args.toList,c.argTypes.toList with
   | [x,y],[T,U]=>match P.underlying T,P.underlying U with
    | some (.slice e),some (.slice e')=>match zeroOf P e,P.info? e with
     | some (_,_,sz),some i=>if e == e'&&T == U then some (.append e sz i.bytes (opd P (some T) x) (opd P (some U) y)) else none
     | _,_=>none
    | _,_=>none
   | _,_=>none
  | _=>none
 | _=>none
end Go.Proofs.Ytdjbfgfbpimakaa.M
end

section
namespace Go.Proofs.Ytdjbfgfbpimakaa.M
open Go.RowKit
def Good (P:Program) (w0:World) (base:Nat→Prop) (nt:Nat) (o:Oper) (a:Act) (w:World) (t:St) (d:AV):Prop:=
 ∃ v w' loc',((execOp a.eval o).run P w = .ok (.value v) w'∨((execOp a.eval o).run P w = .ok .skip w'∧v=undef))∧Rel w0 base nt loc' t a w'∧RV w' (NB base t.m loc' w') loc' v d
section
variable {P:Program} {w0:World} {base:Nat→Prop} {nt:Nat} {loc:Locs} {s t:St} {a:Act} {w:World} {o:Oper} {id:Nat} {d:AV}
theorem Rel.opd (h:Rel w0 base nt loc s a w) (T:Option TypeId) (x:Operand):RV w (NB base s.m loc w) loc (a.eval x) ((opd P T x).ev s.r):=opd_ok P T x h.tmps
theorem good_same (h:Rel w0 base nt loc s a w) {v:Value} (hr:(execOp a.eval o).run P w = .ok (.value v) w) (hv:RV w (NB base s.m loc w) loc v d):Good P w0 base nt o a w s d:=
 ⟨v,w,loc,.inl hr,h,hv⟩
theorem run_v {s:Sem Value} {v:Value} {w':World} (h:s.run P w = .ok v w'):(do pure (Next.value (← s)):Sem Next).run P w = .ok (.value v) w':=by
 simp[h]
theorem sim_mov {x:Operand} (h:Rel w0 base nt loc s a w) (ho:o.op = .move x∨o.op = .assign x) {T:Option TypeId} (he:ev (.mov (opd P T x)) id s=some (true,d,t)):Good P w0 base nt o a w t d:=by
 simp only[ev,Option.some.injEq,Prod.mk.injEq,true_and] at he
 obtain⟨rfl,rfl⟩:=he
 refine good_same h (v:=a.eval x) ?_ (h.opd T x)
 rcases ho with ho | ho<;>simp[execOp,ho]
theorem sim_nilCheck {x:Operand} (h:Rel w0 base nt loc s a w) (ho:o.op = .nilCheck x) {T:Option TypeId} (he:ev (.nilCheck (opd P T x)) id s=some (true,d,t)):Good P w0 base nt o a w t d:=by
 have hx:=h.opd (P:=P) T x
 simp only[ev] at he
 split at he
 ·rename_i i j k hk
  simp only[Option.some.injEq,Prod.mk.injEq,true_and] at he
  obtain⟨rfl,rfl⟩:=he
  rw[hk] at hx
  refine good_same h (v:=a.eval x) ?_ hx
  generalize hv:a.eval x=v at hx
  cases hx
  simp[execOp,ho,hv]
 ·rename_i e hk
  simp only[Option.some.injEq,Prod.mk.injEq,true_and] at he
  obtain⟨rfl,rfl⟩:=he
  rw[hk] at hx
  refine good_same h (v:=a.eval x) ?_ hx
  have hx:=hx.inv
  generalize hv:a.eval x=v at hx
  cases hx
  simp[execOp,ho,hv]
 ·cases he
theorem sim_pick {c x y:Operand} (h:Rel w0 base nt loc s a w) (ho:o.op = .pick c x y) {T U W:Option TypeId} (he:ev (.pick (opd P T c) (opd P U x) (opd P W y)) id s=some (true,d,t)):Good P w0 base nt o a w t d:=by
 have hc:=h.opd (P:=P) T c
 simp only[ev] at he
 split at he
 ·rename_i hk
  simp only[Option.some.injEq,Prod.mk.injEq,true_and] at he
  obtain⟨rfl,rfl⟩:=he
  rw[hk] at hc
  have hc:=hc.inv
  refine good_same h (v:=a.eval x) ?_ (h.opd U x)
  generalize hcv:a.eval c=v at hc
  cases hc
  simp[execOp,ho,hcv,asBool]
 ·rename_i hk
  simp only[Option.some.injEq,Prod.mk.injEq,true_and] at he
  obtain⟨rfl,rfl⟩:=he
  rw[hk] at hc
  have hc:=hc.inv
  refine good_same h (v:=a.eval y) ?_ (h.opd W y)
  generalize hcv:a.eval c=v at hc
  cases hc
  simp[execOp,ho,hcv,asBool]
 ·cases he
theorem sim_load {T:TypeId} {x:Operand} {ag:Bool} {sz:Nat} (h:Rel w0 base nt loc s a w) (ho:o.op = .load T x) (hT:TyOk P T ag sz) (hs:ag=false→sz=1) {U:Option TypeId}
  (he:ev (.load ag sz (opd P U x)) id s=some (true,d,t)):Good P w0 base nt o a w t d:=by
 have hx:=h.opd (P:=P) U x
 simp only[ev] at he
 split at he
 ·rename_i i j off hk
  rw[hk] at hx
  generalize hxv:a.eval x=v at hx
  cases hx with
  | ptr L _ _ _ hL hn =>
  have goal:∀ osz (u z:AV) (T':TypeId) (k:Cont) (frz:Bool),s.m i=some ⟨T',osz,k,frz⟩→u.get off sz osz ag=some z →
    (∀ c fr,w.heap[L.b]? = some (.cells c T' fr)→ContOk w (NB base s.m loc w) loc c L.o osz k→L.o+j*osz+osz≤c.size∧u.cells.length=osz∧(∀ e∈u.cells,e.one=true)∧(∀ p e,u.cells[p]? = some e→RV w (NB base s.m loc w) loc (c.getD (L.o+j*osz+p) undef) e)) →
    Good P w0 base nt o a w s z:=by
   intro osz u z T' k frz hm hg hcc
   obtain⟨L',hL',hok⟩:=h.objs i _ hm
   rw[hL] at hL'
   cases hL'
   obtain⟨c,fr,h1,h2,h3,-⟩:=hok.at_ hn
   obtain⟨g1,g2,g3,g4⟩:=hcc c fr h1 h3
   obtain⟨v,hv1,hv2⟩:=rv_get (P:=P) (T':=T) h1 g1 g2 g3 g4 hg hT hs
   refine good_same h (v:=v) ?_ hv2
   have hsz:L.sz=osz:=hok.sz
   rw[show L.o+(j*L.sz+off)=L.o+j*osz+off by rw[hsz];omega] at hxv
   simp[execOp,ho,hxv,hv1]
  split at he
  ·rename_i T' osz l frz hm
   split at he
   ·rename_i z hz
    simp only[Option.some.injEq,Prod.mk.injEq,decide_eq_true_eq] at he
    obtain⟨hj,rfl,rfl⟩:=he
    refine goal osz _ z T' _ frz hm hz ?_
    intro c fr _ hcont
    obtain⟨k1,k2,k3⟩:=hcont
    have he':l[j]? = some (l.getD j default):=by simp[hj]
    have hmul:j*osz+osz≤l.length*osz:=by
     have:=Nat.mul_le_mul_right osz (show j+1≤l.length by omega)
     rw[Nat.add_mul] at this;omega
    refine⟨by omega,by simpa[AV.cells] using k2 _ (List.mem_of_getElem? he'),fun e hem => ?_,fun p e hp => ?_⟩
    ·simp only[AV.cells,List.mem_map] at hem
     obtain⟨q,hq,rfl⟩:=hem
     obtain⟨n,hn'⟩:=List.getElem?_of_mem hq
     exact (k3 j _ n q he' hn').1
    ·simp only[AV.cells,List.getElem?_map,Option.map_eq_some_iff] at hp
     obtain⟨q,hq,rfl⟩:=hp
     have:=(k3 j _ p q he' hq).2
     rw[←Nat.add_assoc] at this
     exact .p _ _ this
   ·cases he
  ·rename_i T' osz u frz hm
   split at he
   ·rename_i hj
    subst hj
    split at he
    ·rename_i z hz
     simp only[Option.some.injEq,Prod.mk.injEq,true_and] at he
     obtain⟨rfl,rfl⟩:=he
     refine goal osz u z T' _ frz hm hz ?_
     intro c fr _ hcont
     obtain⟨k1,k2,k3,k4⟩:=hcont
     simp only[Nat.zero_mul,Nat.add_zero]
     exact⟨k1,k2,k3,k4⟩
    ·cases he
   ·cases he
  ·cases he
 ·rename_i e hk
  rw[hk] at hx
  have hx:=hx.inv
  split at he
  ·rename_i hag
   simp only[Option.some.injEq,Prod.mk.injEq,decide_eq_true_eq] at he
   obtain⟨⟨hlen,hpos⟩,rfl,rfl⟩:=he
   generalize hxv:a.eval x=v at hx
   cases hx with
   | ref b p T' _ c fr g1 g2 g0 g3 g4 =>
   have hl:∀ i,i<e.cells.length→p+i<c.size:=fun i hi=>g3 i e.cells[i] (by simp[hi])
   cases ag with
   | true =>
    cases e with
    | agg l =>
     have hlen':l.length=sz:=by simpa[D.cells] using hlen
     have hfit:p+sz≤c.size:=by
      have:=hl (sz-1) (by rw[hlen];omega)
      omega
     refine good_same h (v:=.agg (rd c p sz)) ?_ (.p _ _ (.agg _ _ (by simp[hlen']) (fun q hq=>g0 q hq) (fun i q hi => ?_)))
     ·have:=run_loadAgg (P:=P) hT g1 hfit
      simp[execOp,ho,hxv,Instr.loadAt,Instr.sureAddr,this]
     ·have hlt:i<sz:=by have:=(List.getElem?_eq_some_iff.1 hi).1;omega
      rw[rd_get _ _ _ _ hlt]
      exact g4 i q hi
    | _=>simp[D.isAgg] at hag
   | false =>
    have:=hs rfl
    subst this
    have h0:e.cells[0]? = some e:=by cases e<;>simp[D.isAgg] at hag<;>rfl
    refine good_same h (v:=c.getD p undef) ?_ (.p _ _ ?_)
    ·have:=run_loadOne (P:=P) hT g1 (by have:=hl 0 (by omega);rwa[Nat.add_zero] at this)
     simp[execOp,ho,hxv,Instr.loadAt,Instr.sureAddr,this]
    ·have:=g4 0 e h0
     rwa[Nat.add_zero] at this
  ·cases he
 ·cases he
end
end Go.Proofs.Ytdjbfgfbpimakaa.M
end

section
namespace Go.Proofs.Ytdjbfgfbpimakaa.M
open Go.RowKit
section
variable {P:Program} {w0:World} {base:Nat→Prop} {nt:Nat} {loc:Locs} {s t:St} {a:Act} {w:World} {o:Oper} {id:Nat} {d:AV}
theorem partD_V {N:Nat→Prop} {cs:Array Value} {l:List D} {off sz:Nat} {ag:Bool} {e:D} (h1:cs.size=l.length) (h2:∀ q∈l,q.one=true) (h3:∀ i q,l[i]? = some q→V w N (cs.getD i undef) q)
  {T:TypeId} (hT:TyOk P T ag sz) (hp:partD l off sz ag=some e):∃ v,(part T cs off).run P w = .ok v w∧V w N v e:=by
 unfold partD at hp
 unfold part
 simp only[Sem.run_bind,run_isAgg hT,Result.andThen]
 cases ag with
 | true =>
  simp only[if_true] at hp ⊢
  split at hp
  ·rename_i hle
   simp only[Option.some.injEq] at hp
   subst hp
   simp only[Sem.run_bind,run_sizeOf hT,Result.andThen]
   refine⟨_,rfl,.agg _ _ (by simp;omega) (fun q hq=>h2 q (List.mem_of_mem_drop (List.mem_of_mem_take hq))) (fun i q hi => ?_)⟩
   have hlt:i<sz:=by have:=(List.getElem?_eq_some_iff.1 hi).1;simp at this;omega
   rw[List.getElem?_take_of_lt hlt,List.getElem?_drop] at hi
   have:=h3 _ q hi
   simp only[Array.getD_eq_getD_getElem?] at this ⊢
   rw[Array.getElem?_extract,if_pos (by omega)]
   exact this
  ·cases hp
 | false =>
  simp only[Bool.false_eq_true,if_false] at hp ⊢
  have hlt:=(List.getElem?_eq_some_iff.1 hp).1
  have hc:cs[off]? = some (cs.getD off undef):=by simp[h1,hlt]
  rw[hc]
  exact⟨_,rfl,h3 off e hp⟩
theorem partA_RV {N:Nat→Prop} {cs:Array Value} {l:List AV} {off sz:Nat} {ag:Bool} {e:AV} (h1:cs.size=l.length) (h2:∀ q∈l,q.one=true) (h3:∀ i q,l[i]? = some q→RV w N loc (cs.getD i undef) q)
  {T:TypeId} (hT:TyOk P T ag sz) (hp:partA l off sz ag=some e):∃ v,(part T cs off).run P w = .ok v w∧RV w N loc v e:=by
 unfold partA at hp
 unfold part
 simp only[Sem.run_bind,run_isAgg hT,Result.andThen]
 cases ag with
 | true =>
  simp only[if_true] at hp ⊢
  split at hp
  ·rename_i hle
   simp only[Option.some.injEq] at hp
   subst hp
   simp only[Sem.run_bind,run_sizeOf hT,Result.andThen]
   refine⟨_,rfl,.agg _ _ (by simp;omega) (fun q hq=>h2 q (List.mem_of_mem_drop (List.mem_of_mem_take hq))) (fun i q hi => ?_)⟩
   have hlt:i<sz:=by have:=(List.getElem?_eq_some_iff.1 hi).1;simp at this;omega
   rw[List.getElem?_take_of_lt hlt,List.getElem?_drop] at hi
   have:=h3 _ q hi
   simp only[Array.getD_eq_getD_getElem?] at this ⊢
   rw[Array.getElem?_extract,if_pos (by omega)]
   exact this
  ·cases hp
 | false =>
  simp only[Bool.false_eq_true,if_false] at hp ⊢
  have hlt:=(List.getElem?_eq_some_iff.1 hp).1
  have hc:cs[off]? = some (cs.getD off undef):=by simp[h1,hlt]
  rw[hc]
  exact⟨_,rfl,h3 off e hp⟩
theorem sim_field {S:TypeId} {x:Operand} {f:Nat} {fs:Array Field} {g:Field} {ag:Bool} {sz:Nat} (h:Rel w0 base nt loc s a w) (ho:o.op = .field S x f) (hS:P.underlying S=some (.struct fs)) (hf:fs[f]? = some g) (hT:TyOk P g.type ag sz) {U:Option TypeId}
  (he:ev (.field g.offset sz ag (opd P U x)) id s=some (true,d,t)):Good P w0 base nt o a w t d:=by
 have hx:=h.opd (P:=P) U x
 simp only[ev] at he
 split at he
 case isFalse=>cases he
 rename_i hagg
 split at he
 ·rename_i z hz
  simp only[Option.some.injEq,Prod.mk.injEq,true_and] at he
  obtain⟨rfl,rfl⟩:=he
  generalize hxv:a.eval x=v at hx
  have key:∀ cs,v = .agg cs→(∃ u,(part g.type cs g.offset).run P w = .ok u w∧RV w (NB base s.m loc w) loc u z)→Good P w0 base nt o a w s z:=by
   rintro cs rfl ⟨u,hu1,hu2⟩
   refine good_same h (v:=u) ?_ hu2
   simp[execOp,ho,hxv,Instr.field,run_underlying hS,hf,asAgg,hu1]
  generalize (opd P U x).ev s.r=X at hx hz hagg
  cases hx with
  | p _ e hV =>
   simp only[AV.part,Option.map_eq_some_iff] at hz
   obtain⟨q,hq,rfl⟩:=hz
   cases hV with
   | agg cs l h1 h2 h3 =>
    refine key cs rfl ?_
    obtain⟨u,hu1,hu2⟩:=partD_V (P:=P) h1 h2 h3 hT hq
    exact⟨u,hu1,.p _ _ hu2⟩
   | _=>simp[AV.isAgg,D.isAgg] at hagg
  | agg cs l h1 h2 h3=>exact key cs rfl (partA_RV h1 h2 h3 hT hz)
  | _=>simp[AV.isAgg] at hagg
 ·cases he
theorem sim_fieldAddr {S:TypeId} {x:Operand} {f:Nat} {fs:Array Field} {g:Field} {ag:Bool} {sz:Nat} (h:Rel w0 base nt loc s a w) (ho:o.op = .fieldAddr S x f) (hS:P.underlying S=some (.struct fs)) (hf:fs[f]? = some g) (hT:TyOk P g.type ag sz) (hz:sz≠0) {U:Option TypeId}
  (he:ev (.fieldAddr g.offset sz ag (opd P U x)) id s=some (true,d,t)):Good P w0 base nt o a w t d:=by
 have hx:=h.opd (P:=P) U x
 have run:∀ b p,a.eval x = .pointer (some ⟨b,p,none⟩)→(execOp a.eval o).run P w = .ok (.value (.pointer (some ⟨b,p+g.offset,none⟩))) w:=by
  intro b p hv
  simp[execOp,ho,hv,Instr.fieldAt,run_underlying hS,hf,Instr.sureAddr,fieldPlace,run_sizeOf hT,hz,add_mid]
 simp only[ev] at he
 split at he
 ·rename_i i j p hk
  simp only[Option.some.injEq,Prod.mk.injEq,true_and] at he
  obtain⟨rfl,rfl⟩:=he
  rw[hk] at hx
  generalize hxv:a.eval x=v at hx
  cases hx with
  | ptr L _ _ _ hL hn =>
  refine good_same h (run _ _ hxv) ?_
  rw[show L.o+(j*L.sz+p)+g.offset=L.o+(j*L.sz+(p+g.offset)) by omega]
  exact .ptr L _ _ _ hL hn
 ·rename_i e hk
  split at he
  ·rename_i q hq
   simp only[Option.some.injEq,Prod.mk.injEq,true_and] at he
   obtain⟨rfl,rfl⟩:=he
   rw[hk] at hx
   have hx:=hx.inv
   generalize hxv:a.eval x=v at hx
   cases hx with
   | ref b p T' _ c fr g1 g2 g0 g3 g4 =>
   refine good_same h (run _ _ hxv) (.p _ _ ?_)
   unfold D.part partD at hq
   cases ag with
   | true =>
    simp only[if_true] at hq
    split at hq
    ·rename_i hle
     simp only[Option.some.injEq] at hq
     subst hq
     have idx:∀ j e',((e.cells.drop g.offset).take sz)[j]? = some e'→e.cells[g.offset+j]? = some e':=by
      intro j e' hj
      have hlt:j<sz:=by have:=(List.getElem?_eq_some_iff.1 hj).1;simp at this;omega
      rw[List.getElem?_take_of_lt hlt,List.getElem?_drop] at hj
      exact hj
     refine .ref b _ T' _ c fr g1 g2 (fun q' hq'=>g0 q' (List.mem_of_mem_drop (List.mem_of_mem_take hq'))) (fun j e' hj => ?_) (fun j e' hj => ?_)
     ·have:=g3 _ e' (idx j e' hj);omega
     ·have:=g4 _ e' (idx j e' hj)
      rwa[←Nat.add_assoc] at this
    ·cases hq
   | false =>
    simp only[Bool.false_eq_true,if_false] at hq
    have h1:=g0 q (List.mem_of_getElem? hq)
    have hc:q.cells=[q]:=by cases q<;>first | rfl | simp[D.one] at h1
    refine .ref b _ T' _ c fr g1 g2 (fun q' hq'=>by rw[hc] at hq';simp at hq';subst hq';exact h1) (fun j e' hj => ?_) (fun j e' hj => ?_)
    ·rw[hc] at hj
     match j,hj with
     | 0,hj=>simp at hj;subst hj;have:=g3 _ q hq;omega
     | j+1,hj=>simp at hj
    ·rw[hc] at hj
     match j,hj with
     | 0,hj=>simp at hj;subst hj;exact g4 _ q hq
     | j+1,hj=>simp at hj
  ·cases he
 ·cases he
theorem asI_eval {x:Operand} {U:Option TypeId} {n:Int} (h:Rel w0 base nt loc s a w) (hi:asI ((opd P U x).ev s.r)=some n):∃ k,a.eval x = .int k n:=by
 have hx:=h.opd (P:=P) U x
 generalize (opd P U x).ev s.r=X at hx hi
 generalize a.eval x=v at hx ⊢
 cases hx with
 | p v e hV=>cases hV<;>simp[asI] at hi;subst hi;exact⟨_,rfl⟩
 | _=>simp[asI] at hi
theorem sim_indexAddr {T E:TypeId} {x i:Operand} {ag:Bool} {sz:Nat} (h:Rel w0 base nt loc s a w) (ho:o.op = .indexAddr T x i) (hS:P.underlying T=some (.slice E)) (hT:TyOk P E ag sz) {U W:Option TypeId}
  (he:ev (.indexAddr sz (opd P U x) (opd P W i)) id s=some (true,d,t)):Good P w0 base nt o a w t d:=by
 have hx:=h.opd (P:=P) U x
 simp only[ev] at he
 have run:∀ b p n (m:Nat) len cap,a.eval x = .slice (some ⟨b,p,none⟩) len cap→(∃ k,a.eval i = .int k n)→n=(m:Int)→m<len→(execOp a.eval o).run P w = .ok (.value (.pointer (some ⟨b,p+m*sz,none⟩))) w:=by
  rintro b p n m len cap hv ⟨k,hi⟩ rfl hlt
  simp[execOp,ho,hv,hi,Instr.indexAt,asIntOf,run_underlying hS,hlt,run_sizeOf hT,add_mid]
 split at he
 ·rename_i T' sz' l n hk hn
  split at he
  ·rename_i hsz
   subst hsz
   simp only[Option.some.injEq,Prod.mk.injEq,decide_eq_true_eq] at he
   obtain⟨⟨hn0,hn1⟩,rfl,rfl⟩:=he
   rw[hk] at hx
   have hx:=hx.inv
   have hi:=asI_eval h hn
   generalize hxv:a.eval x=v at hx
   obtain⟨m,rfl⟩:=Int.eq_ofNat_of_zero_le hn0
   cases hx with
   | empty=>simp at hn1;omega
   | list b p cap _ _ _ c fr g1 g2 g3 g4 g5 g6 g7 =>
   obtain⟨T',g1,-⟩:=g1
   have hml:m<l.length:=by omega
   refine good_same h (run b p _ m _ _ hxv hi rfl hml) (.p _ _ ?_)
   have hlm:l[m]? = some (l.getD m default):=by simp[hml]
   rw[Int.toNat_natCast]
   refine .ref b _ T' _ c fr g1 g2 (g5 _ (List.mem_of_getElem? hlm)).2 (fun j e' hj => ?_) (fun j e' hj => ?_)
   ·have:=g6 m _ j e' hlm hj;omega
   ·have:=g7 m _ j e' hlm hj
    rwa[←Nat.add_assoc] at this
  ·cases he
 ·rename_i j off len n hk hn
  split at he
  ·rename_i ob hob
   split at he
   ·rename_i hsz
    subst hsz
    simp only[Option.some.injEq,Prod.mk.injEq,decide_eq_true_eq] at he
    obtain⟨⟨hn0,hn1⟩,rfl,rfl⟩:=he
    rw[hk] at hx
    have hi:=asI_eval h hn
    generalize hxv:a.eval x=v at hx
    obtain⟨m,rfl⟩:=Int.eq_ofNat_of_zero_le hn0
    cases hx with
    | sliceEmp=>simp at hn1;omega
    | slice L _ _ _ cap hL hnil h3 h4 h5 =>
    obtain⟨L',hL',hok⟩:=h.objs j ob hob
    rw[hL] at hL'
    cases hL'
    refine good_same h (run _ _ _ m _ _ hxv hi rfl (by omega)) ?_
    rw[Int.toNat_natCast,show L.o+off*L.sz+m*ob.sz=L.o+((off+m)*L.sz+0) by rw[←hok.sz,Nat.add_mul];omega]
    exact .ptr L _ _ _ hL hnil
   ·cases he
  ·cases he
 ·cases he
theorem sim_index {T:TypeId} {x i:Operand} (h:Rel w0 base nt loc s a w) (ho:o.op = .index T x i) (hS:P.underlying T=some .string) {U W:Option TypeId}
  (he:ev (.index (opd P U x) (opd P W i)) id s=some (true,d,t)):Good P w0 base nt o a w t d:=by
 have hx:=h.opd (P:=P) U x
 simp only[ev] at he
 split at he
 ·rename_i l n hk hn
  simp only[Option.some.injEq,Prod.mk.injEq,decide_eq_true_eq] at he
  obtain⟨⟨hn0,hn1⟩,rfl,rfl⟩:=he
  rw[hk] at hx
  have hx:=hx.inv
  obtain⟨k,hi⟩:=asI_eval h hn
  obtain⟨m,rfl⟩:=Int.eq_ofNat_of_zero_le hn0
  generalize hxv:a.eval x=v at hx
  cases hx with
  | str q =>
  have hlt:m<q.size:=by have:q.data.size=q.size:=rfl;simp at hn1;omega
  refine good_same h (v:=.int .u8 (q[m].toNat:Int)) ?_ ?_
  ·have:q[m]? = some q[m]:=by simp[hlt]
   simp[execOp,ho,hxv,hi,Instr.index,asIntOf,run_underlying hS,this]
  ·rw[Int.toNat_natCast]
   have hg:q.data.toList.getD m 0=q[m]:=by
    have:q.data.size=q.size:=rfl
    simp[this,hlt]
    rfl
   rw[hg]
   exact .p _ _ (.int _ _)
 ·cases he
theorem sim_extract {x:Operand} {i:Nat} (h:Rel w0 base nt loc s a w) (ho:o.op = .extract x i) {U:Option TypeId}
  (he:ev (.extract (opd P U x) i) id s=some (true,d,t)):Good P w0 base nt o a w t d:=by
 have hx:=h.opd (P:=P) U x
 simp only[ev] at he
 split at he
 ·rename_i l hk
  simp only[Option.map_eq_some_iff,Prod.mk.injEq,true_and] at he
  obtain⟨e,hl,rfl,rfl⟩:=he
  rw[hk] at hx
  have hx:=hx.inv
  generalize hxv:a.eval x=v at hx
  cases hx with
  | tup cs _ h1 h2 =>
  refine good_same h (v:=cs.getD i undef) ?_ (.p _ _ (h2 i e hl))
  have hlt:=(List.getElem?_eq_some_iff.1 hl).1
  have:cs[i]? = some (cs.getD i undef):=by simp[h1,hlt]
  simp only[execOp,ho,hxv,Instr.extract,this]
  simp
 ·rename_i l hk
  simp only[Option.map_eq_some_iff,Prod.mk.injEq,true_and] at he
  obtain⟨e,hl,rfl,rfl⟩:=he
  rw[hk] at hx
  generalize hxv:a.eval x=v at hx
  cases hx with
  | tup cs _ h1 h2 =>
  refine good_same h (v:=cs.getD i undef) ?_ (h2 i e hl)
  have hlt:=(List.getElem?_eq_some_iff.1 hl).1
  have:cs[i]? = some (cs.getD i undef):=by simp[h1,hlt]
  simp only[execOp,ho,hxv,Instr.extract,this]
  simp
 ·cases he
end
end Go.Proofs.Ytdjbfgfbpimakaa.M
end

section
namespace Go.Proofs.Ytdjbfgfbpimakaa.M
open Go.RowKit
theorem wrap_in {k:IntKind} {n:Int} (h:inK k n=true):k.wrap n=n:=by
 cases k<;>simp only[inK,decide_eq_true_eq] at h<;>simp only[IntKind.wrap,IntKind.signed,IntKind.bits,Bool.true_and,Bool.false_and,ge_iff_le,decide_eq_true_eq,Bool.false_eq_true,if_false]<;>first | (split<;>omega) | omega
theorem bytes_eq (x y:ByteArray):(x.toList == y.toList)=decide (x.data.toList=y.data.toList):=by
 rw[ByteArray.toList_eq,ByteArray.toList_eq,Bool.eq_iff_iff]
 simp only[beq_iff_eq,decide_eq_true_eq]
section
variable {P:Program} {w0:World} {base:Nat→Prop} {nt:Nat} {loc:Locs} {s t:St} {a:Act} {w:World} {o:Oper} {id:Nat} {d:AV}
theorem run_equal_bool {T:TypeId} (hT:P.underlying T=some .bool) (p q:Bool):(Op.equal T (.bool p) (.bool q)).run P w = .ok (p == q) w:=by
 have hd:Op.maxDepth=9999+1:=rfl
 unfold Op.equal
 rw[hd,Op.equalIn]
 simp only[Sem.run_bind,run_underlying hT,Result.andThen]
 rfl
theorem run_bin_eql {T:TypeId} (hT:P.underlying T=some .bool) (p q:Bool):(binOp .eql T (.bool p) (.bool q)).run P w = .ok (.bool (p == q)) w:=by
 unfold binOp
 simp[run_equal_bool hT]
theorem run_bin_neq {T:TypeId} (hT:P.underlying T=some .bool) (p q:Bool):(binOp .neq T (.bool p) (.bool q)).run P w = .ok (.bool (!(p == q))) w:=by
 unfold binOp
 simp[run_equal_bool hT]
theorem sim_un {T:TypeId} {op:UnOp} {x:Operand} (h:Rel w0 base nt loc s a w) (ho:o.op = .unOp op T x) {U:Option TypeId}
  (he:ev (.un op (opd P U x)) id s=some (true,d,t)):Good P w0 base nt o a w t d:=by
 have hx:=h.opd (P:=P) U x
 simp only[ev] at he
 split at he
 ·rename_i e hk
  split at he
  ·rename_i c q hq
   simp only[Option.some.injEq,Prod.mk.injEq] at he
   obtain⟨rfl,rfl,rfl⟩:=he
   rw[hk] at hx
   have hx:=hx.inv
   generalize hxv:a.eval x=v at hx
   cases hx with
   | int k n =>
    cases op with
    | neg =>
     simp only[unD,Option.some.injEq,Prod.mk.injEq] at hq
     obtain⟨h1,rfl⟩:=hq
     refine good_same h (v:=.int k (-n)) ?_ (.p _ _ (.int _ _))
     have:=wrap_in h1
     simp[execOp,ho,hxv,Op.unary,Op.intArith,this]
    | _=>simp[unD] at hq
   | bool b =>
    cases op with
    | not =>
     simp only[unD,Option.some.injEq,Prod.mk.injEq,true_and] at hq
     subst hq
     refine good_same h (v:=.bool (!b)) ?_ (.p _ _ (.bool _))
     simp[execOp,ho,hxv,Op.unary]
    | _=>simp[unD] at hq
   | _=>simp[unD] at hq
  ·cases he
 ·cases he
theorem sim_conv {S T:TypeId} {k:IntKind} {ds:TypeDesc} {x:Operand} (h:Rel w0 base nt loc s a w) (ho:o.op = .convert S T x) (hS:P.underlying S=some ds) (hT:P.underlying T=some (.int k)) {U:Option TypeId}
  (he:ev (.conv k (opd P U x)) id s=some (true,d,t)):Good P w0 base nt o a w t d:=by
 have hx:=h.opd (P:=P) U x
 simp only[ev] at he
 split at he
 ·rename_i k' n hk
  simp only[Option.some.injEq,Prod.mk.injEq] at he
  obtain⟨h1,rfl,rfl⟩:=he
  rw[hk] at hx
  have hx:=hx.inv
  generalize hxv:a.eval x=v at hx
  cases hx
  refine good_same h (v:=.int k n) ?_ (.p _ _ (.int _ _))
  have:=wrap_in h1
  simp[execOp,ho,hxv,convert,run_underlying hS,run_underlying hT,Conv.intToInt,this]
 ·cases he
theorem sim_bin {T:TypeId} {op:BinOp} {x y:Operand} {Y:TypeId} (h:Rel w0 base nt loc s a w) (ho:o.op = .binOp op T x y Y) {bo:Bool} (hb:bo=true→P.underlying T=some .bool) {U W:Option TypeId}
  (he:ev (.bin bo op (opd P U x) (opd P W y)) id s=some (true,d,t)):Good P w0 base nt o a w t d:=by
 have hx:=h.opd (P:=P) U x
 have hy:=h.opd (P:=P) W y
 simp only[ev] at he
 split at he
 case h_2=>cases he
 rename_i e f hk hk'
 split at he
 case isFalse=>cases he
 rename_i hbo
 split at he
 case h_2=>cases he
 rename_i c q hq
 simp only[Option.some.injEq,Prod.mk.injEq] at he
 obtain⟨rfl,rfl,rfl⟩:=he
 rw[hk] at hx
 rw[hk'] at hy
 have hx:=hx.inv
 have hy:=hy.inv
 generalize hxv:a.eval x=v at hx
 generalize hyv:a.eval y=u at hy
 have fin:∀ z,V w (NB base s.m loc w) z q→(eqGuard op T x y v u >>= fun _=>binOp op T v u).run P w = .ok z w→Good P w0 base nt o a w s (.p q):=by
  intro z hz hr
  refine good_same h (v:=z) ?_ (.p _ _ hz)
  simp only[execOp,ho,hxv,hyv]
  exact run_v hr
 cases hx with
 | int k m =>
  cases hy with
  | int k' n =>
   have hg:(eqGuard op T x y (.int k m) (.int k' n)).run P w = .ok () w:=by
    unfold eqGuard
    cases op<;>simp
   by_cases hkk:k=k'
   ·subst hkk
    cases op<;>simp only[binD,if_true,Option.some.injEq,Prod.mk.injEq,Bool.and_eq_true,decide_eq_true_eq,reduceCtorEq] at hq<;>obtain⟨h1,rfl⟩:=hq
    case add=>exact fin _ (.int _ _) (by simp[hg,binOp,Op.intArith,wrap_in h1])
    case sub=>exact fin _ (.int _ _) (by simp[hg,binOp,Op.intArith,wrap_in h1])
    case mul=>exact fin _ (.int _ _) (by simp[hg,binOp,Op.intArith,wrap_in h1])
    case quo=>exact fin _ (.int _ _) (by simp[hg,binOp,Op.intDiv,wrap_in h1.2,h1.1])
    case rem=>exact fin _ (.int _ _) (by simp[hg,binOp,Op.intDiv,h1])
    case shl=>exact fin _ (.int _ _) (by simp[hg,binOp,shift_shl k _ m n h1.1.1 (by omega),wrap_in h1.2])
    case shr=>exact fin _ (.int _ _) (by simp[hg,binOp,shift_shr k _ m n h1.1 (by omega)])
    case eql=>exact fin _ (.bool _) (by simp[hg,binOp,Op.intCmp];rfl)
    case neq=>exact fin _ (.bool _) (by simp[hg,binOp,Op.intCmp];rfl)
    case lss=>exact fin _ (.bool _) (by simp[hg,binOp,Op.intCmp])
    case leq=>exact fin _ (.bool _) (by simp[hg,binOp,Op.intCmp])
    case gtr=>exact fin _ (.bool _) (by simp[hg,binOp,Op.intCmp])
    case geq=>exact fin _ (.bool _) (by simp[hg,binOp,Op.intCmp])
   ·cases op<;>simp only[binD,hkk,if_false,Option.some.injEq,Prod.mk.injEq,Bool.and_eq_true,decide_eq_true_eq,reduceCtorEq] at hq<;>obtain⟨h1,rfl⟩:=hq
    case shl=>exact fin _ (.int _ _) (by simp[hg,binOp,shift_shl k _ m n h1.1.1 (by omega),wrap_in h1.2])
    case shr=>exact fin _ (.int _ _) (by simp[hg,binOp,shift_shr k _ m n h1.1 (by omega)])
  | _=>simp[binD] at hq
 | str m =>
  cases hy with
  | str n =>
   have hg:(eqGuard op T x y (.string m) (.string n)).run P w = .ok () w:=by
    unfold eqGuard
    cases op<;>simp
   cases op<;>simp only[binD,Option.some.injEq,Prod.mk.injEq,decide_eq_true_eq,reduceCtorEq] at hq<;>obtain⟨h1,rfl⟩:=hq
   case add =>
    have e:(m.data.toList++n.data.toList)=(m++n).data.toList:=by simp
    exact fin (.string (m++n)) (by rw[e];exact .str _) (by
     have hle:¬ ((9223372036854775807:Int)<(m.size:Int)+n.size):=by
      have h2:m.data.size=m.size:=rfl
      have h3:n.data.size=n.size:=rfl
      simp at h1;omega
     simp[hg,binOp,Op.stringOp,hle])
   case eql=>exact fin _ (.bool _) (by simp[hg,binOp,Op.stringOp,bytes_eq])
   case neq=>exact fin _ (.bool _) (by simp[hg,binOp,Op.stringOp,bytes_eq])
  | _=>simp[binD] at hq
 | bool m =>
  have hT:=hb hbo.symm
  cases hy with
  | bool n =>
   have hg:(eqGuard op T x y (.bool m) (.bool n)).run P w = .ok () w:=by
    unfold eqGuard
    cases op<;>simp
   cases op<;>simp only[binD,Option.some.injEq,Prod.mk.injEq,true_and,reduceCtorEq] at hq<;>subst hq
   case eql=>exact fin _ (.bool _) (by simp only[Sem.run_bind,hg,Result.andThen,run_bin_eql hT])
   case neq=>exact fin _ (.bool _) (by simp only[Sem.run_bind,hg,Result.andThen,run_bin_neq hT])
  | _=>simp[binD] at hq
 | _=>simp[binD] at hq
theorem run_len {T:TypeId} {x:Operand} {c:Call} (ho:o.op = .call c) (hc:c.callee = .builtin .len) (ha:c.args.toList=[x]) (hT:c.argTypes.toList=[T]) {v:Value} {n:Nat} (hv:a.eval x=v)
  (hr:(Builtin.len_ #[T] o.type #[v]).run P w = .ok (.int .i64 n) w):(execOp a.eval o).run P w = .ok (.value (.int .i64 n)) w:=by
 have ha':c.args = #[x]:=by rw[←Array.toList_inj];exact ha
 have hT':c.argTypes = #[T]:=by rw[←Array.toList_inj];exact hT
 subst hv
 simp[execOp,ho,resolve,hc,ha',hT',invoke,builtin,hr]
theorem run_mm {x y:Operand} {c:Call} {mx:Bool} (ho:o.op = .call c) (hc:c.callee = .builtin (if mx then .max else .min)) (ha:c.args.toList=[x,y]) {k:IntKind} {p q:Int} (hx:a.eval x = .int k p) (hy:a.eval y = .int k q) :
  (execOp a.eval o).run P w = .ok (.value (.int k (if mx then (if q > p then q else p) else (if q<p then q else p)))) w:=by
 have ha':c.args = #[x,y]:=by rw[←Array.toList_inj];exact ha
 cases mx<;>simp[execOp,ho,resolve,hc,ha',invoke,builtin,Builtin.max_,Builtin.min_,Builtin.max2,Builtin.min2,hx,hy]
theorem sim_mm {x y:Operand} {c:Call} {mx:Bool} (h:Rel w0 base nt loc s a w) (ho:o.op = .call c) (hc:c.callee = .builtin (if mx then .max else .min)) (ha:c.args.toList=[x,y]) {U W:Option TypeId}
  (he:ev (.mm mx (opd P U x) (opd P W y)) id s=some (true,d,t)):Good P w0 base nt o a w t d:=by
 have hx:=h.opd (P:=P) U x
 have hy:=h.opd (P:=P) W y
 simp only[ev] at he
 split at he
 ·rename_i k p k' q hk hk2
  split at he
  case isFalse=>cases he
  rename_i hkk
  subst hkk
  simp only[Option.some.injEq,Prod.mk.injEq,true_and] at he
  obtain⟨rfl,rfl⟩:=he
  rw[hk] at hx
  rw[hk2] at hy
  have hx:=hx.inv
  have hy:=hy.inv
  generalize hxv:a.eval x=v at hx
  generalize hyv:a.eval y=u at hy
  cases hx
  cases hy
  exact good_same h (run_mm ho hc ha hxv hyv) (.p _ _ (.int _ _))
 ·cases he
theorem sim_lenS {T:TypeId} {x:Operand} {c:Call} (h:Rel w0 base nt loc s a w) (ho:o.op = .call c) (hc:c.callee = .builtin .len) (ha:c.args.toList=[x]) (hT:c.argTypes.toList=[T])
  (hu:P.underlying T=some .string) {U:Option TypeId}
  (he:ev (.lenS (opd P U x)) id s=some (true,d,t)):Good P w0 base nt o a w t d:=by
 have hx:=h.opd (P:=P) U x
 simp only[ev] at he
 split at he
 ·rename_i l hk
  simp only[Option.some.injEq,Prod.mk.injEq,true_and] at he
  obtain⟨rfl,rfl⟩:=he
  rw[hk] at hx
  have hx:=hx.inv
  generalize hxv:a.eval x=v at hx
  cases hx with
  | str q =>
  refine good_same h (run_len ho hc ha hT hxv ?_) (.p _ _ (.int _ _))
  have:q.data.size=q.size:=rfl
  simp[Builtin.len_,run_underlying hu,goInt,this]
 ·cases he
theorem sim_len {T e:TypeId} {x:Operand} {c:Call} (h:Rel w0 base nt loc s a w) (ho:o.op = .call c) (hc:c.callee = .builtin .len) (ha:c.args.toList=[x]) (hT:c.argTypes.toList=[T])
  (hu:P.underlying T=some (.slice e)) {U:Option TypeId}
  (he:ev (.len (opd P U x)) id s=some (true,d,t)):Good P w0 base nt o a w t d:=by
 have hx:=h.opd (P:=P) U x
 have fin:∀ p (n:Nat) cap,a.eval x = .slice p n cap→Good P w0 base nt o a w s (.p (.int .i64 n)):=fun p n cap hv =>
  good_same h (run_len ho hc ha hT hv (by simp[Builtin.len_,run_underlying hu,goInt])) (.p _ _ (.int _ _))
 simp only[ev] at he
 split at he
 ·rename_i T' sz l hk
  simp only[Option.some.injEq,Prod.mk.injEq,true_and] at he
  obtain⟨rfl,rfl⟩:=he
  rw[hk] at hx
  have hx:=hx.inv
  generalize hxv:a.eval x=v at hx
  cases hx with
  | empty p cap=>exact fin p 0 cap hxv
  | list b p cap=>exact fin _ _ _ hxv
 ·rename_i i off n hk
  simp only[Option.some.injEq,Prod.mk.injEq,true_and] at he
  obtain⟨rfl,rfl⟩:=he
  rw[hk] at hx
  generalize hxv:a.eval x=v at hx
  cases hx with
  | slice=>exact fin _ _ _ hxv
  | sliceEmp=>exact fin _ 0 _ hxv
 ·rename_i T' sz hk
  simp only[Option.some.injEq,Prod.mk.injEq,true_and] at he
  obtain⟨rfl,rfl⟩:=he
  rw[hk] at hx
  generalize hxv:a.eval x=v at hx
  cases hx
  exact fin _ 0 _ hxv
 ·cases he
theorem run_bounds {lo hi mx:Option Operand} {len cap l n:Nat} (b:Bool) (h:Rel w0 base nt loc s a w) (hlc:len≤cap) (hm:mx.isSome=true→hi.isSome=true) {c:Bool} (hc:c=true)
  (hb:bounds s.r len (lo.map (opd P none)) (hi.map (opd P none)) (mx.map (opd P none))=some (c,l,n)) :
  ∃ m,(Instr.sliceBounds b len cap (lo.map a.eval) (hi.map a.eval) (mx.map a.eval)).run P w = .ok (l,n,m) w∧l≤n∧n≤len∧n≤m∧m≤cap:=by
 subst hc
 unfold bounds at hb
 split at hb
 case h_2=>cases hb
 rename_i L N hL hN
 have eLo:∀ y,lo=some y→∃ k,a.eval y = .int k L:=by rintro y rfl;exact asI_eval h hL
 have eHi:∀ y,hi=some y→∃ k,a.eval y = .int k N:=by rintro y rfl;exact asI_eval h hN
 have nLo:lo=none→L=0:=by rintro rfl;simpa using hL.symm
 have nHi:hi=none→N=len:=by rintro rfl;simpa using hN.symm
 have sb:∀ k (i:Int) (y:Nat) code,0≤i→i≤y→(Instr.sliceBound (.int k i) y code).run P w = .ok i.toNat w:=by
  intro k i y code h0 h1
  simp[Instr.sliceBound,asIntOf,h0,h1]
 cases mx with
 | none =>
  simp only[Option.map_none,Option.some.injEq,Prod.mk.injEq,decide_eq_true_eq] at hb
  obtain⟨⟨h0,h1,h2⟩,rfl,rfl⟩:=hb
  refine⟨cap,?_,by omega,by omega,by omega,by omega⟩
  unfold Instr.sliceBounds
  cases hi with
  | none =>
   have hNl:=nHi rfl
   subst hNl
   cases lo with
   | none=>have hL0:=nLo rfl;subst hL0;simp
   | some y =>
    obtain⟨k,hk⟩:=eLo y rfl
    have hs:=sb k L len (if (none:Option Value).isSome=true then BoundsCode.slice3C else BoundsCode.sliceB) h0 h1
    simp only[Option.isSome_none,Bool.false_eq_true,if_false] at hs
    simp[hk,hs]
  | some z =>
   obtain⟨k',hk'⟩:=eHi z rfl
   have hs':=sb k' N cap (if b=true then BoundsCode.sliceAcap else BoundsCode.sliceAlen) (by omega) (by omega)
   cases lo with
   | none=>have hL0:=nLo rfl;subst hL0;simp[hk',hs']
   | some y =>
    obtain⟨k,hk⟩:=eLo y rfl
    have hs:=sb k L N.toNat BoundsCode.sliceB h0 (by omega)
    simp[hk,hk',hs,hs']
 | some q =>
  simp only[Option.map_some] at hb
  split at hb
  case h_2=>cases hb
  rename_i M hM
  simp only[Option.some.injEq,Prod.mk.injEq,decide_eq_true_eq] at hb
  obtain⟨⟨h0,h1,h2,h3⟩,rfl,rfl⟩:=hb
  obtain⟨k'',hk''⟩:=asI_eval h hM
  refine⟨M.toNat,?_,by omega,by omega,by omega,by omega⟩
  unfold Instr.sliceBounds
  have hs'':=sb k'' M cap (if b=true then BoundsCode.slice3Acap else BoundsCode.slice3Alen) (by omega) (by omega)
  cases hi with
  | none=>simp at hm
  | some z =>
   obtain⟨k',hk'⟩:=eHi z rfl
   have hs':=sb k' N M.toNat BoundsCode.slice3B (by omega) (by omega)
   cases lo with
   | none=>have hL0:=nLo rfl;subst hL0;simp[hk',hs',hk'',hs'']
   | some y =>
    obtain⟨k,hk⟩:=eLo y rfl
    have hs:=sb k L N.toNat BoundsCode.slice3C h0 (by omega)
    simp[hk,hk',hs,hs',hk'',hs'']
end
end Go.Proofs.Ytdjbfgfbpimakaa.M
end

section
namespace Go.Proofs.Ytdjbfgfbpimakaa.M
open Go.RowKit
section
variable {P:Program} {w0:World} {base:Nat→Prop} {nt:Nat} {loc:Locs} {s t:St} {a:Act} {w:World} {o:Oper} {id:Nat} {d:AV}
theorem sim_sliceS {T:TypeId} {x:Operand} {lo hi:Option Operand} (h:Rel w0 base nt loc s a w) (ho:o.op = .slice T x lo hi none) (hu:P.underlying T=some .string) {U:Option TypeId}
  (he:ev (.sliceS (opd P U x) (lo.map (opd P none)) (hi.map (opd P none))) id s=some (true,d,t)):Good P w0 base nt o a w t d:=by
 have hx:=h.opd (P:=P) U x
 simp only[ev] at he
 split at he
 case h_2=>cases he
 rename_i q hk
 split at he
 case h_2=>cases he
 rename_i c l n hb
 simp only[Option.some.injEq,Prod.mk.injEq] at he
 obtain⟨hc,rfl,rfl⟩:=he
 rw[hk] at hx
 have hx:=hx.inv
 generalize hxv:a.eval x=v at hx
 cases hx with
 | str q =>
 have hsz:q.data.toList.length=q.size:=by simp
 rw[hsz] at hb
 obtain⟨m,hr,h1,h2,h3,h4⟩:=run_bounds (P:=P) (mx:=none) false h (Nat.le_refl _) (by simp) hc hb
 simp only[Option.map_none] at hr
 have e:((q.data.toList.drop l).take (n-l))=(q.extract l n).data.toList:=by
  simp[ByteArray.data_extract]
 rw[e]
 refine good_same h (v:=.string (q.extract l n)) ?_ (.p _ _ (.str _))
 simp[execOp,ho,hxv,Instr.sliceAt,run_underlying hu,Instr.slice,hr]
theorem sim_slice {T E:TypeId} {ag:Bool} {sz:Nat} {x:Operand} {lo hi mx:Option Operand} (h:Rel w0 base nt loc s a w) (ho:o.op = .slice T x lo hi mx) (hu:P.underlying T=some (.slice E)) (hT:TyOk P E ag sz) (hm:mx.isSome=true→hi.isSome=true) {U:Option TypeId}
  (he:ev (.slice sz (opd P U x) (lo.map (opd P none)) (hi.map (opd P none)) (mx.map (opd P none))) id s=some (true,d,t)):Good P w0 base nt o a w t d:=by
 have hx:=h.opd (P:=P) U x
 have run:∀ p len cap l n m,a.eval x = .slice p len cap→(Instr.sliceBounds true len cap (lo.map a.eval) (hi.map a.eval) (mx.map a.eval)).run P w = .ok (l,n,m) w →
   (execOp a.eval o).run P w = .ok (.value (.slice (if m=l then p else p.map (·.add (l*sz))) (n-l) (m-l))) w:=by
  intro p len cap l n m hv hr
  simp[execOp,ho,hv,Instr.sliceAt,run_underlying hu,Instr.slice,hr,run_sizeOf hT]
 simp only[ev] at he
 split at he
 ·rename_i T' sz' q hk
  split at he
  case isFalse=>cases he
  rename_i hsz
  subst hsz
  split at he
  case h_2=>cases he
  rename_i c l n hb
  simp only[Option.some.injEq,Prod.mk.injEq] at he
  obtain⟨hc,rfl,rfl⟩:=he
  rw[hk] at hx
  have hx:=hx.inv
  generalize hxv:a.eval x=v at hx
  cases hx with
  | empty p cap _ _ hcap =>
   obtain⟨m,hr,h1,h2,h3,h4⟩:=run_bounds (P:=P) true h (Nat.zero_le cap) hm hc hb
   refine good_same h (run _ _ _ _ _ _ hxv hr) (.p _ _ ?_)
   have:n-l=0:=by omega
   simp only[List.drop_nil,List.take_nil,this]
   exact .empty _ _ _ _ (by omega)
  | list b p cap _ _ _ c' fr g1 g2 g3 g4 g5 g6 g7 =>
   obtain⟨m,hr,h1,h2,h3,h4⟩:=run_bounds (P:=P) true h g3 hm hc hb
   refine good_same h (run _ _ _ _ _ _ hxv hr) (.p _ _ ?_)
   have hlen:((q.drop l).take (n-l)).length=n-l:=by simp;omega
   by_cases hml:m=l
   ·have h0:n-l=0:=by omega
    simp only[h0,List.take_zero]
    exact .empty _ _ _ _ (by omega)
   ·rw[if_neg hml]
    simp only[Option.map_some,add_mid]
    have idx:∀ i e,((q.drop l).take (n-l))[i]? = some e→q[l+i]? = some e:=by
     intro i e hi
     have hlt:i<n-l:=by have:=(List.getElem?_eq_some_iff.1 hi).1;omega
     rw[List.getElem?_take_of_lt hlt,List.getElem?_drop] at hi
     exact hi
    have:=V.list (w:=w) (N:=NB base s.m loc w) b (p+l*sz) (m-l) T' sz ((q.drop l).take (n-l)) c' fr g1 g2 (by omega) (by omega) (fun e he=>g5 e (List.mem_of_mem_drop (List.mem_of_mem_take he)))
     (fun i e j d hi hj=>by have:=g6 (l+i) e j d (idx i e hi) hj;rw[Nat.add_mul] at this;omega)
     (fun i e j d hi hj=>by have:=g7 (l+i) e j d (idx i e hi) hj;rw[show p+((l+i)*sz+j)=p+l*sz+(i*sz+j) by rw[Nat.add_mul];omega] at this;exact this)
    rw[hlen] at this
    exact this
 ·rename_i i off len hk
  split at he
  case h_2=>cases he
  rename_i ob hob
  split at he
  case isFalse=>cases he
  rename_i hsz
  subst hsz
  split at he
  case h_2=>cases he
  rename_i c l n hb
  simp only[Option.some.injEq,Prod.mk.injEq] at he
  obtain⟨hc,rfl,rfl⟩:=he
  rw[hk] at hx
  generalize hxv:a.eval x=v at hx
  cases hx with
  | sliceEmp L _ _ p hL =>
   obtain⟨m,hr,h1,h2,h3,h4⟩:=run_bounds (P:=P) true h (Nat.le_refl 0) hm hc hb
   refine good_same h (run _ _ _ _ _ _ hxv hr) ?_
   rw[show n-l=0 by omega,show m-l=0 by omega]
   exact .sliceEmp L _ _ _ hL
  | slice L _ _ _ cap hL hn h3 h4 h5 =>
   obtain⟨m,hr,h1,h2,h3',h4'⟩:=run_bounds (P:=P) true h h3 hm hc hb
   obtain⟨L',hL',hok⟩:=h.objs i ob hob
   rw[hL] at hL'
   cases hL'
   refine good_same h (run _ _ _ _ _ _ hxv hr) ?_
   by_cases hml:m=l
   ·rw[show n-l=0 by omega,show m-l=0 by omega]
    exact .sliceEmp L _ _ _ hL
   ·rw[if_neg hml]
    simp only[Option.map_some,add_mid]
    have hs:=hok.sz
    rw[show L.o+off*L.sz+l*ob.sz=L.o+(off+l)*L.sz by rw[hs,Nat.add_mul];omega]
    have hmul:l*L.sz+(m-l)*L.sz≤cap*L.sz:=by
     rw[←Nat.add_mul];exact Nat.mul_le_mul_right _ (by omega)
    exact .slice L _ _ _ _ hL hn (by omega) (by omega) (by rw[Nat.add_mul];omega)
 ·rename_i T' sz' hk
  split at he
  case h_2=>cases he
  rename_i c l n hb
  simp only[Option.some.injEq,Prod.mk.injEq] at he
  obtain⟨hc,rfl,rfl⟩:=he
  rw[hk] at hx
  generalize hxv:a.eval x=v at hx
  cases hx
  obtain⟨m,hr,h1,h2,h3,h4⟩:=run_bounds (P:=P) true h (Nat.le_refl 0) hm hc hb
  refine good_same h (run _ _ _ _ _ _ hxv hr) ?_
  obtain rfl:l=0:=by omega
  obtain rfl:n=0:=by omega
  obtain rfl:m=0:=by omega
  exact .nils _ _
 ·cases he
theorem zero_run {T:TypeId} {l:List D} {ag:Bool} {sz:Nat} (hz:ZOk P T l ag sz):∃ z:Value,(zeroValue T).run P w = .ok z w∧z.cells.size=sz∧l.length=sz∧(∀ i d,l[i]? = some d→d.one=true∧∀ (w:World) (N:Nat→Prop),V w N (z.cells.getD i undef) d)∧(z.cells.size=1→z.cells.getD 0 undef=z.cells.getD 0 undef):=by
 obtain⟨i,z,h1,h2,h3,h4,h5,h6⟩:=hz
 obtain⟨g1,g2⟩:=chkL_ok h4
 refine⟨z,by simp[zeroValue,typeInfo,h1,h2],by simpa[h5] using g1,h5,fun j d hj => ?_,fun _=>rfl⟩
 obtain⟨k1,k2⟩:=g2 j d hj
 refine⟨k1,fun w N => ?_⟩
 have:=k2 w N
 simpa using this
theorem chk_nil {v:Value} {T:TypeId} {sz:Nat} (h:chkD v (.list T sz [])=true):v = .slice none 0 0:=by
 unfold chkD at h
 split at h<;>simp_all
theorem zeroA_cells {T:TypeId} {l:List D} {ag:Bool} {sz:Nat} (hz:ZOk P T l ag sz) (h1:∀ e∈(zeroA l ag).cells,e.one=true) {z:Value} (hr:(zeroValue T).run P w = .ok z w) (N:Nat→Prop) :
  ∀ i e,(zeroA l ag).cells[i]? = some e→RV w N loc (z.cells.getD i undef) e:=by
 obtain⟨i,z',g1,g2,g3,g4,g5,g6⟩:=hz
 have hzz:z'=z:=by
  have:(zeroValue T).run P w = .ok z' w:=by simp[zeroValue,typeInfo,g1,g2]
  rw[this] at hr
  injection hr
 subst hzz
 obtain⟨k1,k2⟩:=chkL_ok g4
 have hV:∀ j d,l[j]? = some d→V w N (z'.cells.getD j undef) d:=fun j d hj=>by
  have:=(k2 j d hj).2 w N
  simpa using this
 intro j e hj
 unfold zeroA at hj h1
 split at hj
 ·simp only[AV.cells,D.cells,List.getElem?_map,Option.map_eq_some_iff] at hj
  obtain⟨d,hd,rfl⟩:=hj
  exact .p _ _ (hV j d hd)
 ·rename_i hag
  rw[if_neg hag] at h1
  split at hj
  ·rename_i T' sz'
   match j,hj with
   | 0,hj =>
    simp[AV.cells] at hj
    subst hj
    have:z'.cells.toList.length=1:=k1
    generalize hzl:z'.cells.toList=zl at g4 this
    match zl,this with
    | [v],_ =>
     have hv:z'.cells.getD 0 undef=v:=by
      have:z'.cells = #[v]:=by rw[←Array.toList_inj];exact hzl
      simp[this]
     rw[hv]
     simp only[chkL,Bool.and_true] at g4
     rw[chk_nil g4]
     exact .nils _ _
   | j+1,hj=>simp[AV.cells] at hj
  ·rename_i d hne
   simp only[AV.cells,List.getElem?_map,Option.map_eq_some_iff] at hj h1
   obtain⟨q,hq,rfl⟩:=hj
   have ho:=h1 (.p q) (List.mem_map.2 ⟨q,List.mem_of_getElem? hq,rfl⟩)
   have hd1:d.one=true:=(k2 0 d rfl).1
   have hc:d.cells=[d]:=by cases d<;>first | rfl | simp[D.one] at hd1
   rw[hc] at hq
   match j,hq with
   | 0,hq=>simp at hq;subst hq;exact .p _ _ (hV 0 d rfl)
   | j+1,hq=>simp at hq
  ·match j,hj with
   | 0,hj=>simp[AV.cells] at hj;subst hj;exact .und _
   | j+1,hj=>simp[AV.cells] at hj
theorem sim_alloc {T:TypeId} {l:List D} {ag:Bool} {sz:Nat} (h:Rel w0 base nt loc s a w) (ho:o.op = .alloc T) (hz:ZOk P T l ag sz)
  (he:ev (.alloc T sz (zeroA l ag)) id s=some (true,d,t)) (hc:(zeroA l ag).cells.length=sz) (h1:∀ e∈(zeroA l ag).cells,e.one=true):Good P w0 base nt o a w t d:=by
 simp only[ev] at he
 split at he
 case h_2=>cases he
 rename_i hid
 simp only[Option.some.injEq,Prod.mk.injEq,true_and] at he
 obtain⟨rfl,rfl⟩:=he
 obtain⟨z,hr,hsz,-⟩:=zero_run (w:=w) hz
 have hcells:=zeroA_cells (loc:=loc) hz h1 hr (NB base s.m loc w)
 obtain⟨loc',hl,hrel⟩:=h.alloc (T:=T) (c:=z.cells) (k:=.box (zeroA l ag)) (sz:=sz) hid ⟨by omega,hc,h1,fun j e hj=>by rw[Nat.zero_add];exact hcells j e hj⟩
 refine⟨.pointer (some ⟨w.heap.size,0,none⟩),w.alloc (.cells z.cells T),loc',.inl ?_,hrel,?_⟩
 ·simp[execOp,ho,Instr.alloc,hr,newVar,newRow]
 ·have:=RV.ptr (w:=w.alloc (.cells z.cells T)) (N:=NB base (upd s.m id (some ⟨T,sz,.box (zeroA l ag),false⟩)) loc' (w.alloc (.cells z.cells T))) _ id 0 0 hl rfl
  simpa using this
theorem sim_box {T:TypeId} {sz:Nat} {x:Operand} (h:Rel w0 base nt loc s a w) (ho:o.op = .box T x) {U:Option TypeId}
  (he:ev (.box T sz (opd P U x)) id s=some (true,d,t)):Good P w0 base nt o a w t d:=by
 have hx:=h.opd (P:=P) U x
 simp only[ev] at he
 split at he
 case h_2=>cases he
 rename_i hid
 split at he
 case isFalse=>cases he
 rename_i hcond
 obtain⟨hc,h1⟩:=hcond
 rw[List.all_eq_true] at h1
 simp only[Option.some.injEq,Prod.mk.injEq,true_and] at he
 obtain⟨rfl,rfl⟩:=he
 obtain⟨g1,g2⟩:=hx.cells h1
 obtain⟨loc',hl,hrel⟩:=h.alloc (T:=T) (c:=(a.eval x).cells) (k:=.box ((opd P U x).ev s.r)) (sz:=sz) hid ⟨by omega,hc,h1,fun j e hj=>by rw[Nat.zero_add];exact g2 j e hj⟩
 refine⟨.pointer (some ⟨w.heap.size,0,none⟩),w.alloc (.cells (a.eval x).cells T),loc',.inl ?_,hrel,?_⟩
 ·simp[execOp,ho,Instr.box,newVar,newRow]
 ·have:=RV.ptr (w:=w.alloc (.cells (a.eval x).cells T)) (N:=NB base (upd s.m id (some ⟨T,sz,.box ((opd P U x).ev s.r),false⟩)) loc' (w.alloc (.cells (a.eval x).cells T))) _ id 0 0 hl rfl
  simpa using this
theorem sim_makeSlice {T E:TypeId} {l:List D} {ag:Bool} {sz bytes:Nat} {x y:Operand} (h:Rel w0 base nt loc s a w) (ho:o.op = .makeSlice T x y) (hu:P.underlying T=some (.slice E)) (hz:ZOk P E l ag sz) {i:TypeInfo} (hi:P.info? E=some i) (hb:i.bytes=bytes) {U W:Option TypeId}
  (he:ev (.makeSlice E sz bytes (if ag then .agg l else l.headD default) (opd P U x) (opd P W y)) id s=some (true,d,t)):Good P w0 base nt o a w t d:=by
 simp only[ev] at he
 split at he
 case h_2=>cases he
 rename_i hid
 split at he
 case h_2=>cases he
 rename_i n m hn hm
 simp only[Option.some.injEq,Prod.mk.injEq,decide_eq_true_eq] at he
 obtain⟨⟨h0,rfl,h2,h3⟩,rfl,rfl⟩:=he
 obtain⟨k1,hx⟩:=asI_eval h hn
 obtain⟨k2,hy⟩:=asI_eval h hm
 obtain⟨q,rfl⟩:=Int.eq_ofNat_of_zero_le h0
 obtain⟨z,hr,hsz,hl,hcell,-⟩:=zero_run (w:=w) hz
 have hcl:(if ag then D.agg l else l.headD default).cells=l:=by
  cases ag with
  | true=>rfl
  | false =>
   have:sz=1:=by obtain⟨_,_,_,_,_,_,_,h6⟩:=hz;exact h6 rfl
   match l,hl with
   | [e],_ =>
    have:=(hcell 0 e rfl).1
    cases e<;>first | rfl | simp[D.one] at this
   | [],hl=>simp at hl;omega
   | _::_::_,hl=>simp at hl;omega
 have hTy:TyOk P E ag sz:=by obtain⟨_,_,_,_,h3,_⟩:=hz;exact h3
 obtain⟨loc',hl',hrel⟩:=h.alloc (T:=E) (c:=(madeCells z.cells (q*sz))) (k:=.row (List.replicate q (if ag then D.agg l else l.headD default))) (sz:=sz) hid (by
  refine⟨by simp[madeCells],fun e he => ?_,fun i e j d hi hj => ?_⟩
  ·rw[List.eq_of_mem_replicate he,hcl,hl]
  ·have hiq:i<q:=by have:=(List.getElem?_eq_some_iff.1 hi).1;simpa using this
   have he:=List.eq_of_mem_replicate (List.mem_of_getElem? hi)
   rw[he,hcl] at hj
   have hjl:j<sz:=by have:=(List.getElem?_eq_some_iff.1 hj).1;omega
   obtain⟨g1,g2⟩:=hcell j d hj
   refine⟨g1,?_⟩
   have hlt:i*sz+j<q*sz:=by
    have:=Nat.mul_le_mul_right sz (show i+1≤q by omega)
    rw[Nat.add_mul] at this;omega
   have hmod:(i*sz+j) % sz=j:=by rw[Nat.add_comm,Nat.add_mul_mod_self_right];exact Nat.mod_eq_of_lt hjl
   have:=g2 w (NB base s.m loc w)
   simp only[Nat.zero_add,Array.getD_eq_getD_getElem?] at this ⊢
   simp[madeCells,hlt,hsz,hmod]
   simpa[hsz,hjl] using this)
 refine⟨.slice (some ⟨w.heap.size,0,none⟩) q q,w.alloc (.cells (madeCells z.cells (q*sz)) E),loc',.inl ?_,hrel,?_⟩
 ·obtain⟨i',z',g1,g2,g3,_⟩:=hz
  rw[hi] at g1
  cases g1
  have hzz:z'=z:=by
   have:(zeroValue E).run P w = .ok z' w:=by simp[zeroValue,typeInfo,hi,g2]
   rw[this] at hr
   injection hr
  subst hzz
  have his:i.size=sz:=by obtain⟨_,i2,_,_,h3,h4⟩:=hTy;rw[hi] at h3;cases h3;exact h4
  have:=run_make (P:=P) w T E i z' hu hi g2 k1 k2 (q:Int) (q:Int) (by omega) (by omega) (by rw[hb];omega) (by omega)
  rw[Int.toNat_natCast,his] at this
  simp[execOp,ho,hx,hy,this]
 ·have:=RV.slice (w:=w.alloc (.cells (madeCells z.cells (q*sz)) E)) (N:=NB base (upd s.m id (some ⟨E,sz,.row (List.replicate q (if ag then D.agg l else l.headD default)),false⟩)) loc' (w.alloc (.cells (madeCells z.cells (q*sz)) E))) _ id 0 q q hl' rfl (Nat.le_refl _) (by omega) (by simp[madeCells])
  simpa using this
end
end Go.Proofs.Ytdjbfgfbpimakaa.M
end
