/- Lemmas. -/
import Derived.Test.YtbnhgnhgbhjkcaaGreatRows
import Derived.WalkKit
import Derived.WalkSpells
import Derived.WalkLawsBesides
import Derived.Lib.Hide
import Derived.OrdersHeld
import Derived.Laws.IdiomCopy
set_option linter.defProp false
set_option linter.unusedVariables false
namespace Go.Proofs.YtbnhgnhgbhjkcaaGreat
set_option linter.defProp false
def z99:=@Option.some.injEq.{0}
def z98:=@List.getElem?_eq_some_iff.{0}
def z97:=@Prod.mk.injEq.{0,0}
def z96:=@List.length_append.{0}
def z95:=@Nat.le_refl
def z94:=@Option.map_eq_some_iff.{0,0}
def z93:=@List.take_of_length_le.{0}
def z92:=@Nat.mul_le_mul_right
def z91:=@List.getD_eq_getElem?_getD.{0}
def z90:=@List.mem_of_getElem?.{0}
def z9Z:=@List.eq_nil_of_length_eq_zero.{0}
def z9Y:=@Array.getD_eq_getD_getElem?.{0}
def z9X:=@List.mem_cons_self.{0}
def z9W:=@Int.eq_ofNat_of_zero_le
def z9V:=@List.length_map.{0,0}
def z9U:=@List.map_append.{0,0}
def z9T:=@List.mem_cons_of_mem.{0}
def z9S:=@Bool.and_eq_true
def z9R:=@List.length_set.{0}
def z9Q:=@List.mem_map.{0,0}
def z9P:=@List.getElem?_eq_getElem.{0}
def z9O:=@Nat.zero_le
def z9N:=@List.length_take.{0}
def z9M:=@List.mem_of_mem_take.{0}
def z9L:=@List.mem_cons.{0}
def z9K:=@Nat.lt_of_le_of_lt
def z9J:=@List.getD_cons_zero.{0}
def z9I:=@List.getD_cons_succ.{0}
def z9H:=@Int.pow_succ
def z9G:=@Int.sub_zero
def z9F:=@Nat.add_mul
def z9E:=@Nat.le_trans
def z9D:=@Nat.eq_zero_or_pos
def z9C:=@List.all_eq_true.{0}
def z9B:=@List.getElem?_map.{0,0}
def z9A:=@List.append_assoc.{0}
def z9z:=@List.getElem?_append_right.{0}
def z9y:=@List.mem_append.{0}
def z9x:=@List.take_length.{0}
def z9w:=@Int.mul_le_mul_of_nonneg_left
def z9v:=@List.getElem?_append_left.{0}
def z9u:=@List.drop_zero.{0}
def z9t:=@List.getElem?_take_of_lt.{0}
def z9s:=@List.getElem?_drop.{0}
def z9r:=@List.mem_of_mem_drop.{0}
def z9q:=@List.getElem?_of_mem.{0}
def z9p:=@Nat.pow_add
def z9o:=@Nat.zero_add
def z9n:=@Nat.lt_of_lt_of_le
def z9m:=@Bool.false_eq_true
def z9l:=@List.drop_of_length_le.{0}
def z9k:=@List.drop_eq_getElem_cons.{0}
def z9j:=@Nat.pow_le_pow_right
def z9i:=@Int.mul_ediv_add_emod
def z9h:=@Int.mul_le_mul_of_nonneg_right
def z9g:=@List.pairwise_cons.{0}
def z9f:=@Nat.min_eq_left
def z9e:=@List.mem_singleton.{0}
def z9d:=@Nat.mul_le_mul_left
def z9c:=@List.take_succ_eq_append_getElem.{0}
def z9b:=@List.eq_of_mem_replicate.{0}
def z9a:=@List.getElem_mem.{0}
def z89:=@List.map_cons.{0,0}
def z88:=@List.contains_iff_mem.{0}
def z87:=@Array.toList_inj.{0}
def z86:=@List.length_drop.{0}
def z85:=@List.mem_iff_getElem.{0}
def z84:=@Array.getElem?_append_left.{0}
def z83:=@Bool.or_eq_true
def z82:=@Nat.mul_le_mul
def z81:=@Option.isSome_iff_exists.{0}
def z80:=@List.getElem?_eq_none.{0}
def z8Z:=@Nat.succ_mul
def z8Y:=@Int.add_zero
def z8X:=@List.take_append_drop.{0}
def z8W:=@Int.emod_nonneg
def z8V:=@Nat.lt_or_ge
def z8U:=@Nat.mul_comm
def z8T:=@decide_eq_true_eq
def z8S:=@beq_self_eq_true.{0}
def z8R:=@decide_eq_false
set_option linter.unusedSimpArgs false
open Go.RowKit
def Hd (p:Prop):Prop:=Unit→p
theorem Hd.out {p:Prop} (h:Hd p):p:=h ()
theorem hd_ {p:Prop} (h:p):Hd p:=fun _=>h
structure SV where
 a:Option Addr
 len:Nat
 cap:Nat
abbrev Ext (w w':World):Prop:=Below w.heap.size w w'
theorem Ext.rf (w:World):Ext w w:=Below.refl _ _
theorem Ext.tr {a b c:World} (h:Ext a b) (k:Ext b c):Ext a c:=Below.trans h (k.mono h.size)
theorem Ext.al {a b:World} (h:Ext a b) (o:Obj):Ext a (b.alloc o):=Below.alloc h h.size o
theorem Ext.dr {a b:World} (h:Ext a b):Ext a b.drew:=Below.drew h
theorem Ext.st {a b:World} (h:Ext a b){p:Addr} (hp:a.heap.size≤p.block) (u:Value):Ext a (b.setCell p u):=Below.setCell h hp u
theorem Ext.gr {a b c:World}{row:Option Nat} (h:Ext a b) (hg:b.grownBy c row) (hr:∀k,row=some k→a.heap.size≤k):Ext a c:=Below.grown h hg h.size hr
def at_ (l:List Int) (i:Nat):Int:=l.getD i 0
theorem fc {l:List Int}{i:Nat} (h:i<l.length):at_ l i=l[i]:=by simp[at_,h]
theorem at_mem {l:List Int}{i:Nat} (h:i<l.length):at_ l i∈l:=by rw[fc h];exact z9a h
theorem bx {l:List Int}{i:Nat} (h:l.length≤i):at_ l i=0:=by simp[at_,z80 h]
def Ty (w:World) (b:Nat) (T:TypeId):Prop:=∃c fr,w.heap[b]? = some (.cells c T fr)
theorem Ty.lt {w:World}{b:Nat}{T:TypeId} (h:Ty w b T):b<w.heap.size:=by
 obtain⟨c,fr,h⟩:=h;rcases z8V b w.heap.size with hlt | hge
 ·exact hlt
 ·rw[Array.getElem?_eq_none hge] at h;cases h
theorem Ty.keep {w w':World}{b:Nat}{T:TypeId} (h:Ty w b T) (e:Ext w w'):Ty w' b T:=by
 have hl:=h.lt;obtain⟨c,fr,h⟩:=h;exact⟨c,fr,(e.block b hl).trans h⟩
theorem Ty.al {w:World}{b:Nat}{T:TypeId} (h:Ty w b T) (o:Obj):Ty (w.alloc o) b T:=h.keep ((Ext.rf w).al o)
theorem Ty.new (w:World) (c:Array Value) (T:TypeId):Ty (w.alloc (.cells c T)) w.heap.size T:=⟨c,_,heap_alloc_new w _⟩
theorem Ty.st {w:World}{b:Nat}{T:TypeId} (h:Ty w b T) (p:Addr) (u:Value):Ty (w.setCell p u) b T:=by
 obtain⟨c,fr,h⟩:=h;by_cases e:b=p.block
 ·subst e;refine⟨if p.spot.isSome then c else c.setIfInBounds p.off u,fr,?_⟩;simp[World.setCell,Array.getElem?_modify,h]
 ·exact⟨c,fr,(Below.heap_setCell w p u b e).trans h⟩
theorem Ty.ne_ {w:World}{b b':Nat}{T T':TypeId} (h:Ty w b T) (h':Ty w b' T') (hne:T≠T'):b≠b':=by
 rintro rfl;obtain⟨c,fr,h⟩:=h;obtain⟨c',fr',h'⟩:=h';rw[h] at h';injection h' with h'
 injection h' with _ ht
 exact hne ht
theorem Ty.new' {w:World}{c:Array Value}{T:TypeId}{n:Nat} (hn:n=w.heap.size):Ty (w.alloc (.cells c T)) n T:=by subst hn;exact Ty.new w c T
def bn (T:TypeId) (w w':World):Prop:=∀b,Ty w b T→w'.heap[b]? = w.heap[b]?
theorem bn.rf (T:TypeId) (w:World):bn T w w:=fun _ _=>rfl
theorem bn.of {T:TypeId}{w w':World} (e:Ext w w'):bn T w w':=fun b h=>e.block b h.lt
theorem bn.ty {T:TypeId}{w w':World}{b:Nat} (h:bn T w w') (t:Ty w b T):Ty w' b T:=by
 have hb:=h b t;obtain⟨c,fr,hc⟩:=t;exact⟨c,fr,hb.trans hc⟩
theorem bn.tr {T:TypeId}{a b c:World} (h:bn T a b) (k:bn T b c):bn T a c:=fun x hx=>(k x (h.ty hx)).trans (h x hx)
theorem bn.st {T T':TypeId}{a b:World} (h:bn T a b){p:Addr} (hp:Ty b p.block T') (hne:T≠T') (u:Value):bn T a (b.setCell p u):=
 h.tr fun x hx=>Below.heap_setCell b p u x (hx.ne_ hp hne)
theorem bn.st2 {T T':TypeId}{a w:World}{b:Nat} (h:bn T a w) (t:Ty w b T') (hne:T≠T') (u v:Value):bn T a ((w.setCell ⟨b,0,none⟩ u).setCell ⟨b,1,none⟩ v):=
 (h.st (p:=⟨b,0,none⟩) t hne u).st (p:=⟨b,1,none⟩) (t.st _ _) hne v
theorem Ext.st2 {a w:World}{b:Nat} (h:Ext a w) (hb:a.heap.size≤b) (u v:Value):Ext a ((w.setCell ⟨b,0,none⟩ u).setCell ⟨b,1,none⟩ v):=
 (h.st (p:=⟨b,0,none⟩) hb u).st (p:=⟨b,1,none⟩) hb v
def Sl (w:World) (T:TypeId) (s:SV) (n:Nat) (xs:List Value):Prop:=
 s.len=n∧n≤s.cap∧s.cap≤9223372036854775807∧(0<xs.length→∃b off,s.a=some ⟨b,off,none⟩∧Ty w b T∧∀j,j<xs.length→w.cell? ⟨b,off+j,none⟩=some (xs.getD j undef))
theorem Sl.kept {w w':World}{T:TypeId}{s:SV}{n:Nat}{xs:List Value} (h:Sl w T s n xs) (k:bn T w w'):Sl w' T s n xs:=by
 obtain⟨h1,h2,h3,h4⟩:=h;refine⟨h1,h2,h3,fun hx => ?_⟩;obtain⟨b,off,ha,hb,hc⟩:=h4 hx;exact⟨b,off,ha,k.ty hb,fun j hj=>(World.cell?_of_block (w:=w) (w':=w') (a:=⟨b,off+j,none⟩) (k b hb)).trans (hc j hj)⟩
theorem Sl.keep {w w':World}{T:TypeId}{s:SV}{n:Nat}{xs:List Value} (h:Sl w T s n xs) (k:Ext w w'):Sl w' T s n xs:=h.kept (.of k)
def ET:IntKind→TypeId
 |.u8=>5
 |.u32=>173
 |.i64=>3
 |.u64=>153
 |.i32=>21
 |_=>0
def Fit (k:IntKind) (x:Int):Prop:=match k with
 |.u8=>0≤x∧x≤255
 |.u32=>0≤x∧x≤4294967295
 |.u64=>0≤x∧x≤18446744073709551615
 |.i64 => -9223372036854775808≤x∧x≤9223372036854775807
 |.i32 => -2147483648≤x∧x≤2147483647
 |_=>True
def IsL (w:World) (s:SV) (k:IntKind) (l:List Int):Prop:=
 Sl w (ET k) s l.length (l.map (Value.int k))∧∀x∈l,Fit k x
theorem IsL.keep {w w':World}{s:SV}{k:IntKind}{l:List Int} (h:IsL w s k l) (e:Ext w w'):IsL w' s k l:=⟨h.1.keep e,h.2⟩
theorem IsL.kept {w w':World}{s:SV}{k:IntKind}{l:List Int} (h:IsL w s k l) (e:bn (ET k) w w'):IsL w' s k l:=⟨h.1.kept e,h.2⟩
theorem IsL.fit {w:World}{s:SV}{k:IntKind}{l:List Int} (h:IsL w s k l){i:Nat} (hi:i<l.length):Fit k (at_ l i):=h.2 _ (at_mem hi)
theorem IsL.open_ {w:World}{s:SV}{k:IntKind}{l:List Int} (h:IsL w s k l) :
  ∃ao cap,s=⟨ao,l.length,cap⟩∧l.length≤cap∧cap≤9223372036854775807 ∧
   (0<l.length→∃b off,ao=some ⟨b,off,none⟩∧Ty w b (ET k)∧∀j,j<l.length→w.cell? ⟨b,off+j,none⟩=some (.int k (at_ l j))):=by
 obtain⟨⟨h1,h2,h3,h4⟩,-⟩:=h;obtain⟨ao,n,cap⟩:=s;simp only at h1 h2 h3 h4;subst h1;refine⟨ao,cap,rfl,h2,h3,fun hl => ?_⟩;obtain⟨b,off,ha,hb,hc⟩:=h4 (by simpa using hl);refine⟨b,off,ha,hb,fun j hj => ?_⟩;rw[hc j (by simpa using hj)];simp[at_,hj]
theorem IsL.mk_ {w:World}{ao:Option Addr}{cap:Nat}{k:IntKind}{l:List Int} (h2:l.length≤cap) (h3:cap≤9223372036854775807)
  (h4:0<l.length→∃b off,ao=some ⟨b,off,none⟩∧Ty w b (ET k)∧∀j,j<l.length→w.cell? ⟨b,off+j,none⟩=some (.int k (at_ l j))) (hf:∀x∈l,Fit k x) :
  IsL w ⟨ao,l.length,cap⟩ k l:=by
 refine⟨⟨rfl,h2,h3,fun hl => ?_⟩,hf⟩;obtain⟨b,off,ha,hb,hc⟩:=h4 (by simpa using hl);refine⟨b,off,ha,hb,fun j hj => ?_⟩;rw[hc j (by simpa using hj)];have hj':j<l.length:=by simpa using hj
 simp[at_,hj']
theorem tz (w:World) (k:IntKind):IsL w ⟨none,0,0⟩ k []:=⟨⟨rfl,z95 _,by simp,by simp⟩,by simp⟩
theorem IsL.take {w:World}{ao:Option Addr}{cap cap' n:Nat}{k:IntKind}{l:List Int} (h:IsL w ⟨ao,l.length,cap⟩ k l) (hn:n≤l.length) (hc:n≤cap') (hc':cap'≤9223372036854775807) :
  IsL w ⟨ao,n,cap'⟩ k (l.take n):=by
 have hl:(l.take n).length=n:=by simp;omega
 obtain⟨ao',c',he,h2,h3,h4⟩:=h.open_;simp only[SV.mk.injEq] at he;obtain⟨rfl,-,rfl⟩:=he;have:=IsL.mk_ (w:=w) (ao:=ao) (cap:=cap') (k:=k) (l:=l.take n) (by omega) hc' (fun hp=>by
  obtain⟨b,off,ha,hb,hcell⟩:=h4 (by omega);refine⟨b,off,ha,hb,fun j hj => ?_⟩;rw[hcell j (by omega)];have:j<n:=by omega
  simp[at_,this]) (fun x hx=>h.2 x (z9M hx))
 rw[hl] at this;exact this
theorem oe {k:IntKind}{a b:Int} (h:a=b):Ending.returned (.int k a) = .returned (.int k b):=by rw[h]
theorem tA {a b:Bool} (h:a=b):Ending.returned (.bool a) = .returned (.bool b):=by rw[h]
theorem iz {a b:ByteArray} (h:a=b):Ending.returned (.string a) = .returned (.string b):=by rw[h]
def zig:=And.intro @List.getElem_toArray.{0} (And.intro @List.getElem_cons_zero.{0} (And.intro @List.getElem_cons_succ.{0} (And.intro @Act.put.eq_1 (And.intro @List.setIfInBounds_toArray.{0} (And.intro @List.set_cons_zero.{0} (@List.set_cons_succ.{0}))))))
end Go.Proofs.YtbnhgnhgbhjkcaaGreat
namespace Go.Proofs.YtbnhgnhgbhjkcaaGreat.M
set_option linter.unusedSimpArgs false
open Go.RowKit
theorem aN{a b:Prop}(h:b)(g:a:=by first|omega|(simp;omega)):a∧b:=⟨g,h⟩
theorem an{a b:Prop}(g:a)(h:b):a∧b:=⟨g,h⟩
abbrev Ext (w w':World):Prop:=Below w.heap.size w w'
theorem Ext.rf (w:World):Ext w w:=Below.refl _ _
inductive D where
 |bool (b:Bool)
 |int (k:IntKind) (n:Int)
 |str (s:List UInt8)
 |agg (l:List D)
 |tup (l:List D)
 |list (T:TypeId) (sz:Nat) (l:List D)
 |nilp
 |nils (T:TypeId) (sz:Nat)
 |ref (d:D)
 |fn (f:Fn) (first captured:List D)
instance:Inhabited D:=⟨.int .i64 0⟩
def D.cells:D→List D
 |.agg l=>l
 |d=>[d]
def D.one:D→Bool
 |.agg _=>false
 |.tup _=>false
 |_=>true
def D.isAgg:D→Bool
 |.agg _=>true
 |_=>false
def Hp (w:World) (b:Nat) (c:Array Value) (T:TypeId) (fr:Nat×Nat):Prop:=∃T',w.heap[b]? = some (.cells c T' fr)∧(T'=T∨1000000≤T)
theorem Hp.of {w:World}{b:Nat}{c:Array Value}{T:TypeId}{fr:Nat×Nat} (h:w.heap[b]? = some (.cells c T fr)):Hp w b c T fr:=⟨T,h,.inl rfl⟩
theorem Hp.mono {w w':World}{b:Nat}{c:Array Value}{T:TypeId}{fr:Nat×Nat} (h:Hp w b c T fr) (hs:w'.heap[b]? = w.heap[b]?):Hp w' b c T fr:=h.elim fun T' h=>⟨T',hs.trans h.1,h.2⟩
inductive V (w:World) (N:Nat→Prop):Value→D→Prop where
 |bool (b:Bool):V w N (.bool b) (.bool b)
 |int (k:IntKind) (n:Int):V w N (.int k n) (.int k n)
 |str (s:ByteArray):V w N (.string s) (.str s.data.toList)
 |agg (cs:Array Value) (l:List D):cs.size=l.length→(∀d∈l,d.one=true)→(∀i d,l[i]? = some d→V w N (cs.getD i undef) d)→V w N (.agg cs) (.agg l)
 |tup (cs:Array Value) (l:List D):cs.size=l.length→(∀i d,l[i]? = some d→V w N (cs.getD i undef) d)→V w N (.tuple cs) (.tup l)
 |empty (a:Option Addr) (cap:Nat) (T:TypeId) (sz:Nat):cap≤9223372036854775807→V w N (.slice a 0 cap) (.list T sz [])
 |list (b o cap:Nat) (T:TypeId) (sz:Nat) (l:List D) (c:Array Value) (fr:Nat×Nat):Hp w b c T fr→N b→l.length≤cap→cap≤9223372036854775807 →
   (∀e∈l,e.cells.length=sz∧∀q∈e.cells,q.one=true)→(∀i e j d,l[i]? = some e→e.cells[j]? = some d→o+(i*sz+j)<c.size) →
   (∀i e j d,l[i]? = some e→e.cells[j]? = some d→V w N (c.getD (o+(i*sz+j)) undef) d)→V w N (.slice (some ⟨b,o,none⟩) l.length cap) (.list T sz l)
 |nilp:V w N (.pointer none) .nilp
 |nils (T:TypeId) (sz:Nat):V w N (.slice none 0 0) (.nils T sz)
 |ref (b o:Nat) (T:TypeId) (e:D) (c:Array Value) (fr:Nat×Nat):w.heap[b]? = some (.cells c T fr)→N b→(∀q∈e.cells,q.one=true)→(∀j d,e.cells[j]? = some d→o+j<c.size)→(∀j d,e.cells[j]? = some d→V w N (c.getD (o+j) undef) d) →
   V w N (.pointer (some ⟨b,o,none⟩)) (.ref e)
 |fn (f:Fn) (x y:Array Value) (l m:List D):x.size=l.length→y.size=m.length→(∀i d,l[i]? = some d→V w N (x.getD i undef) d)→(∀i d,m[i]? = some d→V w N (y.getD i undef) d)→V w N (.func f x y) (.fn f l m)
theorem V.mono {w w':World}{N N':Nat→Prop}{v:Value}{d:D} (h:V w N v d) (hs:∀b,N b→w'.heap[b]? = w.heap[b]?) (hn:∀b,N b→N' b):V w' N' v d:=by
 induction h with
 |bool b=>exact .bool b
 |int k n=>exact .int k n
 |str s=>exact .str s
 |agg cs l h1 h2 _ ih=>exact .agg cs l h1 h2 ih
 |tup cs l h1 _ ih=>exact .tup cs l h1 ih
 |empty a cap T sz h=>exact .empty a cap T sz h
 |list b o cap T sz l c fr h1 h2 h3 h4 h5 h6 _ ih=>exact .list b o cap T sz l c fr (h1.mono (hs b h2)) (hn b h2) h3 h4 h5 h6 ih
 |nilp=>exact .nilp
 |nils T sz=>exact .nils T sz
 |ref b o T e c fr h1 h2 h3 h4 _ ih=>exact .ref b o T e c fr ((hs b h2).trans h1) (hn b h2) h3 h4 ih
 |fn f x y l m h1 h2 _ _ ih1 ih2=>exact .fn f x y l m h1 h2 ih1 ih2
theorem V.one {w:World}{N:Nat→Prop}{v:Value}{d:D} (h:V w N v d) (ho:d.one=true):v.oneCell'=true:=by
 cases h<;>first | rfl | simp[D.one] at ho
theorem V.cells {w:World}{N:Nat→Prop}{v:Value}{d:D} (h:V w N v d) (ht:∀l,d≠.tup l):v.cells.size=d.cells.length∧∀i e,d.cells[i]? = some e→e.one=true∧V w N (v.cells.getD i undef) e:=by
 cases h with
 |agg cs l h1 h2 h3=>exact⟨h1,fun i e he=>⟨h2 e (z90 he),h3 i e he⟩⟩
 |tup cs l=>exact absurd rfl (ht l)
 |_ =>
  refine⟨rfl,fun i e he => ?_⟩
  match i,he with
  |0,he =>
   simp only[D.cells,List.getElem?_cons_zero,z99] at he;subst he;refine⟨rfl,?_⟩;simp only[Value.cells,z9Y,List.getElem?_toArray,List.getElem?_cons_zero,Option.getD_some];first
    |exact .bool _
    |exact .int _ _
    |exact .str _
    |exact .empty _ _ _ _ ‹_›
    |exact .list _ _ _ _ _ _ _ _ ‹_› ‹_› ‹_› ‹_› ‹_› ‹_› ‹_›
    |exact .nilp
    |exact .nils _ _
    |exact .ref _ _ _ _ _ _ ‹_› ‹_› ‹_› ‹_› ‹_›
    |exact .fn _ _ _ _ _ ‹_› ‹_› ‹_› ‹_›
  |i+1,he=>simp[D.cells] at he
end Go.Proofs.YtbnhgnhgbhjkcaaGreat.M
namespace Go.Proofs.YtbnhgnhgbhjkcaaGreat.Mp
set_option linter.unusedSimpArgs false
abbrev Mo:=List Int
abbrev TL:=List (Rat×Mo)
def gtL:List Int→List Int→Bool
 |a::l,b::m=>if a=b then gtL l m else decide (b<a)
 |_,_=>false
theorem gtL_self:∀l:List Int,gtL l l=false
 |[]=>rfl
 |a::l=>by rw[gtL,if_pos rfl];exact gtL_self l
theorem uk:∀{l m:List Int},gtL l m=true→gtL m l=false
 |a::l,b::m,h=>by
  rw[gtL] at h ⊢;by_cases e:a=b
  ·rw[if_pos e] at h;rw[if_pos e.symm];exact uk h
  ·rw[if_neg e,z8T] at h;rw[if_neg (fun h=>e h.symm),decide_eq_false_iff_not];omega
 |[],[],h=>by simp[gtL] at h
 |[],_::_,h=>by simp[gtL] at h
 |_::_,[],h=>by simp[gtL] at h
theorem ul:∀{l m n:List Int},gtL l m=true→gtL m n=true→gtL l n=true
 |a::l,b::m,c::n,h,k=>by
  rw[gtL] at h k ⊢;by_cases e:a=b
  ·rw[if_pos e] at h;subst e;by_cases f:a=c
   ·rw[if_pos f] at k ⊢;exact ul h k
   ·rw[if_neg f] at k ⊢;exact k
  ·rw[if_neg e,z8T] at h;by_cases f:b=c
   ·subst f;rw[if_neg e,z8T];exact h
   ·rw[if_neg f,z8T] at k;rw[if_neg (by omega),z8T];omega
 |[],[],_,h,_=>by simp[gtL] at h
 |[],_::_,_,h,_=>by simp[gtL] at h
 |_::_,[],_,h,_=>by simp[gtL] at h
 |_::_,_::_,[],_,k=>by simp[gtL] at k
theorem uo:∀{l m:List Int},l.length=m.length→gtL l m=false→gtL m l=false→l=m
 |[],[],_,_,_=>rfl
 |a::l,b::m,hl,h,k=>by
  rw[gtL] at h k;by_cases e:a=b
  ·rw[if_pos e] at h;rw[if_pos e.symm] at k;rw[e,uo (by simpa using hl) h k]
  ·rw[if_neg e,decide_eq_false_iff_not] at h;rw[if_neg (fun h=>e h.symm),decide_eq_false_iff_not] at k;omega
def key (ord:Int) (e:Mo):List Int:=if ord=0 then e else if ord=2 then e.sum::(e.reverse.map fun x => -x) else e.sum::e
def ahead (ord:Int) (a b:Mo):Bool:=gtL (key ord a) (key ord b)
theorem Z7 {ord:Int}{a b:Mo} (h:a.length=b.length):(key ord a).length=(key ord b).length:=by
 unfold key;split
 ·exact h
 ·split<;>simp[h]
theorem Z8 {ord:Int}{a b:Mo} (h:key ord a=key ord b):a=b:=by
 unfold key at h;split at h
 ·exact h
 ·split at h
  ·have h2:=(List.cons.inj h).2;have h3:=List.map_inj_right (f:=fun x:Int => -x) (fun x y e=>by simpa using e) |>.1 h2
   exact List.reverse_inj.1 h3
  ·exact (List.cons.inj h).2
theorem uq (ord:Int) (a:Mo):ahead ord a a=false:=gtL_self _
theorem ahead_asymm {ord:Int}{a b:Mo} (h:ahead ord a b=true):ahead ord b a=false:=uk h
theorem ahead_trans {ord:Int}{a b c:Mo} (h:ahead ord a b=true) (k:ahead ord b c=true):ahead ord a c=true:=ul h k
theorem ahead_tot {ord:Int}{a b:Mo} (hl:a.length=b.length) (h:ahead ord a b=false) (k:ahead ord b a=false):a=b:=Z8 (uo (Z7 hl) h k)
def Sf (f:Mo→Rat):TL→Rat
 |[]=>0
 |x::l=>x.1*f x.2+Sf f l
def cf (l:TL) (e:Mo):Rat:=Sf (fun q=>if q=e then 1 else 0) l
theorem Sf_nil (f:Mo→Rat):Sf f []=0:=rfl
theorem Sf_cons (f:Mo→Rat) (x:Rat×Mo) (l:TL):Sf f (x::l)=x.1*f x.2+Sf f l:=rfl
theorem Sf_app (f:Mo→Rat):∀l m:TL,Sf f (l++m)=Sf f l+Sf f m
 |[],m=>by simp[Sf,Rat.zero_add]
 |x::l,m=>by rw[List.cons_append,Sf,Sf,Sf_app f l m,Rat.add_assoc]
theorem us (f:Mo→Rat){l m:TL} (h:l.Perm m):Sf f l=Sf f m:=by
 induction h with
 |nil=>rfl
 |cons x _ ih=>rw[Sf,Sf,ih]
 |swap x y l=>simp only[Sf];grind
 |trans _ _ h1 h2=>exact h1.trans h2
theorem oJ {f g:Mo→Rat}:∀{l:TL},(∀x∈l,f x.2=g x.2)→Sf f l=Sf g l
 |[],_=>rfl
 |x::l,h=>by rw[Sf,Sf,h x z9X,oJ fun y hy=>h y (z9T _ hy)]
theorem oK (c:Rat) (f:Mo→Rat):∀l:TL,Sf (fun e=>c*f e) l=c*Sf f l
 |[]=>by simp[Sf,Rat.mul_zero]
 |x::l=>by rw[Sf,Sf,oK c f l];grind
theorem oL (f:Mo→Rat) (e:Mo):∀l:TL,Sf f l=cf l e*f e+Sf f (l.filter fun x=>x.2≠e)
 |[]=>by simp[Sf,cf];grind
 |x::l=>by
  have ih:=oL f e l;unfold cf at ih ⊢;by_cases h:x.2=e
  ·rw[List.filter_cons_of_neg (by simpa using h),Sf,Sf,if_pos h,h];grind
  ·rw[List.filter_cons_of_pos (by simpa using h),Sf,Sf,Sf,if_neg h];grind
theorem Z9 (l:TL) (e q:Mo):cf (l.filter fun x=>x.2≠e) q=if q=e then 0 else cf l q:=by
 have h:=oL (fun x=>if x=q then 1 else 0) e l;unfold cf;by_cases hq:q=e
 ·rw[if_pos hq];subst hq;rw[if_pos rfl] at h;unfold cf at h;grind
 ·rw[if_neg hq];rw[if_neg (fun h=>hq h.symm)] at h;unfold cf at h;grind
theorem ut (f:Mo→Rat):∀(n:Nat) (l:TL),l.length≤n→(∀e,cf l e=0)→Sf f l=0
 |_,[],_,_=>rfl
 |n+1,x::l,hn,h=>by
  rw[oL f x.2 (x::l),h x.2];have:=ut f n ((x::l).filter fun y=>y.2≠x.2) (by
   rw[List.filter_cons_of_neg (by simp)];have:=List.length_filter_le (fun y:Rat×Mo=>decide (y.2≠x.2)) l;simp at hn;omega) (fun e=>by
   rw[Z9];by_cases he:e=x.2
   ·rw[if_pos he]
   ·rw[if_neg he];exact h e)
  rw[this,Rat.zero_mul,Rat.add_zero]
 |0,x::l,hn,_=>by simp at hn
def neg (l:TL):TL:=l.map fun x=>(-x.1,x.2)
theorem oM (f:Mo→Rat):∀l:TL,Sf f (neg l) = - Sf f l
 |[]=>by simp[neg,Sf]
 |x::l=>by
  have:=oM f l;unfold neg at this ⊢;rw[z89,Sf,Sf,this];grind
theorem Sf_eq (f:Mo→Rat){l m:TL} (h:∀e,cf l e=cf m e):Sf f l=Sf f m:=by
 have:=ut f _ (l++neg m) (z95 _) fun e=>by
  unfold cf at h ⊢;rw[Sf_app,oM,h e];grind
 rw[Sf_app,oM] at this;grind
structure Can (ord:Int) (l:TL):Prop where
 so:l.Pairwise fun x y=>ahead ord x.2 y.2=true
 nz:∀x∈l,x.1≠0
theorem oN {ord:Int}{e:Mo}:∀{l:TL},(∀x∈l,ahead ord e x.2=true)→cf l e=0
 |[],_=>rfl
 |x::l,h=>by
  have ih:=oN (l:=l) fun y hy=>h y (z9T _ hy)
  unfold cf at ih ⊢;have hx:x.2≠e:=fun hh=>by
   have:=h x z9X;rw[hh,uq] at this;cases this
  rw[Sf,if_neg hx,ih];grind
theorem Can.tail {ord:Int}{x:Rat×Mo}{l:TL} (h:Can ord (x::l)):Can ord l:=⟨(z9g.1 h.so).2,fun y hy=>h.nz y (z9T _ hy)⟩
theorem Can.head {ord:Int}{x:Rat×Mo}{l:TL} (h:Can ord (x::l)):cf (x::l) x.2=x.1:=by
 have:=oN (l:=l) (z9g.1 h.so).1;unfold cf at this ⊢;rw[Sf,if_pos rfl,this];grind
theorem Can.uniq {ord:Int}{n:Nat}:∀{l m:TL},Can ord l→Can ord m→(∀x∈l,x.2.length=n)→(∀x∈m,x.2.length=n)→(∀e,cf l e=cf m e)→l=m
 |[],[],_,_,_,_,_=>rfl
 |[],y::m,_,hm,_,_,h=>by
  have:=h y.2;rw[hm.head] at this;exact absurd this.symm (hm.nz y z9X)
 |x::l,[],hl,_,_,_,h=>by
  have:=h x.2;rw[hl.head] at this;exact absurd this (hl.nz x z9X)
 |x::l,y::m,hl,hm,nl,nm,h=>by
  have hb:∀{x y:Rat×Mo}{l m:TL},Can ord (x::l)→Can ord (y::m)→(∀e,cf (x::l) e=cf (y::m) e)→ahead ord x.2 y.2=true→False:=fun {x y l m} hl hm h ha=>by
   have h1:=h x.2;rw[hl.head,oN (ord:=ord) (l:=y::m)] at h1
   ·exact hl.nz x z9X h1
   ·intro z hz;rcases z9L.1 hz with rfl | hz
    ·exact ha
    ·exact ahead_trans ha ((z9g.1 hm.so).1 z hz)
  have e:x.2=y.2:=by
   refine ahead_tot (ord:=ord) (by rw[nl x z9X,nm y z9X]) ?_ ?_
   ·exact Bool.eq_false_iff.2 fun ha=>hb hl hm h ha
   ·exact Bool.eq_false_iff.2 fun ha=>hb hm hl (fun e=>(h e).symm) ha
  have e1:x.1=y.1:=by
   have:=h x.2;rw[hl.head,e,hm.head] at this;exact this
  have exy:x=y:=Prod.ext e1 e;subst exy;rw[Can.uniq hl.tail hm.tail (fun z hz=>nl z (z9T _ hz)) (fun z hz=>nm z (z9T _ hz)) fun q=>by
   have:=h q;unfold cf at this ⊢;rw[Sf,Sf] at this;grind]
end Go.Proofs.YtbnhgnhgbhjkcaaGreat.Mp
namespace Go.Proofs.YtbnhgnhgbhjkcaaGreat.M
set_option linter.unusedSimpArgs false
def cf (l:List Rat) (i:Nat):Rat:=l.getD i 0
def Nf (l:List Rat):Prop:=l=[]∨cf l (l.length-1)≠0
theorem cf_nil (i:Nat):cf [] i=0:=rfl
def evQ (l:List Rat) (x:Rat):Rat:=match l with
 |[]=>0
 |a::l=>a+x*evQ l x
theorem cf_cons (a:Rat) (l:List Rat) (i:Nat):cf (a::l) i=match i with | 0=>a | i+1=>cf l i:=by cases i<;>rfl
structure DivQ (p d q r:List Rat):Prop where
 nq:Nf q
 nr:Nf r
 eq:∀x,evQ p x=evQ q x*evQ d x+evQ r x
 lt:r.length<d.length
def Db (D H:Nat) (x:Rat):Prop:=0<D∧∃k:Int,x*(D:Rat)=(k:Rat)∧k.natAbs≤H
theorem Db.mono {D H H':Nat}{x:Rat} (h:Db D H x) (hH:H≤H'):Db D H' x:=⟨h.1,h.2.elim fun k hk=>⟨k,hk.1,z9E hk.2 hH⟩⟩
theorem Db.add {D H H':Nat}{x y:Rat} (h:Db D H x) (h':Db D H' y):Db D (H+H') (x+y):=by
 obtain⟨h0,k,e,b⟩:=h;obtain⟨_,k',e',b'⟩:=h';refine⟨h0,k+k',?_,by omega⟩;rw[Rat.intCast_add,←e,←e'];grind
theorem Db.mul {D H E G:Nat}{x y:Rat} (h:Db D H x) (h':Db E G y):Db (D*E) (H*G) (x*y):=by
 obtain⟨h0,k,e,b⟩:=h;obtain⟨h0',k',e',b'⟩:=h';refine⟨Nat.mul_pos h0 h0',k*k',?_,by rw[Int.natAbs_mul];exact z82 b b'⟩;rw[Rat.intCast_mul,←e,←e',Rat.natCast_mul];grind
theorem Db.up {D H:Nat}{x:Rat} (h:Db D H x){E:Nat} (hE:0<E):Db (D*E) (H*E) x:=by
 obtain⟨h0,k,e,b⟩:=h;refine⟨Nat.mul_pos h0 hE,k*E,?_,by rw[Int.natAbs_mul];exact z82 b (by simp)⟩;rw[Rat.intCast_mul,←e,Rat.natCast_mul,Rat.intCast_natCast];grind
theorem Db.zero {D:Nat} (hD:0<D) (H:Nat):Db D H 0:=⟨hD,0,by simp,by simp⟩
def Bq (n:Nat) (x:Rat):Prop:=x.num.natAbs<2^n∧x.den<2^n
theorem Bq.mono {n m:Nat}{x:Rat} (h:Bq n x) (hm:n≤m):Bq m x:=
 ⟨z9n h.1 (z9j (by omega) hm),z9n h.2 (z9j (by omega) hm)⟩
theorem Bq.zero (n:Nat) (hn:0<n):Bq n 0:=⟨by simp;exact Nat.pow_pos (by omega),by simpa using Nat.one_lt_two_pow (by omega)⟩
theorem Db.of_self (x:Rat):Db x.den x.num.natAbs x:=⟨x.den_pos,x.num,by
 have:=Rat.mkRat_self x;rw[Rat.mkRat_eq_div] at this;have hd:((x.den:Nat):Rat)≠0:=by rw[ne_eq,Rat.natCast_eq_zero_iff];exact x.den_nz
 have h2:=Rat.div_mul_cancel (a:=(x.num:Rat)) hd;rw[this] at h2;exact h2,z95 _⟩
theorem Db.bq {D H:Nat}{x:Rat} (h:Db D H x):x.num.natAbs≤H∧x.den≤D:=by
 obtain⟨h0,k,e,b⟩:=h;have hD:(D:Rat)≠0:=by rw[ne_eq,Rat.natCast_eq_zero_iff];omega
 have hx:x=mkRat k D:=by rw[Rat.mkRat_eq_div,←e];grind
 constructor
 ·rw[hx,Rat.num_mkRat,if_neg (by omega)];refine z9E ?_ b;rw[Int.natAbs_ediv_of_dvd (Int.ofNat_dvd_left.2 (Nat.gcd_dvd_right ..))];exact Nat.div_le_self ..
 ·rw[hx,Rat.den_mkRat,if_neg (by omega)];exact Nat.div_le_self ..
theorem Db.Bq {D H n:Nat}{x:Rat} (h:Db D H x) (hD:D<2^n) (hH:H<2^n):Bq n x:=⟨z9K h.bq.1 hH,z9K h.bq.2 hD⟩
def Lb (D H:Nat) (l:List Rat):Prop:=∀i,Db D H (cf l i)
theorem Lb.of {D H:Nat}{l:List Rat} (hD:0<D) (h:∀x∈l,Db D H x):Lb D H l:=fun i=>by
 unfold cf;rw[z91];cases e:l[i]? with
 |none=>exact Db.zero hD H
 |some x=>exact h x (z90 e)
theorem Lb.mem {D H:Nat}{l:List Rat} (h:Lb D H l){x:Rat} (hx:x∈l):Db D H x:=by
 obtain⟨i,hi,rfl⟩:=z85.1 hx;have:=h i;simpa[cf,hi] using this
def dZ (l:List Rat):Nat:=(l.map Rat.den).foldr (· * ·) 1
theorem lN:∀l:List Rat,0<dZ l
 |[]=>by simp[dZ]
 |x::l=>Nat.mul_pos x.den_pos (lN l)
theorem zay {l:List Rat}{x:Rat} (h:x∈l):∃E,0<E∧dZ l=x.den*E:=by
 induction l with
 |nil=>cases h
 |cons y l ih =>
  have e:dZ (y::l)=y.den*dZ l:=rfl;rcases z9L.1 h with rfl | h
  ·exact⟨dZ l,lN l,e⟩
  ·obtain⟨E,h1,h2⟩:=ih h;exact⟨y.den*E,Nat.mul_pos y.den_pos h1,by rw[e,h2,Nat.mul_left_comm]⟩
theorem uz {n:Nat}{l:List Rat} (h:∀x∈l,x.den≤2^n):dZ l≤2^(n*l.length):=by
 induction l with
 |nil=>simp[dZ]
 |cons y l ih =>
  have e:dZ (y::l)=y.den*dZ l:=rfl;rw[e,List.length_cons,Nat.mul_succ,z9p,z8U];exact z82 (ih fun x hx=>h x (by simp[hx])) (h y (by simp))
theorem Lb.of_bq {n:Nat}{l:List Rat} (h:∀x∈l,Bq n x):Lb (dZ l) (2^(n+n*l.length)) l:=by
 refine Lb.of (lN l) fun x hx => ?_
 obtain⟨E,h1,h2⟩:=zay hx;rw[h2];refine ((Db.of_self x).up h1).mono ?_;rw[z9p];refine z82 (Nat.le_of_lt (h x hx).1) ?_;refine z9E ?_ (uz fun x hx=>Nat.le_of_lt (h x hx).2);rw[h2];exact Nat.le_mul_of_pos_left _ x.den_pos
end Go.Proofs.YtbnhgnhgbhjkcaaGreat.M
