/- A call's variables: which blocks they are, what they hold. The reference's ZParse. NumReckons: the walk. Regions that draw their order: what the cells hold till a store comes; one operation 'append(own, more...)'. Numbers in the small machine's words: what reads as a number, and contracts turned. -/
import Derived.Test.YtkidkimjdiichaaGreatGcdw
import Derived.Test.YtkidkimjdiichaaGreatZRw
import Derived.Test.YtkidkimjdiichaaGreatZMw
import Derived.Test.YtkidkimjdiichaaGreatZTw
import Derived.Test.YtkidkimjdiichaaGreatK1w
import Derived.Test.YtkidkimjdiichaaGreatK4w
section
namespace Go.Proofs.YtkidkimjdiichaaGreat
open Go.RowKit
def St (w wc:World) (L:List (Nat × TypeId × Array Value)):Prop:=
 Ext w wc∧(L.map (·.1)).Pairwise (· > ·)∧∀ e∈L,w.heap.size≤e.1∧Box wc e.1 e.2.1 e.2.2
theorem Box.set1 {w:World} {n:Nat} {T:TypeId} {vs:Array Value} (h:Box w n T vs) (k:Nat) (u:Value):Box (w.setCell ⟨n,k,none⟩ u) n T (vs.setIfInBounds k u):=by
 unfold Box at h ⊢
 simp[World.setCell,Array.getElem?_modify,h]
section
variable {w wc w':World} {L:List (Nat × TypeId × Array Value)} {n i k:Nat} {T:TypeId} {vs:Array Value}
def Desc:List (Nat × TypeId × Array Value)→Prop
 | []=>True
 | [_]=>True
 | a::b::t=>b.1<a.1∧Desc (b::t)
theorem Desc.of:∀ {L:List (Nat × TypeId × Array Value)},(L.map (·.1)).Pairwise (· > ·)→Desc L
 | [],_=>trivial
 | [_],_=>trivial
 | a::b::t,h=>by
  rw[List.map_cons,List.pairwise_cons] at h
  exact⟨h.1 _ (by simp),Desc.of h.2⟩
theorem St.desc (h:St w wc L):Desc L:=.of h.2.1
theorem St.nil (w:World):St w w []:=⟨Ext.rf w,by simp,fun e he=>by cases he⟩
theorem St.ext (h:St w wc L):Ext w wc:=h.1
theorem St.keep (h:St w wc L) (e:Ext wc w'):St w w' L:=⟨h.1.tr e,h.2.1,fun x hx=>⟨(h.2.2 x hx).1,(h.2.2 x hx).2.keep e⟩⟩
theorem St.add (h:St w wc L) (vs:Array Value) (T:TypeId):St w (wc.alloc (.cells vs T)) ((wc.heap.size,T,vs)::L):=by
 refine⟨h.1.al _,?_,?_⟩
 ·rw[List.map_cons,List.pairwise_cons]
  refine⟨fun m hm => ?_,h.2.1⟩
  obtain⟨e,he,rfl⟩:=List.mem_map.1 hm
  exact (h.2.2 e he).2.lt
 ·intro e he
  rcases List.mem_cons.1 he with rfl | he
  ·exact⟨h.1.size,Box.new rfl⟩
  ·exact⟨(h.2.2 e he).1,(h.2.2 e he).2.al _⟩
theorem St.add' (h:St w wc L) {vs:Array Value} {T:TypeId} (hn:n=wc.heap.size):St w (wc.alloc (.cells vs T)) ((n,T,vs)::L):=by subst hn;exact h.add vs T
theorem St.own (h:St w wc L) (hb:Box wc n T vs) (hw:w.heap.size≤n) (hn:∀ e∈L,e.1<n):St w wc ((n,T,vs)::L):=by
 refine⟨h.1,?_,?_⟩
 ·rw[List.map_cons,List.pairwise_cons]
  refine⟨fun m hm => ?_,h.2.1⟩
  obtain⟨e,he,rfl⟩:=List.mem_map.1 hm
  exact hn e he
 ·intro e he
  rcases List.mem_cons.1 he with rfl | he
  ·exact⟨hw,hb⟩
  ·exact h.2.2 e he
theorem St.own' {w2:World} (h:St w wc L) (e:Ext wc w2) (hb:Box w2 n T vs) (hn:n=wc.heap.size):St w w2 ((n,T,vs)::L):=by
 subst hn
 exact (h.keep e).own hb h.1.size (fun x hx=>(h.2.2 x hx).2.lt)
theorem St.box (h:St w wc L) (i:Nat) (hi:L[i]? = some (n,T,vs)):Box wc n T vs:=(h.2.2 _ (List.mem_of_getElem? hi)).2
theorem St.ge (h:St w wc L) (i:Nat) (hi:L[i]? = some (n,T,vs)):w.heap.size≤n:=(h.2.2 _ (List.mem_of_getElem? hi)).1
theorem St.lt (h:St w wc L) (i:Nat) (hi:L[i]? = some (n,T,vs)):n<wc.heap.size:=(h.box i hi).lt
theorem St.ne (h:St w wc L) (i j:Nat) {m:Nat} {U:TypeId} {us:Array Value} (hi:L[i]? = some (n,T,vs)) (hj:L[j]? = some (m,U,us)) (hij:i≠j):n≠m:=by
 rintro rfl
 have h1:(L.map (·.1))[i]? = some n:=by rw[List.getElem?_map,hi];rfl
 have h2:(L.map (·.1))[j]? = some n:=by rw[List.getElem?_map,hj];rfl
 exact hij ((List.getElem?_inj (List.getElem?_eq_some_iff.1 h1).1 (h.2.1.imp (fun h e=>by omega))).1 (h1.trans h2.symm))
theorem St.set1 (h:St w wc L) (i:Nat) (hi:L[i]? = some (n,T,vs)) (k:Nat) (u:Value):St w (wc.setCell ⟨n,k,none⟩ u) (L.set i (n,T,vs.setIfInBounds k u)):=by
 refine⟨h.1.st (h.ge i hi) _,?_,?_⟩
 ·have:(L.set i (n,T,vs.setIfInBounds k u)).map (·.1)=L.map (·.1):=by
   rw[List.map_set]
   apply List.ext_getElem?
   intro j
   rw[List.getElem?_set]
   split
   ·rename_i e
    subst e
    have hl:=(List.getElem?_eq_some_iff.1 hi).1
    rw[if_pos (by simpa using hl),List.getElem?_map,hi]
    rfl
   ·rfl
  rw[this];exact h.2.1
 ·intro e he
  obtain⟨j,hj⟩:=List.mem_iff_getElem?.1 he
  by_cases hij:i=j
  ·subst hij
   have hl:=(List.getElem?_eq_some_iff.1 hi).1
   rw[List.getElem?_set_self hl] at hj
   injection hj with hj
   subst hj
   exact⟨h.ge i hi,(h.box i hi).set1 _ _⟩
  ·rw[List.getElem?_set_ne hij] at hj
   have hm:=h.2.2 e (List.mem_of_getElem? hj)
   exact⟨hm.1,hm.2.far (h.ne j i hj hi (fun e=>hij e.symm)) _⟩
theorem St.set2 (h:St w wc L) (i:Nat) {a b:Value} (hi:L[i]? = some (n,T,#[a,b])) (u v:Value):St w ((wc.setCell ⟨n,0,none⟩ u).setCell ⟨n,1,none⟩ v) (L.set i (n,T,#[u,v])):=by
 have h1:=h.set1 i hi 0 u
 have hl:=(List.getElem?_eq_some_iff.1 hi).1
 have h2:=h1.set1 i (n:=n) (T:=T) (vs:=#[u,b]) (by rw[List.getElem?_set_self hl];rfl) 1 v
 rw[List.set_set] at h2
 exact h2
theorem St.facts (h:St w wc L) (i:Nat) {a b:Value} (hi:L[i]? = some (n,T,#[a,b])):wc.cell? ⟨n,0,none⟩=some a∧wc.cell? ⟨n,1,none⟩=some b∧wc.frozen? ⟨n,0,none⟩=false∧wc.frozen? ⟨n,1,none⟩=false:=(h.box i hi).facts
theorem St.kept2 (h:St w wc L) (i:Nat) {U:TypeId} (hi:L[i]? = some (n,T,vs)) (hT:U≠T) (u v:Value):Kept U wc ((wc.setCell ⟨n,0,none⟩ u).setCell ⟨n,1,none⟩ v):=(Kept.rf _ _).st2 (h.box i hi).ty hT u v
end
end Go.Proofs.YtkidkimjdiichaaGreat
end
section
namespace Go.Proofs.YtkidkimjdiichaaGreat.Z4
open Go.RowKit
end Go.Proofs.YtkidkimjdiichaaGreat.Z4
end
section
namespace Go.Proofs.YtkidkimjdiichaaGreat
open Go.RowKit
end Go.Proofs.YtkidkimjdiichaaGreat
end
section
namespace Go.Proofs.YtkidkimjdiichaaGreat
open Go.RowKit
def Cs (w:World) (L:List (Nat × Nat × Value)):Prop:=∀ e∈L,w.cell? ⟨e.1,e.2.1,none⟩=some e.2.2
section
variable {w w':World} {L:List (Nat × Nat × Value)}
theorem Cs.nil (w:World):Cs w []:=fun e he=>by cases he
theorem Cs.cons {b k:Nat} {v:Value} (h:w.cell? ⟨b,k,none⟩=some v) (t:Cs w L):Cs w ((b,k,v)::L):=fun e he=>by
 rcases List.mem_cons.1 he with rfl | he
 ·exact h
 ·exact t e he
theorem cs_cons {b k:Nat} {v:Value}:Cs w ((b,k,v)::L)↔w.cell? ⟨b,k,none⟩=some v∧Cs w L:=
 ⟨fun h=>⟨h _ (.head _),fun e he=>h e (.tail _ he)⟩,fun h=>Cs.cons h.1 h.2⟩
theorem cs_nil:Cs w []↔True:=⟨fun _=>trivial,fun _=>Cs.nil w⟩
def Off (n:Nat):List (Nat × Nat × Value)→Prop
 | []=>True
 | e::t=>n≠e.1∧Off n t
theorem Off.mem {n:Nat} (h:Off n L):∀ e∈L,n≠e.1:=by
 induction L with
 | nil=>intro e he;cases he
 | cons x t ih =>
  intro e he
  rcases List.mem_cons.1 he with rfl | he
  ·exact h.1
  ·exact ih h.2 e he
theorem Cs.st2 {n:Nat} (h:Cs w L) (hn:Off n L) (u v:Value):Cs ((w.setCell ⟨n,0,none⟩ u).setCell ⟨n,1,none⟩ v) L:=fun e he=>cell_st2' (h e he) (hn.mem e he) _ _
theorem Cs.st1 {n k:Nat} (h:Cs w L) (hn:Off n L) (u:Value):Cs (w.setCell ⟨n,k,none⟩ u) L:=fun e he=>by
 rw[World.cell?_setCell_other _ _ _ _ (by intro e';have:=hn.mem e he;rw[Addr.mk.injEq] at e';omega)]
 exact h e he
end
theorem run_append_none_any {P:Program} {w:World} (base:Nat) (t ty e:TypeId) (i:TypeInfo) (size:Nat) (c:Nat) (ht:P.underlying t=some (.slice e)) (hi:P.info? e=some i)
  (v:Value) (n:Nat) (xs:List Value) (hown:w.ownsRow base e size v n xs) :
  (Builtin.append_ #[t,t] ty #[v,.slice none 0 c]).run P w = .ok v w:=by
 rcases hown.2 with⟨rfl,rfl⟩ | ⟨g,cap,cur,rfl,_,_,hnc,_⟩
 ·simp[Builtin.append_,run_underlying ht,sizeOf,typeInfo,hi,Builtin.lenOf,Builtin.firstCells]
 ·simp[Builtin.append_,run_underlying ht,sizeOf,typeInfo,hi,Builtin.lenOf,Builtin.firstCells,hnc,storeCells]
theorem op_appN {P:Program} (w:World) {o:Oper} {a:Act} {K:Act→World→Prop} {Q:Exit→Act→World→Prop} (sl x:Operand) (t:TypeId)
  (ho:o.op = .call { callee:=.builtin .append,args:=#[sl,x],argTypes:=#[t,t] })
  (k:IntKind) (bytes:Nat) (ht:P.underlying t=some (.slice (ET k))) (hinfo:(P.info? (ET k)).map (fun i=>(i.zero,i.size,i.bytes))=some (some (.int k 0),1,bytes))
  (W0:World) (s u:SV) (l m:List Int) (hs:a.eval sl = .slice s.a s.len s.cap) (hx:a.eval x = .slice u.a u.len u.cap) (hown:Rw w W0.heap.size k s l) (hu:IsL w u k m) (hE:Ext W0 w)
  (hb:(l.length+m.length)*bytes≤140737488355328) (h63:l.length+m.length≤9223372036854775807)
  (h:∀ (s':SV) (w':World),Rw w' W0.heap.size k s' (l++m)→Ext W0 w'→K (a.put o.dst (.slice s'.a s'.len s'.cap)) w') :
  o.wp P a w K Q:=by
 obtain⟨i,hi,hz0,hz1,hz2⟩:=info_parts hinfo
 obtain⟨ao,cap,rfl,hc1,hc2,hop⟩:=hu.open_
 rcases ao with _ | ad
 ·have h0:m.length=0:=by
   rcases Nat.eq_zero_or_pos m.length with h0 | h0
   ·exact h0
   ·obtain⟨b,off,ha,_⟩:=hop h0
    cases ha
  have hm:m=[]:=List.eq_nil_of_length_eq_zero h0
  subst hm
  have hrun:=run_append_none_any (P:=P) (w:=w) W0.heap.size t o.type (ET k) i 1 cap ht hi (.slice s.a s.len s.cap) l.length (l.map (Value.int k)) hown
  unfold Oper.wp
  simp[execOp,ho,resolve,invoke,builtin,hs,hx,hrun,Result.andThen]
  exact h s w (by simpa using hown) hE
 ·refine wp_append_own (P:=P) w sl x t ho W0.heap.size (ET k) i _ 1 bytes ht hi hz0 hz1 hz2 rfl (by omega) (.slice s.a s.len s.cap) l.length (l.map (Value.int k)) hs hown ad m.length cap (m.map (Value.int k)) hx (by simp)
   ?_ (by intro v hv;obtain⟨z,_,rfl⟩:=List.mem_map.1 hv;rfl) h63 hb hE.size ?_
  ·intro j v hv
   have hj:j<m.length:=by
    have:=(List.getElem?_eq_some_iff.1 hv).1
    simpa using this
   obtain⟨b,off,ha,_,hc⟩:=hop (by omega)
   injection ha with ha
   subst ha
   have h1:=hc j hj
   rw[at_lt hj] at h1
   simp[hj] at hv
   rw[←hv]
   by_cases hj0:j=0
   ·subst hj0;simpa[Addr.add] using h1
   ·simpa[Addr.add,hj0] using h1
  ·intro v' w' hown' hgr _
   have hform:∃ s':SV,v' = .slice s'.a s'.len s'.cap:=by
    rcases hown'.2 with⟨e,_⟩ | ⟨g,cap,cur,e,_⟩
    ·exact⟨⟨none,0,0⟩,e⟩
    ·exact⟨⟨some ⟨g,0,none⟩,_,cap⟩,e⟩
   obtain⟨s',rfl⟩:=hform
   refine h s' w' ?_ (hE.gr hgr ?_)
   ·unfold Rw
    rw[List.length_append,List.map_append]
    exact hown'
   ·intro g hg
    rcases hown.2 with⟨e,_⟩ | ⟨g',cap,cur,e,hb',_⟩
    ·rw[e] at hg;cases hg
    ·rw[e] at hg
     simp only[Value.ownBlock,Option.some.injEq] at hg
     omega
end Go.Proofs.YtkidkimjdiichaaGreat
end
section
namespace Go.Proofs.YtkidkimjdiichaaGreat.M
open Go.RowKit
set_option linter.unusedVariables false
def digs (B n:Nat):List Int:=if h:n=0∨B<2 then [] else ((n % B:Nat):Int)::digs B (n / B)
termination_by n
decreasing_by exact Nat.div_lt_self (by omega) (by omega)
theorem digs_eq {B:Nat} (hB:2≤B) {v:List Int→Int} (v0:v []=0) (v1:∀ x t,v (x::t)=x+B*v t):∀ l:List Int,(∀ x∈l,0≤x∧x<B)→(l=[]∨at_ l (l.length-1)≠0)→0≤v l∧(l≠[]→0<v l)∧digs B (v l).toNat=l
 | [],_,_=>by
  rw[v0]
  refine⟨by omega,fun h=>absurd rfl h,?_⟩
  rw[digs]
  simp
 | x::t,hd,hn=>by
  have hx:=hd x (by simp)
  have ih:=digs_eq hB v0 v1 t (fun y hy=>hd y (by simp[hy])) (by
   cases t with
   | nil=>exact .inl rfl
   | cons y t =>
    right
    rcases hn with h | h
    ·cases h
    ·simpa[at_] using h)
  obtain⟨i1,i2,i3⟩:=ih
  rw[v1]
  have hp0:0≤(B:Int)*v t:=Int.mul_nonneg (by omega) i1
  have hpos:0<x+B*v t:=by
   cases t with
   | nil =>
    rcases hn with h | h
    ·cases h
    ·simp[at_] at h;omega
   | cons y t =>
    have:=i2 (by simp)
    have:0<(B:Int)*v (y::t):=Int.mul_pos (by omega) this
    omega
  refine⟨by omega,fun _=>hpos,?_⟩
  have e:(x+B*v t).toNat=x.toNat+B*(v t).toNat:=by
   have:((x.toNat+B*(v t).toNat:Nat):Int)=x+B*v t:=by
    rw[Int.natCast_add,Int.natCast_mul,Int.toNat_of_nonneg hx.1,Int.toNat_of_nonneg i1]
   omega
  rw[digs,dif_neg (by omega),e]
  have h1:(x.toNat+B*(v t).toNat) % B=x.toNat:=by rw[Nat.add_mul_mod_self_left];exact Nat.mod_eq_of_lt (by omega)
  have h2:(x.toNat+B*(v t).toNat) / B=(v t).toNat:=by rw[Nat.add_mul_div_left _ _ (by omega),Nat.div_eq_of_lt (by omega)];omega
  rw[h1,h2,i3,Int.toNat_of_nonneg hx.1]
theorem digs_spec {B:Nat} (hB:2≤B) {v:List Int→Int} (v0:v []=0) (v1:∀ x t,v (x::t)=x+B*v t) (n:Nat):(∀ x∈digs B n,0≤x∧x<B)∧(digs B n=[]∨at_ (digs B n) ((digs B n).length-1)≠0)∧v (digs B n)=n:=by
 induction n using Nat.strongRecOn with
 | _ n ih =>
  by_cases hn:n=0
  ·subst hn
   have e:digs B 0=[]:=by rw[digs];simp
   rw[e,v0]
   exact⟨by simp,.inl rfl,rfl⟩
  ·have hlt:=Nat.div_lt_self (n:=n) (k:=B) (by omega) (by omega)
   obtain⟨i1,i2,i3⟩:=ih _ hlt
   have e:digs B n=((n % B:Nat):Int)::digs B (n / B):=by rw[digs,dif_neg (by omega)]
   have hm:=Nat.mod_lt n (show 0<B by omega)
   rw[e,v1,i3]
   refine⟨?_,.inr ?_,?_⟩
   ·intro x hx
    rcases List.mem_cons.1 hx with rfl | hx
    ·exact⟨by omega,by omega⟩
    ·exact i1 x hx
   ·rcases i2 with h | h
    ·rw[h]
     simp only[at_,List.length_singleton,Nat.sub_self,List.getD_cons_zero]
     rw[h,v0] at i3
     have hq:n / B=0:=by omega
     have:=Nat.div_add_mod n B
     rw[hq] at this
     omega
    ·have hne:digs B (n / B)≠[]:=by
      intro h0
      rw[h0] at h
      exact h rfl
     have:(((n % B:Nat):Int)::digs B (n / B)).length-1=(digs B (n / B)).length-1+1:=by
      have:=List.length_pos_iff.2 hne
      simp only[List.length_cons]
      omega
     rw[this]
     exact h
   ·have:=Nat.div_add_mod n B
    have h2:((n % B:Nat):Int)+(B:Int)*((n / B:Nat):Int)=((n % B+B*(n / B):Nat):Int):=by rw[Int.natCast_add,Int.natCast_mul]
    rw[h2]
    congr 1
    omega
def Av (A:List TypeId) (base:Nat→Prop) (w:World):Prop:=∀ b,base b→∀ c T fr,w.heap[b]? = some (.cells c T fr)→T ∉ A
abbrev NBs (base:Nat→Prop) (w:World):Nat→Prop:=fun b=>b<w.heap.size∧¬ base b
section
variable {P:Program} {A:List TypeId} {f:FuncId} {d d1 d2 d3:D} {w:World} {base:Nat→Prop} {N:Nat→Prop} {v:Value}
theorem V_str (t:List UInt8):V w N (.string (bs t)) (.str t):=V.str (bs t)
theorem str_V {t:List UInt8} (h:V w N v (.str t)):v = .string (bs t):=by
 generalize he:D.str t=e at h
 cases h with
 | str s=>injection he with he;subst he;rfl
 | _=>cases he
theorem int_V {k:IntKind} {n:Int} (h:V w N v (.int k n)):v = .int k n:=by
 generalize he:D.int k n=e at h
 cases h with
 | int k n=>injection he with h1 h2;subst h1 h2;rfl
 | _=>cases he
theorem bool_V {b:Bool} (h:V w N v (.bool b)):v = .bool b:=by
 generalize he:D.bool b=e at h
 cases h with
 | bool b=>injection he with h1;subst h1;rfl
 | _=>cases he
theorem V_lst {k:IntKind} {s:SV} {l:List Int} (hA:ET k∈A) (hav:Av A base w) (h:IsL w s k l):V w (NBs base w) (.slice s.a s.len s.cap) (.list (ET k) 1 (l.map (D.int k))):=by
 obtain⟨ao,cap,rfl,h1,h2,h3⟩:=h.open_
 by_cases hl:l=[]
 ·subst hl
  exact .empty _ _ _ _ h2
 ·obtain⟨b,off,rfl,⟨c,fr,hb⟩,hc⟩:=h3 (List.length_pos_iff.2 hl)
  have hlt:b<w.heap.size:=Ty.lt ⟨c,fr,hb⟩
  have hcell:∀ j,j<l.length→c[off+j]? = some (.int k (at_ l j)):=fun j hj=>by
   have:=hc j hj
   simp only[World.cell?,hb] at this
   simpa using this
  have:=V.list (w:=w) (N:=NBs base w) b off cap (ET k) 1 (l.map (D.int k)) c fr (.of hb) ⟨hlt,fun hh=>hav b hh _ _ _ hb hA⟩ (by simpa using h1) h2 ?_ ?_ ?_
  ·rw[List.length_map] at this
   exact this
  ·intro e he
   obtain⟨x,hx,rfl⟩:=List.mem_map.1 he
   exact⟨rfl,by simp[D.cells,D.one]⟩
  all_goals
   intro i e j q he hq
   rw[List.getElem?_map,Option.map_eq_some_iff] at he
   obtain⟨x,hx,rfl⟩:=he
   obtain⟨hi,hx⟩:=List.getElem?_eq_some_iff.1 hx
   have hci:=hcell i hi
   match j,hq with
   | 0,hq =>
    simp only[D.cells,List.getElem?_cons_zero,Option.some.injEq] at hq
    subst hq
    simp only[Nat.mul_one,Nat.add_zero]
    first
     | (exact (Array.getElem?_eq_some_iff.1 hci).1)
     | (rw[Array.getD_eq_getD_getElem?,hci,at_lt hi,hx];exact .int k x)
   | j+1,hq=>simp[D.cells] at hq
theorem V_isL {k:IntKind} {l:List Int} (h:V w N v (.list (ET k) 1 (l.map (D.int k)))) (hf:∀ x∈l,Fit k x):∃ s:SV,v = .slice s.a s.len s.cap∧IsL w s k l:=by
 generalize he:D.list (ET k) 1 (l.map (D.int k))=e at h
 cases h with
 | empty a cap T sz hc =>
  injection he with e1 e2 e3
  have:l=[]:=by simpa using e3
  subst this
  exact⟨⟨a,0,cap⟩,rfl,⟨⟨rfl,Nat.zero_le _,hc,by simp⟩,by simp⟩⟩
 | list b o cap T sz m c fr hb hn h1 h2 h3 h4 h5 =>
  injection he with e1 e2 e3
  subst e1 e2 e3
  obtain⟨T',hb,hT⟩:=hb
  obtain rfl:T'=ET k:=hT.resolve_right (by cases k<;>decide)
  refine⟨⟨some ⟨b,o,none⟩,l.length,cap⟩,by simp,IsL.mk_ (by simpa using h1) h2 (fun _=>⟨b,o,rfl,⟨c,fr,hb⟩,fun j hj => ?_⟩) hf⟩
  have hj':(l.map (D.int k))[j]? = some (.int k (at_ l j)):=by simp[at_,hj]
  have q1:=h4 j _ 0 _ hj' rfl
  have q2:=h5 j _ 0 _ hj' rfl
  simp only[Nat.mul_one,Nat.add_zero] at q1 q2
  rw[cell_at hb q1,int_V q2]
 | _=>cases he
theorem agg2_V {v1 v2:Value} (h1:V w N v1 d1) (h2:V w N v2 d2) (o1:d1.one=true) (o2:d2.one=true):V w N (.agg #[v1,v2]) (.agg [d1,d2]):=by
 refine .agg _ _ rfl (by simp[o1,o2]) fun i e he => ?_
 match i,he with
 | 0,he=>simp at he;subst he;exact h1
 | 1,he=>simp at he;subst he;exact h2
 | i+2,he=>simp at he
theorem agg4_V {v1 v2 v3 v4:Value} {d4:D} (h1:V w N v1 d1) (h2:V w N v2 d2) (h3:V w N v3 d3) (h4:V w N v4 d4) (o1:d1.one=true) (o2:d2.one=true) (o3:d3.one=true) (o4:d4.one=true):V w N (.agg #[v1,v2,v3,v4]) (.agg [d1,d2,d3,d4]):=by
 refine .agg _ _ rfl (by simp[o1,o2,o3,o4]) fun i e he => ?_
 match i,he with
 | 0,he=>simp at he;subst he;exact h1
 | 1,he=>simp at he;subst he;exact h2
 | 2,he=>simp at he;subst he;exact h3
 | 3,he=>simp at he;subst he;exact h4
 | i+4,he=>simp at he
theorem tup2_V {v1 v2:Value} (h1:V w N v1 d1) (h2:V w N v2 d2):V w N (.tuple #[v1,v2]) (.tup [d1,d2]):=by
 refine .tup _ _ rfl fun i e he => ?_
 match i,he with
 | 0,he=>simp at he;subst he;exact h1
 | 1,he=>simp at he;subst he;exact h2
 | i+2,he=>simp at he
theorem V_agg2 (h:V w N v (.agg [d1,d2])):∃ v1 v2,v = .agg #[v1,v2]∧V w N v1 d1∧V w N v2 d2:=by
 generalize he:D.agg [d1,d2]=e at h
 cases h with
 | agg cs l h1 h2 h3 =>
  injection he with he
  subst he
  obtain⟨cs⟩:=cs
  match cs,h1 with
  | [x,y],h1=>exact⟨x,y,rfl,h3 0 _ rfl,h3 1 _ rfl⟩
  | [],h1 | [_],h1 | _::_::_::_,h1=>simp at h1
 | _=>cases he
theorem V_agg4 {d4:D} (h:V w N v (.agg [d1,d2,d3,d4])):∃ v1 v2 v3 v4,v = .agg #[v1,v2,v3,v4]∧V w N v1 d1∧V w N v2 d2∧V w N v3 d3∧V w N v4 d4:=by
 generalize he:D.agg [d1,d2,d3,d4]=e at h
 cases h with
 | agg cs l h1 h2 h3 =>
  injection he with he
  subst he
  obtain⟨cs⟩:=cs
  match cs,h1 with
  | [x,y,z,t],h1=>exact⟨x,y,z,t,rfl,h3 0 _ rfl,h3 1 _ rfl,h3 2 _ rfl,h3 3 _ rfl⟩
  | [],h1 | [_],h1 | [_,_],h1 | [_,_,_],h1 | _::_::_::_::_::_,h1=>simp at h1
 | _=>cases he
theorem Av.later {w':World} (h:Av A base w) (hlow:∀ b,base b→b<w.heap.size) (e:Ext w w'):Av A base w':=fun b hb c T fr hc=>h b hb c T fr (by rw[←e.block b (hlow b hb)];exact hc)
theorem con1 (H:∀ (base:Nat→Prop) w v1,Av A base w→V w (NBs base w) v1 d1→Calls P f #[v1] w fun e w' => ∃ v,e = .returned v∧(∀ base,Av A base w'→V w' (NBs base w') v d)∧Ext w w'):Con P A f [d1] d:=by
 intro base w vs hlow hav hsz hargs
 have e:vs = #[vs.getD 0 undef]:=by
  obtain⟨vs⟩:=vs
  match vs,hsz with
  | [x],_=>rfl
  | [],h | _::_::_,h=>simp at h
 rw[e]
 refine (H base w _ hav (hargs 0 _ rfl)).mono ?_
 rintro e w' ⟨v,rfl,hv,hext⟩
 exact⟨v,rfl,hv base (Av.later hav hlow hext),hext⟩
theorem con2 (H:∀ (base:Nat→Prop) w v1 v2,Av A base w→V w (NBs base w) v1 d1→V w (NBs base w) v2 d2→Calls P f #[v1,v2] w fun e w' => ∃ v,e = .returned v∧(∀ base,Av A base w'→V w' (NBs base w') v d)∧Ext w w'):Con P A f [d1,d2] d:=by
 intro base w vs hlow hav hsz hargs
 have e:vs = #[vs.getD 0 undef,vs.getD 1 undef]:=by
  obtain⟨vs⟩:=vs
  match vs,hsz with
  | [x,y],_=>rfl
  | [],h | [_],h | _::_::_::_,h=>simp at h
 rw[e]
 refine (H base w _ _ hav (hargs 0 _ rfl) (hargs 1 _ rfl)).mono ?_
 rintro e w' ⟨v,rfl,hv,hext⟩
 exact⟨v,rfl,hv base (Av.later hav hlow hext),hext⟩
theorem con3 (H:∀ (base:Nat→Prop) w v1 v2 v3,Av A base w→V w (NBs base w) v1 d1→V w (NBs base w) v2 d2→V w (NBs base w) v3 d3→Calls P f #[v1,v2,v3] w fun e w' => ∃ v,e = .returned v∧(∀ base,Av A base w'→V w' (NBs base w') v d)∧Ext w w'):Con P A f [d1,d2,d3] d:=by
 intro base w vs hlow hav hsz hargs
 have e:vs = #[vs.getD 0 undef,vs.getD 1 undef,vs.getD 2 undef]:=by
  obtain⟨vs⟩:=vs
  match vs,hsz with
  | [x,y,z],_=>rfl
  | [],h | [_],h | [_,_],h | _::_::_::_::_,h=>simp at h
 rw[e]
 refine (H base w _ _ _ hav (hargs 0 _ rfl) (hargs 1 _ rfl) (hargs 2 _ rfl)).mono ?_
 rintro e w' ⟨v,rfl,hv,hext⟩
 exact⟨v,rfl,hv base (Av.later hav hlow hext),hext⟩
def AN:List TypeId:=[247,3]
def encI (z:Int):D:=.agg [.bool (decide (z<0)),.list 247 1 ((digs 4294967296 z.natAbs).map (D.int .u32))]
def encZ (z:Int):D:=.agg [.bool (decide (z<0)),.list 3 1 ((digs 10000 z.natAbs).map (D.int .i64))]
def encFI (a b:Int):D:=.agg [.bool (decide (a<0)),.list 247 1 ((digs 4294967296 a.natAbs).map (D.int .u32)),.bool (decide (b-1<0)),.list 247 1 ((digs 4294967296 (b-1).natAbs).map (D.int .u32))]
def encFZ (a b:Int):D:=.agg [.bool (decide (a<0)),.list 3 1 ((digs 10000 a.natAbs).map (D.int .i64)),.bool (decide (b<0)),.list 3 1 ((digs 10000 b.natAbs).map (D.int .i64))]
theorem I_parts {x:IV} {z:Int} (h:IsI w x z):∃ l,IsL w x.s .u32 l∧digs 4294967296 z.natAbs=l∧x.n=decide (z<0):=by
 obtain⟨l,h1,h2,h3,h4,h5⟩:=h
 obtain⟨g1,g2,g3⟩:=digs_eq (B:=4294967296) (by omega) (v:=valL) rfl (fun _ _=>rfl) l (fun x hx=>by have:=h1.2 x hx;simp only[Fit] at this;omega) h2
 refine⟨l,h1,?_,?_⟩
 ·rw[←g3]
  congr 1
  rw[h3]
  unfold sg
  split<;>omega
 ·cases hn:x.n
  ·rw[hn] at h3
   have:¬ z<0:=by rw[h3];simp[sg];omega
   simp[this]
  ·have hl:l≠[]:=fun e=>by have:=h4 e;rw[hn] at this;cases this
   have:=g2 hl
   have:z<0:=by rw[h3,hn];simp[sg];omega
   simp[this]
theorem Z_parts {x:IV} {z:Int} (h:Z4.IsZ w x z):∃ l,IsL w x.s .i64 l∧digs 10000 z.natAbs=l∧x.n=decide (z<0):=by
 obtain⟨l,h1,hd,h2,h3,h4,h5⟩:=h
 obtain⟨g1,g2,g3⟩:=digs_eq (B:=10000) (by omega) (v:=Z4.valL) rfl (fun _ _=>rfl) l (fun x hx=>by have:=hd x hx;omega) h2
 refine⟨l,h1,?_,?_⟩
 ·rw[←g3]
  congr 1
  rw[h3]
  unfold sg
  split<;>omega
 ·cases hn:x.n
  ·rw[hn] at h3
   have:¬ z<0:=by rw[h3];simp[sg];omega
   simp[this]
  ·have hl:l≠[]:=fun e=>by have:=h4 e;rw[hn] at this;cases this
   have:=g2 hl
   have:z<0:=by rw[h3,hn];simp[sg];omega
   simp[this]
theorem V_numI {x:IV} {z:Int} (h:IsI w x z) (hav:Av AN base w):V w (NBs base w) (.bool x.n) (.bool (decide (z<0)))∧V w (NBs base w) (.slice x.s.a x.s.len x.s.cap) (.list 247 1 ((digs 4294967296 z.natAbs).map (D.int .u32))):=by
 obtain⟨l,h1,h2,h3⟩:=I_parts h
 rw[h2,h3]
 exact⟨.bool _,V_lst (k:=.u32) (by simp[AN,ET]) hav h1⟩
theorem V_numZ {x:IV} {z:Int} (h:Z4.IsZ w x z) (hav:Av AN base w):V w (NBs base w) (.bool x.n) (.bool (decide (z<0)))∧V w (NBs base w) (.slice x.s.a x.s.len x.s.cap) (.list 3 1 ((digs 10000 z.natAbs).map (D.int .i64))):=by
 obtain⟨l,h1,h2,h3⟩:=Z_parts h
 rw[h2,h3]
 exact⟨.bool _,V_lst (k:=.i64) (by simp[AN,ET]) hav h1⟩
theorem V_encI {x:IV} {z:Int} (h:IsI w x z) (hav:Av AN base w):V w (NBs base w) (.agg #[.bool x.n,.slice x.s.a x.s.len x.s.cap]) (encI z):=agg2_V (V_numI h hav).1 (V_numI h hav).2 rfl rfl
theorem V_encZ {x:IV} {z:Int} (h:Z4.IsZ w x z) (hav:Av AN base w):V w (NBs base w) (.agg #[.bool x.n,.slice x.s.a x.s.len x.s.cap]) (encZ z):=agg2_V (V_numZ h hav).1 (V_numZ h hav).2 rfl rfl
theorem V_encFI {x y:IV} {a b:Int} (h:IsI w x a) (k:IsI w y (b-1)) (hav:Av AN base w):V w (NBs base w) (.agg #[.bool x.n,.slice x.s.a x.s.len x.s.cap,.bool y.n,.slice y.s.a y.s.len y.s.cap]) (encFI a b):=agg4_V (V_numI h hav).1 (V_numI h hav).2 (V_numI k hav).1 (V_numI k hav).2 rfl rfl rfl rfl
theorem V_encFZ {x y:IV} {a b:Int} (h:Z4.IsZ w x a) (k:Z4.IsZ w y b) (hav:Av AN base w):V w (NBs base w) (.agg #[.bool x.n,.slice x.s.a x.s.len x.s.cap,.bool y.n,.slice y.s.a y.s.len y.s.cap]) (encFZ a b):=agg4_V (V_numZ h hav).1 (V_numZ h hav).2 (V_numZ k hav).1 (V_numZ k hav).2 rfl rfl rfl rfl
theorem sg_abs (z:Int):z=sg (decide (z<0)) (z.natAbs:Int):=by
 unfold sg
 by_cases h:z<0
 ·rw[if_pos (by simpa using h)];omega
 ·rw[if_neg (by simpa using h)];omega
theorem numI_V {z:Int} {v1 v2:Value} (h1:V w N v1 (.bool (decide (z<0)))) (h2:V w N v2 (.list 247 1 ((digs 4294967296 z.natAbs).map (D.int .u32)))) (hs:Sm z):∃ x:IV,v1 = .bool x.n∧v2 = .slice x.s.a x.s.len x.s.cap∧IsI w x z:=by
 obtain⟨g1,g2,g3⟩:=digs_spec (B:=4294967296) (by omega) (v:=valL) rfl (fun _ _=>rfl) z.natAbs
 obtain⟨s,rfl,hl⟩:=V_isL (k:=.u32) h2 (fun x hx=>by have:=g1 x hx;simp only[Fit];omega)
 refine⟨⟨decide (z<0),s⟩,bool_V h1,rfl,_,hl,g2,?_,fun e => ?_,hs⟩
 ·rw[g3];exact sg_abs z
 ·rw[e] at g3
  have:(0:Int)=(z.natAbs:Int):=g3
  have:¬ z<0:=by omega
  simp[this]
theorem numZ_V {z:Int} {v1 v2:Value} (h1:V w N v1 (.bool (decide (z<0)))) (h2:V w N v2 (.list 3 1 ((digs 10000 z.natAbs).map (D.int .i64)))) (hs:Sm z):∃ x:IV,v1 = .bool x.n∧v2 = .slice x.s.a x.s.len x.s.cap∧Z4.IsZ w x z:=by
 obtain⟨g1,g2,g3⟩:=digs_spec (B:=10000) (by omega) (v:=Z4.valL) rfl (fun _ _=>rfl) z.natAbs
 obtain⟨s,rfl,hl⟩:=V_isL (k:=.i64) h2 (fun x hx=>by have:=g1 x hx;simp only[Fit];omega)
 refine⟨⟨decide (z<0),s⟩,bool_V h1,rfl,_,hl,fun x hx=>by have:=g1 x hx;omega,g2,?_,fun e => ?_,hs⟩
 ·rw[g3];exact sg_abs z
 ·rw[e] at g3
  have:(0:Int)=(z.natAbs:Int):=g3
  have:¬ z<0:=by omega
  simp[this]
theorem encI_V {z:Int} (h:V w N v (encI z)) (hs:Sm z):∃ x:IV,v = .agg #[.bool x.n,.slice x.s.a x.s.len x.s.cap]∧IsI w x z:=by
 obtain⟨v1,v2,rfl,h1,h2⟩:=V_agg2 h
 obtain⟨x,rfl,rfl,hx⟩:=numI_V h1 h2 hs
 exact⟨x,rfl,hx⟩
theorem encZ_V {z:Int} (h:V w N v (encZ z)) (hs:Sm z):∃ x:IV,v = .agg #[.bool x.n,.slice x.s.a x.s.len x.s.cap]∧Z4.IsZ w x z:=by
 obtain⟨v1,v2,rfl,h1,h2⟩:=V_agg2 h
 obtain⟨x,rfl,rfl,hx⟩:=numZ_V h1 h2 hs
 exact⟨x,rfl,hx⟩
theorem encFI_V {a b:Int} (h:V w N v (encFI a b)) (hs:Sm a) (hb:Sm (b-1)):∃ x y:IV,v = .agg #[.bool x.n,.slice x.s.a x.s.len x.s.cap,.bool y.n,.slice y.s.a y.s.len y.s.cap]∧IsI w x a∧IsI w y (b-1):=by
 obtain⟨v1,v2,v3,v4,rfl,h1,h2,h3,h4⟩:=V_agg4 h
 obtain⟨x,rfl,rfl,hx⟩:=numI_V h1 h2 hs
 obtain⟨y,rfl,rfl,hy⟩:=numI_V h3 h4 hb
 exact⟨x,y,rfl,hx,hy⟩
theorem encFZ_V {a b:Int} (h:V w N v (encFZ a b)) (hs:Sm a) (hb:Sm b):∃ x y:IV,v = .agg #[.bool x.n,.slice x.s.a x.s.len x.s.cap,.bool y.n,.slice y.s.a y.s.len y.s.cap]∧Z4.IsZ w x a∧Z4.IsZ w y b:=by
 obtain⟨v1,v2,v3,v4,rfl,h1,h2,h3,h4⟩:=V_agg4 h
 obtain⟨x,rfl,rfl,hx⟩:=numZ_V h1 h2 hs
 obtain⟨y,rfl,rfl,hy⟩:=numZ_V h3 h4 hb
 exact⟨x,y,rfl,hx,hy⟩
def flt (c p:Int):D:=.agg [.int .i64 c,.int .i64 p]
theorem V_flt (c p:Int):V w N (.agg #[.int .i64 c,.int .i64 p]) (flt c p):=agg2_V (.int _ _) (.int _ _) rfl rfl
end
end Go.Proofs.YtkidkimjdiichaaGreat.M
end
