/- Lemmas. -/
import Derived.Test.YtdchbabgopglcaaC1
import Derived.BigQuiet
import Derived.Deep.QuietTactic
import Derived.Deep.RegionHeld3
namespace Go.Proofs.Ytdchbabgopglcaa
open Go.RowKit
def Own (w:World) (b:Nat) (T:TypeId) (k:IntKind) (l:List Int):Prop:=w.heap[b]? = some (.cells (l.map (Value.int k)).toArray T (0,0))
section
variable {w w':World}{b:Nat}{T:TypeId}{k:IntKind}{l:List Int}
theorem Own.lt (h:Own w b T k l):b<w.heap.size:=by
 rcases Nat.lt_or_ge b w.heap.size with hlt | hge
 ·exact hlt
 ·unfold Own at h;rw[Array.getElem?_eq_none hge] at h;cases h
theorem Own.ty (h:Own w b T k l):Ty w b T:=⟨_,_,h⟩
theorem Own.cell (h:Own w b T k l){i:Nat} (hi:i<l.length):w.cell? ⟨b,i,none⟩=some (.int k (at_ l i)):=by
 rw[cell_of_row w b i _ T (0,0) h];simp[at_,hi]
theorem Own.frozen (h:Own w b T k l) (i:Nat):w.frozen? ⟨b,i,none⟩=false:=by
 unfold Own at h;simp[World.frozen?,h]
theorem Own.keep (h:Own w b T k l) (e:Ext w w'):Own w' b T k l:=(e.block b h.lt).trans h
theorem Own.dr (h:Own w b T k l):Own w.drew b T k l:=h
theorem Own.far (h:Own w b T k l){p:Addr} (hp:b≠p.block) (u:Value):Own (w.setCell p u) b T k l:=(Below.heap_setCell w p u b hp).trans h
theorem Own.new {w:World}{n:Nat}{c:Array Value}{T:TypeId}{k:IntKind}{l:List Int} (hn:n=w.heap.size) (hc:c=(l.map (Value.int k)).toArray):Own (w.alloc (.cells c T)) n T k l:=by
 subst hn;subst hc;exact heap_alloc_new w _
theorem Own.set (h:Own w b T k l) (i:Nat) (v:Int):Own (w.setCell ⟨b,i,none⟩ (.int k v)) b T k (l.set i v):=by
 unfold Own at h ⊢;simp[World.setCell,Array.getElem?_modify,h,List.map_set]
theorem Own.isL (h:Own w b (ET k) k l) (hm:l.length≤9223372036854775807) (hf:∀x∈l,Fit k x):IsL w ⟨some ⟨b,0,none⟩,l.length,l.length⟩ k l:=
 IsL.mk_ (Nat.le_refl _) hm (fun _=>⟨b,0,rfl,h.ty,fun j hj=>by rw[Nat.zero_add];exact h.cell hj⟩) hf
theorem Own.of_row {base n:Nat} (h:w.ownsRow base T 1 (.slice (some ⟨b,0,none⟩) n n) n (l.map (Value.int k))):Own w b T k l:=by
 obtain⟨h1,h2⟩:=h;rcases h2 with⟨h2,_⟩ | ⟨g,cap,cur,hv,_,hg,_,_,hs,ht⟩
 ·cases h2
 ·injection hv with e1 e2 e3
  injection e1 with e1
  injection e1 with e1
  subst e1;subst e3;unfold Own;rw[hg,←ht,List.take_of_length_le (by simp;omega)]
end
theorem QR {a b:World} (h:a.grownBy b none):Ext a b:=(Ext.rf a).gr h (fun _ h=>by cases h)
theorem fg {P:Program} (w:World){ops:Array Oper}{rest:List Oper}{o:Oper}{a:Act}{Q:Exit→Act→World→Prop}
  (hg:o.guard=none) (l c:Operand) (t:TypeId) (hop:o.op=Op.makeSlice t l c)
  (e:TypeId) (k:IntKind) (bytes:Nat) (h1:P.underlying t=some (.slice e)) (hinfo:(P.info? e).map (fun i=>(i.zero,i.size,i.bytes))=some (some (.int k 0),1,bytes))
  (kl kc:IntKind) (L C:Int) (n:Nat) (hl:a.eval l = .int kl L) (hc:a.eval c = .int kc C) (hL:L=(n:Int)) (hC:C=(n:Int)) (b2:bytes*n≤281474976710656) (b3:n≤9223372036854775807)
  (hK:∀w',Own w' w.heap.size e k (List.replicate n 0)→Ext w w'→w.heap.size<w'.heap.size→wpList P ops Q rest (a.put o.dst (.slice (some ⟨w.heap.size,0,none⟩) n n)) w') :
  wpList P ops Q (o::rest) a w:=by
 obtain⟨i,hi,hz0,hz1,hz2⟩:=info_parts hinfo;refine wpList_make_full w hg l c t hop w.heap.size e i _ 1 h1 hi hz0 hz1 kl kc L C n hl hc hL hC (by rw[hz2];exact b2) b3 (Nat.le_refl _) fun w' hown hgr => ?_
 have ho:Own w' w.heap.size e k (List.replicate n 0):=by
  have hx:(madeCells (Value.int k 0).cells (n*1)).toList=(List.replicate n (0:Int)).map (Value.int k):=by
   rw[Nat.mul_one];show (madeCells #[Value.int k 0] n).toList=_
   rw[toList_madeCells_one];simp
  rw[hx] at hown;exact Own.of_row hown
 exact hK w' ho (QR hgr) ho.lt
theorem cU {W w1:World} (hb:Ext W w1):(∀b o,b<W.heap.size→w1.cell? ⟨b,o,none⟩=W.cell? ⟨b,o,none⟩)∧(∀b o,b<W.heap.size→w1.frozen? ⟨b,o,none⟩=W.frozen? ⟨b,o,none⟩):=
 ⟨fun b o h=>hb.cell (p:=⟨b,o,none⟩) h,fun b o h=>hb.frozen (p:=⟨b,o,none⟩) h⟩
theorem qL {w:World}{n m:Nat}{c:Array Value}{k:IntKind}{l:List Int} (hn:n=w.heap.size) (hc:c=(l.map (Value.int k)).toArray) (hm:m=l.length) (hb:l.length≤9223372036854775807) (hf:∀x∈l,Fit k x) :
  IsL (w.alloc (.cells c (ET k))) ⟨some ⟨n,0,none⟩,m,m⟩ k l:=by
 subst hm;exact Own.isL (Own.new hn hc) hb hf
theorem cn {W w':World} (e:Ext W w'):Ext W w'∧(∀b o,b<W.heap.size→w'.cell? ⟨b,o,none⟩=W.cell? ⟨b,o,none⟩):=⟨e,(cU e).1⟩
def Bx (w:World) (T:TypeId) (n:Nat):Prop:=(∃u,w.cell? ⟨n,0,none⟩=some u)∧(∃u,w.cell? ⟨n,1,none⟩=some u)∧w.frozen? ⟨n,0,none⟩=false∧w.frozen? ⟨n,1,none⟩=false∧Ty w n T
theorem Bx.keep {w w':World}{T:TypeId}{n:Nat} (h:Bx w T n) (e:Ext w w'):Bx w' T n:=by
 obtain⟨⟨u,h0⟩,⟨v,h1⟩,f0,f1,t⟩:=h;exact⟨⟨u,cell_later e h0⟩,⟨v,cell_later e h1⟩,(e.frozen (p:=⟨n,0,none⟩) t.lt).trans f0,(e.frozen (p:=⟨n,1,none⟩) t.lt).trans f1,t.keep e⟩
theorem Bx.dr {w:World}{T:TypeId}{n:Nat} (h:Bx w T n):Bx w.drew T n:=h
theorem Bx.new {w:World}{T:TypeId}{n:Nat}{x y:Value} (hn:n=w.heap.size):Bx (w.alloc (.cells #[x,y] T)) T n:=by
 subst hn;exact⟨⟨x,by simp⟩,⟨y,by simp⟩,by simp,by simp,Ty.new _ _ _⟩
theorem Bx.st2 {w:World}{T:TypeId}{n:Nat} (h:Bx w T n) (x y:Value):Bx ((w.setCell ⟨n,0,none⟩ x).setCell ⟨n,1,none⟩ y) T n:=by
 obtain⟨⟨u,h0⟩,⟨v,h1⟩,f0,f1,t⟩:=h;have h1':(w.setCell ⟨n,0,none⟩ x).cell? ⟨n,1,none⟩=some v:=by rw[World.cell?_setCell_other _ _ _ _ (by simp)];exact h1
 refine⟨⟨x,?_⟩,⟨y,World.cell?_setCell_same _ _ _ h1'⟩,by simpa using f0,by simpa using f1,(t.st _ _).st _ _⟩;rw[World.cell?_setCell_other _ _ _ _ (by simp)];exact World.cell?_setCell_same _ _ _ h0
theorem bN {W w':World}{R R':Prop} (e:(Ext W w'∧R)∧R'):Ext W w':=e.1.1
theorem cH {w':World}{A:Prop}{T:TypeId}{n:Nat} (e:A∧Bx w' T n):Bx w' T n:=e.2
theorem mD {a b q r:Int} (h:a=b*q+r) (h0:0≤r) (h1:r<b.natAbs):a / b=q∧a % b=r:=by
 have hb:b≠0:=by rintro rfl;simp at h1;omega
 have e:=Int.mul_ediv_add_emod a b;have g0:=Int.emod_nonneg a hb;have g1:=Int.emod_lt a hb;have hd:b*(q-a / b)=a % b-r:=by rw[Int.mul_sub];omega
 have hq:q-a / b=0:=by
  by_cases hz:q-a / b=0
  ·exact hz
  ·exfalso
   have h2:=congrArg Int.natAbs hd;rw[Int.natAbs_mul] at h2;have h3:1≤(q-a / b).natAbs:=by omega
   have h4:=Nat.mul_le_mul_left b.natAbs h3;omega
 have e2:q=a / b:=by omega
 subst e2;exact⟨rfl,by omega⟩
theorem ro {m n:Bool}{A B:Int} (_hA:0≤A) (hB:0<B) :
  ((m=false∨A % B=0)→sg m A / sg n B=sg (!(m == n)) (A / B)∧sg m A % sg n B=A % B) ∧
  (m=true→0<A % B→sg m A / sg n B=sg (!(m == n)) (A / B+1)∧sg m A % sg n B=B-A % B):=by
 have e:=Int.mul_ediv_add_emod A B;have g0:=Int.emod_nonneg A (show B≠0 by omega);have g1:=Int.emod_lt_of_pos A hB;generalize A / B=q at *;generalize A % B=r at *;have hn:(sg n B).natAbs=B.natAbs:=fx n B;constructor
 ·intro h;apply mD
  ·cases m<;>cases n<;>simp[sg] at *<;>grind
  ·exact g0
  ·rw[hn];omega
 ·rintro rfl hr;apply mD
  ·cases n<;>simp[sg]<;>grind
  ·omega
  ·rw[hn];omega
theorem qM (l:List Int) (j:Nat):valL l=valL (l.take j)+4294967296^j*valL (l.drop j):=by
 induction j generalizing l with
 |zero=>simp[valL]
 |succ j ih =>
  match l with
  |[]=>simp[valL]
  |x::t =>
   simp only[List.take_succ_cons,List.drop_succ_cons,valL];rw[ih t,Int.pow_succ];grind
theorem Dig.take {l:List Int} (h:Dig l) (j:Nat):Dig (l.take j):=fun x hx=>h x (List.mem_of_mem_take hx)
theorem Dig.drop {l:List Int} (h:Dig l) (j:Nat):Dig (l.drop j):=fun x hx=>h x (List.mem_of_mem_drop hx)
theorem fh {l:List Int} (h:Dig l) (j:Nat):0≤valL (l.take j)∧valL (l.take j)<4294967296^j:=by
 refine⟨valL_nonneg (h.take j),?_⟩;have h1:=valL_lt (h.take j);have h2:=pow_mono' (i:=(l.take j).length) (j:=j) (by simp;omega);omega
theorem iU (l:List Int) (j:Nat):valL (l.drop j)=at_ l j+4294967296*valL (l.drop (j+1)):=by
 rcases Nat.lt_or_ge j l.length with h | h
 ·rw[List.drop_eq_getElem_cons h,eu h];rfl
 ·rw[List.drop_of_length_le h,List.drop_of_length_le (by omega),a8 h];simp[valL]
theorem qN {l:List Int} (hd:Dig l){k:Nat} (h:valL l<4294967296^k):∀i,k≤i→at_ l i=0:=by
 intro i hi;by_cases h0:at_ l i=0
 ·exact h0
 ·have h1:=valL_ge hd h0;have h2:=pow_mono' hi;omega
theorem qO {l:List Int} (hd:Dig l){k:Nat} (h:∀i,k≤i→at_ l i=0):valL l<4294967296^k:=by
 have h1:=valL_take h;have h2:=fh hd k;omega
theorem QS (l:List Int) (j i:Nat):at_ (l.drop j) i=at_ l (j+i):=by simp[at_,List.getElem?_drop]
theorem drop_zero {l:List Int}{k:Nat} (h:∀i,k≤i→at_ l i=0):valL (l.drop k)=0:=
 valL_zero fun i=>by rw[QS];exact h _ (by omega)
theorem qP {l:List Int}{j n:Nat} (hn:2≤n) (h:∀i,j+n+1≤i→at_ l i=0) :
  valL (l.drop j)=valL ((l.drop j).take (n-2))+4294967296^(n-2)*((at_ l (j+n)*4294967296+at_ l (j+n-1))*4294967296+at_ l (j+n-2)):=by
 rw[qM (l.drop j) (n-2)];congr 2
 rw[List.drop_drop,iU,iU,iU,drop_zero (k:=j+(n-2)+1+1+1) (fun i hi=>h i (by omega))];rw[show j+(n-2)+1+1=j+n by omega,show j+(n-2)+1=j+n-1 by omega,show j+(n-2)=j+n-2 by omega];omega
theorem QT {l:List Int}{n:Nat} (hn:2≤n) (h:l.length=n) :
  valL l=valL (l.take (n-2))+4294967296^(n-2)*(at_ l (n-1)*4294967296+at_ l (n-2)):=by
 have:=qP (l:=l) (j:=0) (n:=n) hn (fun i hi=>a8 (by omega));simp only[List.drop_zero,Nat.zero_add] at this;rw[this,a8 (l:=l) (i:=n) (by omega)];rw[Int.zero_mul,Int.zero_add]
section
variable {u0 u1 u2 lu lv top v2 P U V g rest X Y:Int}
structure Places (u0 u1 u2 lu lv top v2 P U V:Int):Prop where
 hU:U=lu+P*((u0*4294967296+u1)*4294967296+u2)
 hV:V=lv+P*(top*4294967296+v2)
 lu0:0≤lu
 lu1:lu<P
 lv0:0≤lv
 lv1:lv<P
 d0:0≤u0∧u0≤4294967295
 d1:0≤u1∧u1≤4294967295
 d2:0≤u2∧u2≤4294967295
 e1:2147483648≤top∧top≤4294967295
 e2:0≤v2∧v2≤4294967295
 lt:U<V*4294967296
theorem Places.top_ (h:Places u0 u1 u2 lu lv top v2 P U V):u0≤top:=by
 obtain⟨hU,hV,a0,a1,b0,b1,d0,d1,d2,e1,e2,lt⟩:=h;refine Int.not_lt.1 fun hc => ?_
 have hX:(top*4294967296+v2+1)*4294967296≤(u0*4294967296+u1)*4294967296+u2:=by omega
 have h1:=Int.mul_le_mul_of_nonneg_left hX (show 0≤P by omega);have h2:P*((top*4294967296+v2+1)*4294967296)=(P*(top*4294967296+v2)+P)*4294967296:=by grind
 rw[h2] at h1;generalize P*(top*4294967296+v2)=p at *;generalize P*((u0*4294967296+u1)*4294967296+u2)=q at *;omega
theorem Places.head (h:Places u0 u1 u2 lu lv top v2 P U V):0≤u0*4294967296+u1∧u0*4294967296+u1≤top*4294967296+4294967295:=by
 have:=h.top_;have:=h.d0;have:=h.d1;omega
theorem Places.start (h:Places u0 u1 u2 lu lv top v2 P U V) :
  (u0*4294967296+u1) / top*top+(u0*4294967296+u1) % top=u0*4294967296+u1∧0≤(u0*4294967296+u1) % top∧(u0*4294967296+u1) % top<top ∧
  0≤(u0*4294967296+u1) / top∧(u0*4294967296+u1) / top≤4294967297∧U<((u0*4294967296+u1) / top+1)*V:=by
 have hh:=h.head;obtain⟨hU,hV,a0,a1,b0,b1,d0,d1,d2,e1,e2,lt⟩:=h;generalize hq:u0*4294967296+u1=q at *;have h1:q / top*top+q % top=q:=by rw[Int.mul_comm];exact Int.mul_ediv_add_emod q top
 have h2:=Int.emod_nonneg q (show top≠0 by omega);have h3:=Int.emod_lt_of_pos q (show 0<top by omega);have h4:0≤q / top:=Int.ediv_nonneg hh.1 (by omega);refine⟨h1,h2,h3,h4,?_,?_⟩
 ·have:q / top<4294967298:=by
   apply Int.ediv_lt_of_lt_mul (by omega);omega
  omega
 ·generalize q / top=g at *;generalize q % top=r at *;have hX:(q*4294967296+u2)+1≤(g+1)*(top*4294967296+v2):=by
   have e:(g+1)*(top*4294967296+v2)=(g*top+top)*4294967296+(g+1)*v2:=by grind
   have e2:0≤(g+1)*v2:=Int.mul_nonneg (by omega) e2.1;rw[e];generalize (g+1)*v2=z at *;generalize g*top=gt at *;omega
  have h5:=Int.mul_le_mul_of_nonneg_left hX (show 0≤P by omega);have h6:P*((g+1)*(top*4294967296+v2))=(g+1)*(P*(top*4294967296+v2)):=by grind
  rw[h6,Int.mul_add,Int.mul_one] at h5;have h7:(g+1)*(P*(top*4294967296+v2))≤(g+1)*V:=Int.mul_le_mul_of_nonneg_left (by omega) (by omega);generalize (g+1)*(P*(top*4294967296+v2))=x at *;generalize (g+1)*V=y at *;generalize P*(q*4294967296+u2)=z at *;omega
theorem Places.dec (h:Places u0 u1 u2 lu lv top v2 P U V) (hg:0≤g) (hr:0≤rest) (hq:g*top+rest=u0*4294967296+u1) (hc:4294967296≤g∨rest*4294967296+u2<g*v2) :
  1≤g∧U<g*V:=by
 obtain⟨hU,hV,a0,a1,b0,b1,d0,d1,d2,e1,e2,lt⟩:=h;have hg1:1≤g:=by
  rcases hc with hc | hc
  ·omega
  ·rcases Int.lt_or_le 0 g with h0 | h0
   ·omega
   ·obtain rfl:g=0:=by omega
    rw[Int.zero_mul] at hc;omega
 refine⟨hg1,?_⟩;have hV0:0≤V:=by
  have:=Int.mul_nonneg (show 0≤P by omega) (show 0≤top*4294967296+v2 by omega);omega
 rcases hc with hc | hc
 ·have h1:4294967296*V≤g*V:=Int.mul_le_mul_of_nonneg_right hc hV0;omega
 ·generalize hq':u0*4294967296+u1=q at *;have hX:(q*4294967296+u2)+1≤g*(top*4294967296+v2):=by
   have e:g*(top*4294967296+v2)=(g*top)*4294967296+g*v2:=by grind
   rw[e];generalize g*v2=z at *;generalize g*top=gt at *;omega
  have h5:=Int.mul_le_mul_of_nonneg_left hX (show 0≤P by omega);have h6:P*(g*(top*4294967296+v2))=g*(P*(top*4294967296+v2)):=by grind
  rw[h6,Int.mul_add,Int.mul_one] at h5;have h7:g*(P*(top*4294967296+v2))≤g*V:=Int.mul_le_mul_of_nonneg_left (by omega) hg;generalize g*(P*(top*4294967296+v2))=x at *;generalize g*V=y at *;generalize P*(q*4294967296+u2)=z at *;omega
theorem Places.stop (h:Places u0 u1 u2 lu lv top v2 P U V) (hg:0≤g) (hq:g*top+rest=u0*4294967296+u1)
  (hc:4294967296≤rest∨(g<4294967296∧g*v2≤rest*4294967296+u2)):g<4294967296∧(g-1)*V≤U:=by
 have hh:=h.head;obtain⟨hU,hV,a0,a1,b0,b1,d0,d1,d2,e1,e2,lt⟩:=h;generalize hq':u0*4294967296+u1=q at *;have hgB:g<4294967296:=by
  rcases hc with hc | hc
  ·refine Int.not_le.1 fun hge => ?_
   have:=Int.mul_le_mul_of_nonneg_right hge (show 0≤top by omega);omega
  ·exact hc.1
 refine⟨hgB,?_⟩;have hX:g*(top*4294967296+v2)≤q*4294967296+u2:=by
  have e:g*(top*4294967296+v2)=(g*top)*4294967296+g*v2:=by grind
  rw[e];rcases hc with hc | hc
  ·have h1:g*v2≤4294967295*4294967295:=Int.mul_le_mul (by omega) e2.2 e2.1 (by omega);generalize g*v2=z at *;generalize g*top=gt at *;omega
  ·have h1:=hc.2;generalize g*v2=z at *;generalize g*top=gt at *;omega
 have hY:0≤top*4294967296+v2:=by omega
 have hPX:0≤P*(q*4294967296+u2):=Int.mul_nonneg (by omega) (by omega);have hPY:0≤P*(top*4294967296+v2):=Int.mul_nonneg (by omega) hY;rcases Int.lt_or_le 0 g with h0 | h0
 ·have h1:(g-1)*V≤(g-1)*(P*(top*4294967296+v2)+P):=Int.mul_le_mul_of_nonneg_left (by omega) (by omega);have h2:(g-1)*(P*(top*4294967296+v2)+P)=P*(g*(top*4294967296+v2)-(top*4294967296+v2)+g-1):=by grind
  have h3:P*(g*(top*4294967296+v2)-(top*4294967296+v2)+g-1)≤P*(q*4294967296+u2):=by
   refine Int.mul_le_mul_of_nonneg_left ?_ (by omega);generalize g*(top*4294967296+v2)=z at *;omega
  rw[h2] at h1;omega
 ·obtain rfl:g=0:=by omega
  omega
end
theorem QU {low Bj U V g bor W Bn:Int} (hlow:0≤low∧low<Bj) (hb:bor=0∨bor=1) (hW:W=low+Bj*U-Bj*(g*V)+Bj*Bn*bor) (hW0:0≤W∧W<Bj*Bn) :
  (bor=0→g*V≤U)∧(bor=1→U<g*V):=by
 constructor
 ·rintro rfl;rw[Int.mul_zero,Int.add_zero] at hW;refine Int.not_lt.1 fun hc => ?_
  have h1:Bj*U+Bj≤Bj*(g*V):=by
   have:=Int.mul_le_mul_of_nonneg_left (show U+1≤g*V by omega) (show 0≤Bj by omega);rw[Int.mul_add,Int.mul_one] at this;exact this
  omega
 ·rintro rfl;rw[Int.mul_one] at hW;refine Int.not_le.1 fun hc => ?_
  have h1:=Int.mul_le_mul_of_nonneg_left hc (show 0≤Bj by omega);omega
theorem QV {low Bj U V g:Int} (hlow:0≤low∧low<Bj) (h:U<(g+1)*V):low+Bj*U-Bj*(g*V)<V*Bj:=by
 have h2:U-g*V+1≤V:=by rw[Int.add_mul,Int.one_mul] at h;omega
 have h1:=Int.mul_le_mul_of_nonneg_left h2 (show 0≤Bj by omega);have e:Bj*(U-g*V+1)=Bj*U-Bj*(g*V)+Bj:=by grind
 have e2:V*Bj=Bj*V:=Int.mul_comm ..;omega
theorem QW {low Bj U V g c W W2 Bn:Int} (hlow:0≤low∧low<Bj) (hc:c=0∨c=1) (hW:W=low+Bj*U-Bj*(g*V)+Bj*Bn) (hW2:W2=W+Bj*V-Bj*Bn*c) (hb:0≤W2∧W2<Bj*Bn) (hle:(g-1)*V≤U) :
  W2=low+Bj*U-Bj*((g-1)*V):=by
 have e:Bj*((g-1)*V)=Bj*(g*V)-Bj*V:=by grind
 have h1:=Int.mul_le_mul_of_nonneg_left hle (show 0≤Bj by omega);rcases hc with rfl | rfl
 ·rw[Int.mul_zero] at hW2;omega
 ·rw[Int.mul_one] at hW2;omega
end Go.Proofs.Ytdchbabgopglcaa
namespace Go.Proofs.Ytdchbabgopglcaa.M
open Go.RowKit
inductive Opd where
 |t (n:Nat)
 |k (v:AV)
def Opd.ev (r:Nat→AV):Opd→AV
 |.t n=>r n
 |.k v=>v
inductive AOp where
 |mov (x:Opd)
 |nilCheck (x:Opd)
 |pick (c a b:Opd)
 |alloc (T sz:Nat) (z:AV)
 |box (T sz:Nat) (x:Opd)
 |build (z:List AV) (parts:List (Nat×Nat×Opd))
 |buildSlice (T sz:Nat) (z:D) (n:Nat) (parts:List (Nat×Opd))
 |buildSliceF (T sz:Nat) (z:D) (n:Nat) (parts:List (Nat×Opd))
 |buildSliceP (T sz:Nat) (z:D) (n:Nat) (parts:List (Nat×Opd))
 |load (ag:Bool) (sz:Nat) (x:Opd)
 |loadP (ag:Bool) (sz:Nat) (x:Opd)
 |indexAddrP (sz:Nat) (x i:Opd)
 |store (sz:Nat) (x v:Opd)
 |bin (bo:Bool) (op:BinOp) (x y:Opd)
 |eqs (n:Nat) (neg:Bool) (x y:Opd)
 |un (op:UnOp) (x:Opd)
 |conv (k:IntKind) (x:Opd)
 |strB (x:Opd)
 |bytS (T:TypeId) (x:Opd)
 |makeSlice (T sz bytes:Nat) (z:D) (l c:Opd)
 |slice (sz:Nat) (x:Opd) (lo hi mx:Option Opd)
 |sliceS (x:Opd) (lo hi:Option Opd)
 |fieldAddr (off sz:Nat) (ag:Bool) (x:Opd)
 |field (off sz:Nat) (ag:Bool) (x:Opd)
 |indexAddr (sz:Nat) (x i:Opd)
 |index (x i:Opd)
 |extract (x:Opd) (i:Nat)
 |len (x:Opd)
 |cap (x:Opd)
 |lenS (x:Opd)
 |mm (mx:Bool) (x y:Opd)
 |append (T sz bytes:Nat) (x y:Opd)
 |appendF (T sz bytes:Nat) (x y:Opd)
 |appZ (T sz bytes:Nat) (z:D) (x n:Opd)
 |call (f:FuncId) (args:List Opd)
 |fnv (fn:Fn) (first captured:List Opd)
 |callL (f:FuncId) (k:Nat) (args:List Opd)
 |callv (fs:List FuncId) (x:Opd) (args:List Opd)
 |callN (f:FuncId) (T:TypeId) (args:List Opd)
 |callW (f:FuncId) (A:List TypeId) (args:List Opd)
 |sliceA (n:Nat) (x:Opd) (lo hi mx:Option Opd)
 |copyA (x y:Opd)
 |isNil (neg:Bool) (x:Opd)
 |clearS (sz:Nat) (z:D) (x:Opd)
 |indexAddrA (n esz:Nat) (ag:Bool) (x i:Opd)
 |indexA (n esz:Nat) (ag:Bool) (x i:Opd)
 |copyS (T sz bytes:Nat) (y:Opd)
 |copyF (T sz bytes:Nat) (y:Opd)
 |bad
def inK:IntKind→Int→Bool
 |.i8,n=>decide (-128≤n∧n≤127)
 |.i16,n=>decide (-32768≤n∧n≤32767)
 |.i32,n=>decide (-2147483648≤n∧n≤2147483647)
 |.i64,n=>decide (-9223372036854775808≤n∧n≤9223372036854775807)
 |.u8,n=>decide (0≤n∧n≤255)
 |.u16,n=>decide (0≤n∧n≤65535)
 |.u32,n=>decide (0≤n∧n≤4294967295)
 |.u64,n=>decide (0≤n∧n≤18446744073709551615)
def eW (l:List D) (off sz:Nat) (ag:Bool):Option D:=
 if ag then (if off+sz≤l.length then some (.agg ((l.drop off).take sz)) else none) else l[off]?
def fS (l:List AV) (off sz:Nat) (ag:Bool):Option AV:=
 if ag then (if off+sz≤l.length then some (.agg ((l.drop off).take sz)) else none) else l[off]?
def D.part (d:D) (off sz:Nat) (ag:Bool):Option D:=eW d.cells off sz ag
def AV.part (v:AV) (off sz:Nat) (ag:Bool):Option AV:=
 match v with
 |.p d=>(d.part off sz ag).map .p
 |v=>fS v.cells off sz ag
def AV.get (v:AV) (off sz osz:Nat) (ag:Bool):Option AV:=
 if off=0∧sz=osz∧v.isAgg=some ag then some v else v.part off sz ag
mutual
def AV.pure:AV→Option D
 |.p d=>some d
 |.nils T sz=>some (.list T sz [])
 |.agg l=>(dV l).map .agg
 |_=>none
def dV:List AV→Option (List D)
 |[]=>some []
 |v::l=>match v.pure,dV l with
  |some d,some ds=>some (d::ds)
  |_,_=>none
end
def AV.mk (l:List AV):AV:=match dV l with
 |some ds => .p (.agg ds)
 |none => .agg l
def AV.mkS (x:AV) (l:List AV):AV:=match x with | .nils _ _ => .agg l | _=>AV.mk l
mutual
def AV.toD (any:Bool) (M:Mem):Nat→AV→Option D
 |0,_=>none
 |n+1,v=>match v with
  |.p d=>some d
  |.nils T sz=>some (.list T sz [])
  |.agg l=>(cK any M n l).map .agg
  |.tup l=>(cK any M n l).map .tup
  |.slice id off len=>match M id with
   |some o=>match o.cont with
    |.row l=>if (o.frz||any)&&decide (off+len≤l.length) then some (.list o.T o.sz ((l.drop off).take len)) else none
    |_=>none
   |none=>none
  |.ptr id i off=>if i=0∧off=0 then match M id with
   |some o=>match o.cont with
    |.box v=>if o.frz||any then (AV.toD any M n v).map .ref else none
    |_=>none
   |none=>none else none
  |.arr id off len=>match M id with
   |some o=>match o.cont with
    |.box (.p d)=>if (o.frz||any)&&decide (off+len≤d.cells.length)&&decide (len≤9223372036854775807) then some (.list 1000000 1 ((d.cells.drop off).take len)) else none
    |_=>none
   |none=>none
  |.und=>none
  |.cell=>none
def cK (any:Bool) (M:Mem):Nat→List AV→Option (List D)
 |0,_=>none
 |n+1,l=>match l with
  |[]=>some []
  |v::l=>match AV.toD any M n v,cK any M n l with
   |some d,some ds=>some (d::ds)
   |_,_=>none
end
def asI:AV→Option Int
 |.p (.int _ n)=>some n
 |_=>none
def a6 (op:BinOp) (a b:Nat):Nat:=match op with
 |.and=>a &&& b
 |.or=>a ||| b
 |.xor=>a ^^^ b
 |_=>a ^^^ (a &&& b)
def cC (k:IntKind) (a b:Int):Bool:=decide (0≤a∧0≤b)&&inK k a&&inK k b
def aL (op:BinOp):D→D→Option (Bool×D)
 |.int k a,.int k' b =>
  match op with
  |.shl=>some (decide (0≤b∧b<k.bits)&&inK k (a*2^b.toNat),.int k (a*2^b.toNat))
  |.shr=>some (decide (0≤b∧b<k.bits),.int k (a / 2^b.toNat))
  |op=>if k=k' then
   match op with
   |.add=>some (inK k (a+b),.int k (a+b))
   |.sub=>some (inK k (a-b),.int k (a-b))
   |.mul=>some (inK k (a*b),.int k (a*b))
   |.quo=>some (decide (b≠0)&&inK k (a.tdiv b),.int k (a.tdiv b))
   |.rem=>some (decide (b≠0),.int k (a.tmod b))
   |.and=>some (cC k a b,.int k (a6 .and a.toNat b.toNat:Nat))
   |.or=>some (cC k a b,.int k (a6 .or a.toNat b.toNat:Nat))
   |.xor=>some (cC k a b,.int k (a6 .xor a.toNat b.toNat:Nat))
   |.andNot=>some (cC k a b,.int k (a6 .andNot a.toNat b.toNat:Nat))
   |.eql=>some (true,.bool (decide (a=b)))
   |.neq=>some (true,.bool (!decide (a=b)))
   |.lss=>some (true,.bool (decide (a<b)))
   |.leq=>some (true,.bool (decide (a≤b)))
   |.gtr=>some (true,.bool (decide (b<a)))
   |.geq=>some (true,.bool (decide (b≤a)))
   |_=>none
   else none
 |.str a,.str b =>
  match op with
  |.add=>some (decide (a.length+b.length≤9223372036854775807),.str (a++b))
  |.eql=>some (true,.bool (decide (a=b)))
  |.neq=>some (true,.bool (!decide (a=b)))
  |_=>none
 |.bool a,.bool b =>
  match op with
  |.eql=>some (true,.bool (a == b))
  |.neq=>some (true,.bool (!(a == b)))
  |_=>none
 |_,_=>none
def D.isBool:D→Bool
 |.bool _=>true
 |_=>false
def dW:List D→Option (List IntKind×List Int)
 |[]=>some ([],[])
 |.int k n::l=>(dW l).map fun p=>(k::p.1,n::p.2)
 |_=>none
def unD (op:UnOp):D→Option (Bool×D)
 |.int k a=>match op with
  |.neg=>some (inK k (-a),.int k (-a))
  |_=>none
 |.bool a=>match op with
  |.not=>some (true,.bool (!a))
  |_=>none
 |_=>none
def cZ (cells:List AV) (r:Nat→AV):List (Nat×Nat×Opd)→Option (List AV)
 |[]=>some cells
 |(off,sz,x)::rest =>
  if (x.ev r).cells.length=sz∧off+sz≤cells.length∧(x.ev r).cells.all AV.one=true then cZ (cells.take off++(x.ev r).cells++cells.drop (off+sz)) r rest else none
def cD (sz:Nat) (l:List D) (r:Nat→AV) (M:Mem):List (Nat×Opd)→Option (List D)
 |[]=>some l
 |(i,x)::rest=>match (x.ev r).toD false M 20 with
  |some d=>if d.cells.length=sz∧d.cells.all D.one=true∧i<l.length then cD sz (l.set i d) r M rest else none
  |none=>none
def dC (sz:Nat) (l:List D) (r:Nat→AV):List (Nat×Opd)→Option (List D)
 |[]=>some l
 |(i,x)::rest=>match x.ev r with
  |.p d=>if d.cells.length=sz∧d.cells.all D.one=true∧i<l.length then dC sz (l.set i d) r rest else none
  |_=>none
def bL (r:Nat→AV) (len:Nat) (lo hi mx:Option Opd):Option (Bool×Nat×Nat):=
 match (match lo with | none=>some 0 | some x=>asI (x.ev r)),(match hi with | none=>some (len:Int) | some x=>asI (x.ev r)) with
 |some l,some h=>match mx with
  |none=>some (decide (0≤l∧l≤h∧h≤len),l.toNat,h.toNat)
  |some y=>match asI (y.ev r) with
   |some m=>some (decide (0≤l∧l≤h∧h≤m∧m≤len),l.toNat,h.toNat)
   |none=>none
 |_,_=>none
def forget1 (id:Nat):AV→AV
 |.slice i off len=>if i=id then .cell else .slice i off len
 |.ptr i j off=>if i=id then .cell else .ptr i j off
 |.arr i j off=>if i=id then .cell else .arr i j off
 |v=>v
mutual
def AV.forget (id:Nat):AV→AV
 |.slice i off len=>if i=id then .und else .slice i off len
 |.ptr i j off=>if i=id then .und else .ptr i j off
 |.arr i j off=>if i=id then .und else .arr i j off
 |.agg l => .agg (l.map (forget1 id))
 |.tup l=>match iw id l with
  |some l => .tup l
  |none => .und
 |v=>v
def iw (id:Nat):List AV→Option (List AV)
 |[]=>some []
 |v::l=>match v.forget id,iw id l with
  |.und,_=>none
  |v,some l=>some (v::l)
  |_,none=>none
end
def bx (sz:Nat) (m:Mem):AV→Option (List D)
 |.slice j off n=>match m j with
  |some ⟨_,sz',.row l,_⟩=>if sz'=sz∧off+n≤l.length then some ((l.drop off).take n) else none
  |_=>none
 |.p (.list _ sz' l)=>if sz'=sz then some l else none
 |.nils _ sz'=>if sz'=sz then some [] else none
 |_=>none
def ck (r:Nat→AV) (M:Mem):List Opd→Option (List D)
 |[]=>some []
 |x::l=>match (x.ev r).toD false M 20,ck r M l with
  |some d,some ds=>some (d::ds)
  |_,_=>none
def gD:List D→Option (List UInt8)
 |[]=>some []
 |.int .u8 n::l=>if 0≤n∧n≤255 then (gD l).map (UInt8.ofNat n.toNat::·) else none
 |_=>none
def ev (o:AOp) (id:Nat) (s:St):Option (Bool×AV×St):=
 match o with
 |.mov x=>some (true,x.ev s.r,s)
 |.nilCheck x=>match x.ev s.r with
  |.ptr i j o=>some (true,.ptr i j o,s)
  |.p (.ref d)=>some (true,.p (.ref d),s)
  |_=>none
 |.pick c a b=>match c.ev s.r with
  |.p (.bool true)=>some (true,a.ev s.r,s)
  |.p (.bool false)=>some (true,b.ev s.r,s)
  |_=>none
 |.alloc T sz z=>match s.m id with
  |none=>some (true,.ptr id 0 0,⟨s.r,upd s.m id (some ⟨T,sz,.box z,false⟩)⟩)
  |some _=>none
 |.box T sz x=>match s.m id with
  |none=>if (x.ev s.r).cells.length=sz∧(x.ev s.r).cells.all AV.one=true then some (true,.ptr id 0 0,⟨s.r,upd s.m id (some ⟨T,sz,.box (x.ev s.r),false⟩)⟩) else none
  |some _=>none
 |.build z parts=>match cZ z s.r parts with
  |some l=>some (true,AV.mk l,s)
  |none=>none
 |.buildSlice T sz z n parts=>match s.m id with
  |none=>match cD sz (List.replicate n z) s.r s.m parts with
   |some l=>some (true,.slice id 0 n,⟨s.r,upd s.m id (some ⟨T,sz,.row l,false⟩)⟩)
   |none=>none
  |some _=>none
 |.buildSliceP T sz z n parts=>match s.m id with
  |none=>match dC sz (List.replicate n z) s.r parts with
   |some l=>some (true,.slice id 0 n,⟨s.r,upd s.m id (some ⟨T,sz,.row l,false⟩)⟩)
   |none=>none
  |some _=>none
 |.buildSliceF T sz z n parts=>if id=aQ then none else match s.m id with
  |none=>match cD sz (List.replicate n z) s.r s.m parts with
   |some l=>some (true,.slice id 0 n,⟨s.r,upd s.m id (some ⟨T,sz,.row l,true⟩)⟩)
   |none=>none
  |some _=>none
 |.loadP ag sz x=>match x.ev s.r with
  |.p (.ref d)=>if d.isAgg=ag then some (decide (d.cells.length=sz∧0<sz),.p d,s) else none
  |_=>none
 |.indexAddrP sz x i=>match x.ev s.r,asI (i.ev s.r) with
  |.p (.list _ sz' t),some n=>if sz=sz' then some (decide (0≤n∧n<t.length),.p (.ref (t.getD n.toNat default)),s) else none
  |_,_=>none
 |.load ag sz x=>match x.ev s.r with
  |.ptr i j off=>match s.m i with
   |some ⟨_,osz,.row l,_⟩=>match (AV.p (l.getD j default)).get off sz osz ag with
    |some v=>some (decide (j<l.length),v,s)
    |none=>none
   |some ⟨_,osz,.box v,_⟩=>if j=0 then match v.get off sz osz ag with
    |some u=>some (true,u,s)
    |none=>none else none
   |_=>none
  |.p (.ref d)=>if d.isAgg=ag then some (decide (d.cells.length=sz∧0<sz),.p d,s) else none
  |_=>none
 |.store sz x v=>match x.ev s.r with
  |.ptr i j off=>match s.m i with
   |some ⟨T,osz,.row l,false⟩=>match (v.ev s.r).toD false s.m 20 with
    |some d=>if d.cells.length=sz∧d.cells.all D.one=true then
      (
       if off=0∧sz=osz then some (decide (j<l.length),.und,⟨s.r,upd s.m i (some ⟨T,osz,.row (l.set j d),false⟩)⟩)
       else if off+sz≤osz then some (decide (j<l.length),.und,⟨s.r,upd s.m i (some ⟨T,osz,.row (l.set j (.agg ((l.getD j default).cells.take off++d.cells++(l.getD j default).cells.drop (off+sz)))),false⟩)⟩) else none) else none
    |none=>none
   |some ⟨T,osz,.box u,false⟩=>if (v.ev s.r).cells.length=sz∧(v.ev s.r).cells.all AV.one=true∧j=0 then
     (
      if off=0∧sz=osz then some (true,.und,⟨s.r,upd s.m i (some ⟨T,osz,.box (v.ev s.r),false⟩)⟩)
      else if off+sz≤osz then some (true,.und,⟨s.r,upd s.m i (some ⟨T,osz,.box (AV.mkS (v.ev s.r) (u.cells.take off++(v.ev s.r).cells++u.cells.drop (off+sz))),false⟩)⟩) else none) else none
   |some ⟨T,osz,.junk,false⟩=>if (v.ev s.r).cells.length=sz∧(v.ev s.r).cells.all AV.one=true∧j=0 then
     (if off=0∧sz=osz then some (true,.und,⟨s.r,upd s.m i (some ⟨T,osz,.box (v.ev s.r),false⟩)⟩) else none) else none
   |_=>none
  |_=>none
 |.bin bo op x y=>match x.ev s.r,y.ev s.r with
  |.p a,.p b=>if a.isBool=bo then match aL op a b with
   |some (c,d)=>some (c,.p d,s)
   |none=>none else none
  |_,_=>none
 |.eqs n neg x y=>match x.ev s.r,y.ev s.r with
  |.p (.agg a),.p (.agg b)=>match dW a,dW b with
   |some (k,l),some (k',m)=>if k=k'∧k.length=n then some (true,.p (.bool (if neg then !decide (l=m) else decide (l=m))),s) else none
   |_,_=>none
  |_,_=>none
 |.un op x=>match x.ev s.r with
  |.p a=>match unD op a with
   |some (c,d)=>some (c,.p d,s)
   |none=>none
  |_=>none
 |.conv k x=>match x.ev s.r with
  |.p (.int _ n)=>some (inK k n,.p (.int k n),s)
  |_=>none
 |.strB x=>match bx 1 s.m (x.ev s.r) with
  |some ys=>match gD ys with
   |some b=>some (true,.p (.str b),s)
   |none=>none
  |none=>none
 |.bytS T x=>match s.m id with
  |none=>match x.ev s.r with
   |.p (.str t)=>some (decide (t.length≤9223372036854775807),.slice id 0 t.length,⟨s.r,upd s.m id (some ⟨T,1,.row (t.map fun b => .int .u8 b.toNat),false⟩)⟩)
   |_=>none
  |some _=>none
 |.makeSlice T sz bytes z l c=>match s.m id with
  |none=>match asI (l.ev s.r),asI (c.ev s.r) with
   |some n,some m=>some (decide (0≤n∧n=m∧bytes*n≤281474976710656∧n≤9223372036854775807),.slice id 0 n.toNat,⟨s.r,upd s.m id (some ⟨T,sz,.row (List.replicate n.toNat z),false⟩)⟩)
   |_,_=>none
  |some _=>none
 |.appZ T sz bytes z x n=>match s.m id with
  |none=>match x.ev s.r,asI (n.ev s.r) with
   |.nils _ sz',some k=>if sz'=sz∧0<sz then some (decide (0<k∧bytes*k≤140737488355328∧k≤9223372036854775807),.slice id 0 k.toNat,⟨s.r,upd s.m id (some ⟨T,sz,.row (List.replicate k.toNat z),false⟩)⟩) else none
   |_,_=>none
  |some _=>none
 |.sliceS x lo hi=>match x.ev s.r with
  |.p (.str t)=>match bL s.r t.length lo hi none with
   |some (c,l,h)=>some (c,.p (.str ((t.drop l).take (h-l))),s)
   |none=>none
  |_=>none
 |.slice sz x lo hi mx=>match x.ev s.r with
  |.p (.list T sz' t)=>if sz=sz' then match bL s.r t.length lo hi mx with
   |some (c,l,h)=>some (c,.p (.list T sz ((t.drop l).take (h-l))),s)
   |none=>none else none
  |.slice i off len=>match s.m i with
   |some o=>if o.sz=sz then match bL s.r len lo hi mx with
    |some (c,l,h)=>some (c,.slice i (off+l) (h-l),s)
    |none=>none else none
   |none=>none
  |.nils T sz=>match bL s.r 0 lo hi mx with
   |some (c,_,_)=>some (c,.nils T sz,s)
   |none=>none
  |.p (.nils T sz)=>match bL s.r 0 lo hi mx with
   |some (c,_,_)=>some (c,.nils T sz,s)
   |none=>none
  |.arr i off len=>if sz=1 then match bL s.r len lo hi mx with
   |some (c,l,h)=>some (c,.arr i (off+l) (h-l),s)
   |none=>none else none
  |_=>none
 |.fieldAddr off sz ag x=>match x.ev s.r with
  |.ptr i j o=>some (true,.ptr i j (o+off),s)
  |.p (.ref d)=>match d.part off sz ag with
   |some e=>some (true,.p (.ref e),s)
   |none=>none
  |_=>none
 |.field off sz ag x=>if (x.ev s.r).isAgg=some true then match (x.ev s.r).part off sz ag with
  |some v=>some (true,v,s)
  |none=>none else none
 |.indexAddr sz x i=>match x.ev s.r,asI (i.ev s.r) with
  |.p (.list _ sz' t),some n=>if sz=sz' then some (decide (0≤n∧n<t.length),.p (.ref (t.getD n.toNat default)),s) else none
  |.slice j off len,some n=>match s.m j with
   |some o=>if o.sz=sz then some (decide (0≤n∧n<len),.ptr j (off+n.toNat) 0,s) else none
   |none=>none
  |.arr j off len,some n=>if sz=1 then some (decide (0≤n∧n<len),.ptr j 0 (off+n.toNat),s) else none
  |_,_=>none
 |.sliceA n x lo hi mx=>match x.ev s.r with
  |.ptr i 0 off=>match s.m i with
   |some ⟨_,osz,.box _,_⟩=>if off+n≤osz∧n≤9223372036854775807 then match bL s.r n lo hi mx with
    |some (c,l,h)=>some (c,.arr i (off+l) (h-l),s)
    |none=>none else none
   |_=>none
  |_=>none
 |.clearS sz z x=>match x.ev s.r with
  |.slice i off len=>match s.m i with
   |some ⟨T,osz,.row l,false⟩=>if osz=sz then some (decide (off+len≤l.length),.und,⟨s.r,upd s.m i (some ⟨T,osz,.row (l.take off++List.replicate len z++l.drop (off+len)),false⟩)⟩) else none
   |_=>none
  |_=>none
 |.copyA x y=>match x.ev s.r,bx 1 s.m (y.ev s.r) with
  |.arr i off len,some ys=>match s.m i with
   |some ⟨T,osz,.box u,false⟩=>if off+len≤osz∧ys.all D.one=true then
     some (decide (ys.length≤len),.p (.int .i64 (ys.length:Nat)),⟨s.r,upd s.m i (some ⟨T,osz,.box (AV.mk (u.cells.take off++ys.map .p++u.cells.drop (off+ys.length))),false⟩)⟩) else none
   |_=>none
  |_,_=>none
 |.indexAddrA n esz ag x i=>match x.ev s.r,asI (i.ev s.r) with
  |.ptr j k off,some q=>some (decide (0≤q∧q<n),.ptr j k (off+q.toNat*esz),s)
  |.p (.ref d),some q=>match d.part (q.toNat*esz) esz ag with
   |some e=>some (decide (0≤q∧q<n),.p (.ref e),s)
   |none=>none
  |_,_=>none
 |.indexA n esz ag x i=>match asI (i.ev s.r) with
  |some q=>if (x.ev s.r).isAgg=some true then match (x.ev s.r).part (q.toNat*esz) esz ag with
   |some v=>some (decide (0≤q∧q<n),v,s)
   |none=>none else none
  |none=>none
 |.copyS T sz bytes y=>match s.m id,bx sz s.m (y.ev s.r) with
  |none,some ys=>some (decide (ys.length*bytes≤140737488355328∧ys.length≤9223372036854775807),.slice id 0 ys.length,⟨s.r,upd s.m id (some ⟨T,sz,.row ys,false⟩)⟩)
  |_,_=>none
 |.copyF T sz bytes y=>if id=aQ then none else match s.m id,bx sz s.m (y.ev s.r) with
  |none,some ys=>some (decide (ys.length*bytes≤140737488355328∧ys.length≤9223372036854775807),.slice id 0 ys.length,⟨s.r,upd s.m id (some ⟨T,sz,.row ys,true⟩)⟩)
  |_,_=>none
 |.fnv fn x y=>match ck s.r s.m x,ck s.r s.m y with
  |some l,some k=>some (true,.p (.fn fn l k),s)
  |_,_=>none
 |.index x i=>match x.ev s.r,asI (i.ev s.r) with
  |.p (.str t),some n=>some (decide (0≤n∧n<t.length),.p (.int .u8 ((t.getD n.toNat 0).toNat:Int)),s)
  |_,_=>none
 |.extract x i=>match x.ev s.r with
  |.p (.tup l)=>(l[i]?).map fun d=>(true,.p d,s)
  |.tup l=>(l[i]?).map fun d=>(true,d,s)
  |_=>none
 |.mm mx x y=>match x.ev s.r,y.ev s.r with
  |.p (.int k p),.p (.int k' q)=>if k=k' then some (true,.p (.int k (if mx then (if q > p then q else p) else (if q<p then q else p))),s) else none
  |_,_=>none
 |.lenS x=>match x.ev s.r with
  |.p (.str t)=>some (true,.p (.int .i64 t.length),s)
  |_=>none
 |.cap x=>match x.ev s.r with
  |.p (.nils _ _)=>some (true,.p (.int .i64 (0:Nat)),s)
  |_=>none
 |.len x=>match x.ev s.r with
  |.p (.nils _ _)=>some (true,.p (.int .i64 (0:Nat)),s)
  |.p (.list _ _ t)=>some (true,.p (.int .i64 t.length),s)
  |.slice _ _ n=>some (true,.p (.int .i64 n),s)
  |.nils _ _=>some (true,.p (.int .i64 0),s)
  |.arr _ _ n=>some (true,.p (.int .i64 n),s)
  |_=>none
 |_=>none
def cE (id:Nat) (s:St):St:=if id=aQ then s else match s.m id with
 |some o=>⟨s.r,upd s.m id (some ⟨o.T,o.sz,o.cont,true⟩)⟩
 |none=>s
def AObj.forget (id:Nat) (o:AObj):AObj:=match o.cont with
 |.box v=>match v.forget id with
  |.und=>⟨o.T,o.sz,.junk,o.frz⟩
  |u=>⟨o.T,o.sz,.box u,o.frz⟩
 |_=>o
def eX (id:Nat) (r:Nat→AV):Nat→AV:=fun t=>(r t).forget id
def cF (id:Nat) (m:Mem):Mem:=fun j=>(m j).map (AObj.forget id)
def dk (T sz bytes:Nat) (x y:Opd) (id:Nat) (s:St):Option (Bool×AV×St):=
 match bx sz s.m (y.ev s.r) with
 |none=>none
 |some ys=>match x.ev s.r with
  |.nils _ sz'=>match s.m id with
   |none=>if sz'=sz then some (decide (ys.length*bytes≤140737488355328∧ys.length≤9223372036854775807),.slice id 0 ys.length,⟨s.r,upd s.m id (some ⟨T,sz,.row ys,false⟩)⟩) else none
   |some _=>none
  |.slice i 0 n=>match s.m i with
   |some ⟨T',sz',.row l,false⟩=>if sz'=sz∧T'=T∧n=l.length∧i≠aQ then
     some (decide ((n+ys.length)*bytes≤140737488355328∧n+ys.length≤9223372036854775807),.slice i 0 (n+ys.length),⟨eX i s.r,upd (cF i s.m) i (some ⟨T,sz,.row (l++ys),false⟩)⟩) else none
   |_=>none
  |_=>none
end Go.Proofs.Ytdchbabgopglcaa.M
