/- Boxes: a variable's block, known whole. The digits of a number: plain laws. The reference's word, digitsOf, zread, ZParse. A region in whatever order: what holds behind each operation (S), and two conditions more (A, B), of which each holds till one store (number xa, xb) has come: what is read under A is read ahead of that store. The reference's zread, ZParse. The reference's ZParse. -/
import Derived.Test.YtdjbfgfbpimakaaDivDx
import Derived.Test.YtdjbfgfbpimakaaParseBx
import Derived.Test.YtdjbfgfbpimakaaK4
section
namespace Go.Proofs.Ytdjbfgfbpimakaa
open Go.RowKit
def Box (w:World) (n:Nat) (T:TypeId) (vs:Array Value):Prop:=w.heap[n]? = some (.cells vs T (0,0))
abbrev iv (x:IV):Array Value:=#[.bool x.n,.slice x.s.a x.s.len x.s.cap]
abbrev zI:IV:=⟨false,⟨none,0,0⟩⟩
section
variable {w w':World} {n:Nat} {T:TypeId} {vs:Array Value}
theorem Box.lt (h:Box w n T vs):n<w.heap.size:=by
  rcases Nat.lt_or_ge n w.heap.size with hlt | hge
  · exact hlt
  · unfold Box at h;rw[Array.getElem?_eq_none hge] at h;cases h
theorem Box.ty (h:Box w n T vs):Ty w n T:=⟨_,_,h⟩
theorem Box.cell (h:Box w n T vs) (i:Nat) {v:Value} (hi:vs[i]? = some v):w.cell? ⟨n,i,none⟩=some v:=by
  unfold Box at h
  simp[World.cell?,h,hi]
theorem Box.frozen (h:Box w n T vs) (i:Nat):w.frozen? ⟨n,i,none⟩=false:=by
  unfold Box at h
  simp[World.frozen?,h]
theorem Box.keep (h:Box w n T vs) (e:Ext w w'):Box w' n T vs:=(e.block n h.lt).trans h
theorem Box.dr (h:Box w n T vs):Box w.drew n T vs:=h
theorem Box.al (h:Box w n T vs) (o:Obj):Box (w.alloc o) n T vs:=h.keep ((Ext.rf w).al o)
theorem Box.far (h:Box w n T vs) {p:Addr} (hp:n≠p.block) (u:Value):Box (w.setCell p u) n T vs:=(Below.heap_setCell w p u n hp).trans h
theorem Box.far2 {m:Nat} (h:Box w n T vs) (hm:n≠m) (u v:Value):Box ((w.setCell ⟨m,0,none⟩ u).setCell ⟨m,1,none⟩ v) n T vs:=(h.far (p:=⟨m,0,none⟩) hm u).far (p:=⟨m,1,none⟩) hm v
theorem Box.new {w:World} {n:Nat} {T:TypeId} {vs:Array Value} (hn:n=w.heap.size):Box (w.alloc (.cells vs T)) n T vs:=by subst hn;exact heap_alloc_new w _
theorem Box.set2 {a b:Value} (h:Box w n T #[a,b]) (u v:Value):Box ((w.setCell ⟨n,0,none⟩ u).setCell ⟨n,1,none⟩ v) n T #[u,v]:=by
  unfold Box at h ⊢
  simp[World.setCell,Array.getElem?_modify,h]
theorem Box.facts {a b:Value} (h:Box w n T #[a,b]):w.cell? ⟨n,0,none⟩=some a∧w.cell? ⟨n,1,none⟩=some b∧w.frozen? ⟨n,0,none⟩=false∧w.frozen? ⟨n,1,none⟩=false:=
  ⟨h.cell 0 rfl,h.cell 1 rfl,h.frozen 0,h.frozen 1⟩
end
theorem IsI.st2 {w:World} {n:Nat} {T:TypeId} {vs:Array Value} {x:IV} {z:Int} (h:IsI w x z) (hb:Box w n T vs) (hT:116≠T) (u v:Value):IsI ((w.setCell ⟨n,0,none⟩ u).setCell ⟨n,1,none⟩ v) x z:=
  h.kept ((Kept.rf _ _).st2 hb.ty hT u v)
theorem IsI.dr {w:World} {x:IV} {z:Int} (h:IsI w x z):IsI w.drew x z:=h.keep (Ext.rf w).dr
theorem Bx.far2 {w:World} {T:TypeId} {n m:Nat} (h:Bx w T n) (hm:n≠m) (u v:Value):Bx ((w.setCell ⟨m,0,none⟩ u).setCell ⟨m,1,none⟩ v) T n:=by
  obtain⟨⟨a,h0⟩,⟨b,h1⟩,f0,f1,t⟩:=h
  refine⟨⟨a,?_⟩,⟨b,?_⟩,by simpa using f0,by simpa using f1,(t.st _ _).st _ _⟩
  · rw[World.cell?_setCell_other _ _ _ _ (by simp),World.cell?_setCell_other _ _ _ _ (by simp)];exact h0
  · rw[World.cell?_setCell_other _ _ _ _ (by simp),World.cell?_setCell_other _ _ _ _ (by simp)];exact h1
theorem Box.bx {w:World} {n:Nat} {T:TypeId} {a b:Value} (h:Box w n T #[a,b]):Bx w T n:=⟨⟨a,h.cell 0 rfl⟩,⟨b,h.cell 1 rfl⟩,h.frozen 0,h.frozen 1,h.ty⟩
def EndSt (L:List (Nat × TypeId)) (w wc w':World):Prop:=
  Ext w w'∧Kept 116 wc w'∧∀ e∈L,w.heap.size≤e.1∧Bx w' e.2 e.1∧116≠e.2
section
variable {L:List (Nat × TypeId)} {w wc w' w'':World}
theorem EndSt.keep (h:EndSt L w wc w') (e:Ext w' w''):EndSt L w wc w'':=
  ⟨h.1.tr e,h.2.1.ex e,fun x hx=>⟨(h.2.2 x hx).1,(h.2.2 x hx).2.1.keep e,(h.2.2 x hx).2.2⟩⟩
theorem EndSt.st2 (h:EndSt L w wc w') {b:Nat} {T:TypeId} (hb:(b,T)∈L) (u v:Value):EndSt L w wc ((w'.setCell ⟨b,0,none⟩ u).setCell ⟨b,1,none⟩ v):=by
  have h0:=h.2.2 _ hb
  refine⟨h.1.st2 h0.1 _ _,h.2.1.st2 h0.2.1.2.2.2.2 h0.2.2 _ _,fun x hx=>⟨(h.2.2 x hx).1,?_,(h.2.2 x hx).2.2⟩⟩
  by_cases e:x.1=b
  · have h1:=(h.2.2 x hx).2.1
    rw[e] at h1 ⊢
    exact h1.st2 _ _
  · exact (h.2.2 x hx).2.1.far2 e _ _
theorem cell_st2 {w:World} {b:Nat} {p:Addr} {x:Value} (h:w.cell? p=some x) (hp:b≠p.block) (u v:Value):((w.setCell ⟨b,0,none⟩ u).setCell ⟨b,1,none⟩ v).cell? p=some x:=by
  rw[World.cell?_setCell_other _ _ _ _ (by intro e;exact hp (by rw[←e])),World.cell?_setCell_other _ _ _ _ (by intro e;exact hp (by rw[←e]))]
  exact h
end
end Go.Proofs.Ytdjbfgfbpimakaa
end

section
namespace Go.Proofs.Ytdjbfgfbpimakaa
open Go.RowKit
def dch (d:Nat):UInt8:=UInt8.ofNat (48+d)
def rdec (n:Nat):List UInt8:=if h:n=0 then [] else dch (n % 10)::rdec (n / 10)
termination_by n
decreasing_by omega
def decN (n:Nat):List UInt8:=if n=0 then [48] else (rdec n).reverse
def dec (z:Int):List UInt8:=if z<0 then 45::decN z.natAbs else decN z.natAbs
theorem rdec_zero:rdec 0=[]:=by rw[rdec];rfl
theorem rdec_pos {n:Nat} (h:0<n):rdec n=dch (n % 10)::rdec (n / 10):=by rw[rdec,dif_neg (by omega)]
theorem dch_toNat {d:Nat} (h:d<10):(dch d).toNat=48+d:=by
 unfold dch
 simp[UInt8.toNat_ofNat']
 omega
theorem readN_nil:readN []=0:=rfl
theorem byt_mem {l:List UInt8} (h:∀ c∈l,48≤c.toNat∧c.toNat≤57):∀ j,j<l.length→48≤byt l j∧byt l j≤57:=by
 intro j hj
 rw[byt_lt hj]
 exact h _ (List.getElem_mem hj)
theorem mem_byt {l:List UInt8} (h:∀ j,j<l.length→48≤byt l j∧byt l j≤57):∀ c∈l,48≤c.toNat∧c.toNat≤57:=by
 intro c hc
 obtain⟨j,hj,rfl⟩:=List.mem_iff_getElem.1 hc
 have:=h j hj
 rwa[byt_lt hj] at this
theorem rdec_inj:∀ (a:List UInt8),(∀ c∈a,48≤c.toNat∧c.toNat≤57)→a.getLast?≠some 48→a=rdec (readN a.reverse).toNat:=by
 intro a
 induction a with
 | nil=>intro _ _;rw[List.reverse_nil,readN_nil];exact rdec_zero.symm
 | cons c t ih =>
  intro hd hl
  have hc:=hd c (List.mem_cons_self ..)
  have ht:t=rdec (readN t.reverse).toNat:=by
   by_cases e:t=[]
   ·subst e;rw[List.reverse_nil,readN_nil];exact rdec_zero.symm
   ·refine ih (fun x hx=>hd x (List.mem_cons_of_mem _ hx)) ?_
    rwa[List.getLast?_cons_of_ne_nil e] at hl
  have hb:0≤readN t.reverse:=(readN_bound (byt_mem (l:=t.reverse) fun x hx=>hd x (List.mem_cons_of_mem _ (List.mem_reverse.1 hx)))).1
  rw[List.reverse_cons,readN_snoc]
  obtain⟨m,hm⟩:=Int.eq_ofNat_of_zero_le hb
  rw[hm] at ht ⊢
  have e:((m:Int)*10+((c.toNat:Int)-48)).toNat=m*10+(c.toNat-48):=by omega
  rw[e]
  simp only[Int.toNat_natCast] at ht
  have hpos:0<m*10+(c.toNat-48):=by
   rcases Nat.eq_zero_or_pos m with h0 | h0
   ·subst h0
    rw[rdec_zero] at ht
    subst ht
    rcases Nat.eq_zero_or_pos (c.toNat-48) with h1 | h1
    ·have:c=48:=UInt8.toNat_inj.1 (by show c.toNat=48;omega)
     subst this
     simp at hl
    ·omega
   ·omega
  rw[rdec_pos hpos,show (m*10+(c.toNat-48)) % 10=c.toNat-48 by omega,show (m*10+(c.toNat-48)) / 10=m by omega,←ht]
  congr 1
  apply UInt8.toNat_inj.1
  rw[dch_toNat (by omega)]
  omega
theorem decN_canon {l:List UInt8} (h:Canon l):decN (readN l).toNat=l:=by
 have hb:=readN_bound h.digs
 by_cases h0:byt l 0=48
 ·have h1:=h.lead h0
  match l,h1,h0 with
  | [c],_,h0 =>
   rw[byt_cons_zero] at h0
   have:c=48:=UInt8.toNat_inj.1 h0
   subst this
   rfl
 ·have hr:=rdec_inj l.reverse (fun c hc=>mem_byt h.digs c (List.mem_reverse.1 hc)) (by
   rw[List.getLast?_reverse]
   intro e
   match l,e,h0 with
   | c::t,e,h0 =>
    simp at e
    subst e
    exact h0 rfl)
  rw[List.reverse_reverse] at hr
  unfold decN
  split
  ·rename_i hz
   rw[hz,rdec_zero] at hr
   have:=h.pos
   rw[List.reverse_eq_nil_iff] at hr
   rw[hr] at this
   simp at this
  ·rw[←hr,List.reverse_reverse]
theorem dec_numVal {t:List UInt8} (h:numOk t=true):dec (numVal t)=t:=by
 obtain⟨hc,hz⟩:=numOk_canon h
 have hb:=readN_bound hc.digs
 have hd:=decN_canon hc
 unfold numVal dec
 cases hn:isNeg t
 ·simp only[sg,Bool.false_eq_true,if_false]
  rw[if_neg (by omega),show (readN (body t)).natAbs=(readN (body t)).toNat by omega,hd,body_pos hn]
 ·have hpos:0<readN (body t):=by
   rcases Int.lt_or_le 0 (readN (body t)) with h1 | h1
   ·exact h1
   ·exfalso
    have e0:readN (body t)=0:=by omega
    rw[e0] at hd
    have:=hz hn
    rw[←hd] at this
    exact this rfl
  simp only[sg,if_true]
  rw[if_pos (by omega),show (-readN (body t)).natAbs=(readN (body t)).toNat by omega,hd,body_neg hn]
  match t,hn with
  | c::r,hn =>
   have:c=45:=by simpa[isNeg] using hn
   subst this
   rfl
end Go.Proofs.Ytdjbfgfbpimakaa
end

section
namespace Go.Proofs.Ytdjbfgfbpimakaa.Z4
open Go.RowKit
end Go.Proofs.Ytdjbfgfbpimakaa.Z4
end

section
namespace Go.Proofs.Ytdjbfgfbpimakaa
open Go.RowKit
section
variable {P:Program} {ops:Array Oper} {Q:Exit→Act→World→Prop} {md:Region.Mode} {S A B:World→Prop} {xa xb:Nat}
def Shows (S A B:World→Prop) (xa xb:Nat) (listed:Array Bool) (w:World):Prop:=S w∧(listed.getD xa true=false→A w)∧(listed.getD xb true=false→B w)
theorem Shows.s {listed:Array Bool} {w:World} (h:Shows S A B xa xb listed w):S w:=h.1
theorem Shows.a {listed:Array Bool} {w:World} (h:Shows S A B xa xb listed w) (hl:listed.getD xa true=false):A w:=h.2.1 hl
theorem Shows.b {listed:Array Bool} {w:World} (h:Shows S A B xa xb listed w) (hl:listed.getD xb true=false):B w:=h.2.2 hl
theorem getD_of_set {listed:Array Bool} {i j:Nat} (h:(listed.setIfInBounds j true).getD i true=false):listed.getD i true=false:=by
 by_cases hij:j=i
 ·subst hij
  rcases Nat.lt_or_ge j listed.size with h' | h'
  ·simp[h'] at h
  ·exfalso;simp[Array.getD,Nat.not_lt.2 h'] at h
 ·rwa[getD_set_ne true hij] at h
theorem Shows.more {listed:Array Bool} {w:World} (h:Shows S A B xa xb listed w) (i:Nat):Shows S A B xa xb (listed.setIfInBounds i true) w:=
 ⟨h.1,fun h'=>h.2.1 (getD_of_set h'),fun h'=>h.2.2 (getD_of_set h')⟩
def wpG (P:Program) (md:Region.Mode) (ops:Array Oper) (Q:Exit→Act→World→Prop) (S A B:World→Prop) (xa xb:Nat):Nat→Array Bool→Act→World→Prop
 | 0,listed,a,w=>Region.ready md ops listed=[]∧Q .normal a w
 | fuel+1,listed,a,w =>
  (Region.ready md ops listed=[]→Q .normal a w) ∧
  ∀ i∈Region.ready md ops listed,wpOp P ops Q i (fun a' w'=>Shows S A B xa xb (listed.setIfInBounds i true) w'∧wpG P md ops Q S A B xa xb fuel (listed.setIfInBounds i true) a' w') a w
theorem wpAny_of_wpG:∀ (fuel:Nat) (listed:Array Bool) (a:Act) (w:World),wpG P md ops Q S A B xa xb fuel listed a w→wpAny P md ops Q fuel listed a w
 | 0,_,_,_,h=>h
 | fuel+1,_,_,_,h=>⟨h.1,fun i hi=>wpOp_mono (fun a' w' h'=>wpAny_of_wpG fuel _ a' w' h'.2) (h.2 i hi)⟩
theorem wpG_first {i:Nat} {oi:Oper} {v:Value} {C:World→Prop} {N:Array Bool→Prop} (hi:ops[i]? = some oi) (hsel:∀ (j:Nat) (o:Oper) cs b,ops[j]? = some o→o.op≠.select cs b)
  (hQ:∀ c a w,Q (.panic c) (a.put oi.dst v) w→Q (.panic c) a w) (hia:i≠xa) (hib:i≠xb)
  (hC:∀ (listed:Array Bool) (w:World),N listed→Shows S A B xa xb listed w→C w)
  (hN:∀ (listed:Array Bool) (j:Nat) (oj:Oper),N listed→ops[j]? = some oj→(∀ e∈oj.after,Region.binds md e=true→e.on≠i)→N (listed.setIfInBounds j true)) :
  ∀ (fuel:Nat) (listed:Array Bool) (a:Act) (w:World),
   (∀ j oj,ops[j]? = some oj→j≠i→listed.getD j true=false→(∀ e∈oj.after,Region.binds md e=true→e.on≠i)→oi.apart ops oj=true) →
   i∈Region.ready md ops listed→YieldsIf P ops C oi v a→N listed→Shows S A B xa xb listed w →
   wpG P md ops Q S A B xa xb fuel (listed.setIfInBounds i true) (a.put oi.dst v) w→wpG P md ops Q S A B xa xb (fuel+1) listed a w:=by
 intro fuel
 induction fuel with
 | zero =>
  intro listed a w _ hr hy hn hS H
  refine⟨fun h=>(by rw[h] at hr;cases hr),fun j hj => ?_⟩
  by_cases hji:j=i
  ·subst hji;exact hy.wpOp hi (hC _ _ hn hS) ⟨hS.more _,H⟩
  ·have:=ready_mono hj hji
   rw[H.1] at this
   cases this
 | succ fuel ih =>
  intro listed a w hfree hr hy hn hS H
  refine⟨fun h=>(by rw[h] at hr;cases hr),fun j hj => ?_⟩
  by_cases hji:j=i
  ·subst hji;exact hy.wpOp hi (hC _ _ hn hS) ⟨hS.more _,H⟩
  ·have h1:=H.2 j (ready_mono hj hji)
   obtain⟨hjun,oj,hoj,hall⟩:=mem_ready.1 hj
   have hnot:∀ e∈oj.after,Region.binds md e=true→e.on≠i:=fun e he hb heq=>by
    have h1:=hall e he hb
    have h0:=(mem_ready.1 hr).1
    rw[heq] at h1
    rcases Nat.lt_or_ge i listed.size with h' | h'
    ·simp[h'] at h0 h1;rw[h0] at h1;cases h1
    ·simp[Array.getElem?_eq_none h'] at h1
   have h2:=wpOp_putIf hoj (hfree j oj hoj hji hjun hnot) (fun cs b=>hsel i oi cs b hi) (fun cs b=>hsel j oj cs b hoj) hQ hy h1
   have hfree':∀ k ok,ops[k]? = some ok→k≠i→(listed.setIfInBounds j true).getD k true=false →
     (∀ e∈ok.after,Region.binds md e=true→e.on≠i)→oi.apart ops ok=true:=fun k ok hk hki hun hno=>by
    refine hfree k ok hk hki ?_ hno
    by_cases hjk:j=k
    ·subst hjk;exact hjun
    ·rw[getD_set_ne true hjk] at hun;exact hun
   refine wpOp_mono (fun a' w' h3 => ?_) h2
   obtain⟨h31,h32,h33⟩:=h3
   rw[Array.setIfInBounds_comm _ _ (Ne.symm hji)] at h32 h33
   have hb:Shows S A B xa xb (listed.setIfInBounds j true) w':=by
    refine⟨h32.1,fun h=>h32.2.1 ?_,fun h=>h32.2.2 ?_⟩
    ·rw[getD_set_ne true hia];exact h
    ·rw[getD_set_ne true hib];exact h
   exact⟨hb,ih (listed.setIfInBounds j true) a' w' hfree' (ready_mono hr (Ne.symm hji)) h31 (hN _ _ _ hn hoj hnot) hb h33⟩
theorem notF {b:Bool} {p:Prop} (h:b=true) (h':b=false):p:=by rw[h] at h';cases h'
def waitsB (md:Region.Mode) (ops:Array Oper) (x i:Nat):Bool:=match ops[x]? with
 | some o=>o.after.any fun e=>Region.binds md e&&e.on == i
 | none=>true
theorem waitsB_spec {i j x:Nat} {oj:Oper} (h:waitsB md ops x i=true) (hj:ops[j]? = some oj) (hno:∀ e∈oj.after,Region.binds md e=true→e.on≠i):j≠x:=by
 rintro rfl
 unfold waitsB at h
 rw[hj] at h
 obtain⟨e,he,hb⟩:=Array.any_eq_true'.1 h
 simp only[Bool.and_eq_true,beq_iff_eq] at hb
 exact hno e he hb.1 hb.2
theorem wpG_take {i:Nat} {oi:Oper} {v:Value} {fuel:Nat} {listed:Array Bool} {a:Act} {w:World} (hi:ops[i]? = some oi)
  (hs:Region.noSelect ops=true) (hf:Region.free md ops listed i=true) (hr:(Region.ready md ops listed).contains i=true) (hia:i≠xa) (hib:i≠xb)
  (hQ:∀ c a w,Q (.panic c) (a.put oi.dst v) w→Q (.panic c) a w) (hy:YieldsIf P ops S oi v a) (hS:Shows S A B xa xb listed w)
  (h:wpG P md ops Q S A B xa xb fuel (listed.setIfInBounds i true) (a.put oi.dst v) w):wpG P md ops Q S A B xa xb (fuel+1) listed a w:=
 wpG_first (C:=S) (N:=fun _=>True) hi (Region.noSelect_spec hs) hQ hia hib (fun _ _ _ h=>h.1) (fun _ _ _ _ _ _=>trivial) fuel listed a w (Region.free_spec hi hf) (by simpa using hr) hy trivial hS h
theorem wpG_takeA {i:Nat} {oi:Oper} {v:Value} {fuel:Nat} {listed:Array Bool} {a:Act} {w:World} (hi:ops[i]? = some oi)
  (hs:Region.noSelect ops=true) (hf:Region.free md ops listed i=true) (hr:(Region.ready md ops listed).contains i=true) (hia:i≠xa) (hib:i≠xb) (hw:waitsB md ops xa i=true) (hl:listed.getD xa true=false)
  (hQ:∀ c a w,Q (.panic c) (a.put oi.dst v) w→Q (.panic c) a w) (hy:YieldsIf P ops A oi v a) (hS:Shows S A B xa xb listed w)
  (h:wpG P md ops Q S A B xa xb fuel (listed.setIfInBounds i true) (a.put oi.dst v) w):wpG P md ops Q S A B xa xb (fuel+1) listed a w:=
 wpG_first (C:=A) (N:=fun l=>l.getD xa true=false) hi (Region.noSelect_spec hs) hQ hia hib (fun _ _ hn h=>h.2.1 hn) (fun _ _ _ hn hj hno=>by rw[getD_set_ne true (waitsB_spec hw hj hno)];exact hn) fuel listed a w (Region.free_spec hi hf) (by simpa using hr) hy hl hS h
theorem wpG_takeB {i:Nat} {oi:Oper} {v:Value} {fuel:Nat} {listed:Array Bool} {a:Act} {w:World} (hi:ops[i]? = some oi)
  (hs:Region.noSelect ops=true) (hf:Region.free md ops listed i=true) (hr:(Region.ready md ops listed).contains i=true) (hia:i≠xa) (hib:i≠xb) (hw:waitsB md ops xb i=true) (hl:listed.getD xb true=false)
  (hQ:∀ c a w,Q (.panic c) (a.put oi.dst v) w→Q (.panic c) a w) (hy:YieldsIf P ops B oi v a) (hS:Shows S A B xa xb listed w)
  (h:wpG P md ops Q S A B xa xb fuel (listed.setIfInBounds i true) (a.put oi.dst v) w):wpG P md ops Q S A B xa xb (fuel+1) listed a w:=
 wpG_first (C:=B) (N:=fun l=>l.getD xb true=false) hi (Region.noSelect_spec hs) hQ hia hib (fun _ _ hn h=>h.2.2 hn) (fun _ _ _ hn hj hno=>by rw[getD_set_ne true (waitsB_spec hw hj hno)];exact hn) fuel listed a w (Region.free_spec hi hf) (by simpa using hr) hy hl hS h
theorem wpG_step {i:Nat} {o:Oper} {fuel:Nat} {listed:Array Bool} {a:Act} {w:World} (hr:Region.ready md ops listed=[i]) (ho:ops[i]? = some o)
  (h:∀ K':Act→World→Prop,Shut (∀ a w,Shows S A B xa xb (listed.setIfInBounds i true) w→(Shows S A B xa xb (listed.setIfInBounds i true) w→wpG P md ops Q S A B xa xb fuel (listed.setIfInBounds i true) a w)→K' a w)→if Region.wanted o (yielded ops a.tmps)=true then Oper.wp P o a w K' Q else K' (a.put o.dst undef) w) :
  wpG P md ops Q S A B xa xb (fuel+1) listed a w:=by
 refine⟨fun h0=>(by rw[h0] at hr;cases hr),fun j hj => ?_⟩
 rw[hr] at hj
 obtain rfl:j=i:=by simpa using hj
 exact wpOp_step ho (fun K' hK=>h K' (fun a w hS hW=>hK a w ⟨hS,hW hS⟩))
theorem wpG_done {listed:Array Bool} {a:Act} {w:World} (hr:Region.ready md ops listed=[]) (h:Q .normal a w) :
  ∀ fuel,wpG P md ops Q S A B xa xb fuel listed a w
 | 0=>⟨hr,h⟩
 | _+1=>⟨fun _=>h,by rw[hr];simp⟩
theorem wpG_region {id:Nat} {a:Act} {w:World} (A B:World→Prop) (xa xb:Nat) (hm:P.follows .mixedOrders=true) (hS:S w.drew∧A w.drew∧B w.drew)
  (h:Shows S A B xa xb (Array.replicate ops.size false) w.drew→wpG P .any ops Q S A B xa xb ops.size (Array.replicate ops.size false) a w.drew):(Code.region id ops true).wp P Q a w:=
 wp_region_any hm (wpAny_of_wpG _ _ _ _ (h ⟨hS.1,fun _=>hS.2.1,fun _=>hS.2.2⟩))
end
section
variable {L:List (Nat × TypeId)} {w wc w':World} {b c d:Nat} {T U V:TypeId}
theorem EndSt.h1 (h:EndSt ((b,T)::L) w wc w') (u v:Value):EndSt ((b,T)::L) w wc ((w'.setCell ⟨b,0,none⟩ u).setCell ⟨b,1,none⟩ v):=h.st2 (T:=T) (.head _) u v
theorem EndSt.h2 (h:EndSt ((c,U)::(b,T)::L) w wc w') (u v:Value):EndSt ((c,U)::(b,T)::L) w wc ((w'.setCell ⟨b,0,none⟩ u).setCell ⟨b,1,none⟩ v):=h.st2 (T:=T) (.tail _ (.head _)) u v
theorem cell_st2' {n i:Nat} {x:Value} (h:w.cell? ⟨n,i,none⟩=some x) (hn:b≠n) (u v:Value):((w.setCell ⟨b,0,none⟩ u).setCell ⟨b,1,none⟩ v).cell? ⟨n,i,none⟩=some x:=cell_st2 h hn u v
end
end Go.Proofs.Ytdjbfgfbpimakaa
end

section
namespace Go.Proofs.Ytdjbfgfbpimakaa.Z4
open Go.RowKit
end Go.Proofs.Ytdjbfgfbpimakaa.Z4
end

section
namespace Go.Proofs.Ytdjbfgfbpimakaa.Z4
open Go.RowKit
end Go.Proofs.Ytdjbfgfbpimakaa.Z4
end
