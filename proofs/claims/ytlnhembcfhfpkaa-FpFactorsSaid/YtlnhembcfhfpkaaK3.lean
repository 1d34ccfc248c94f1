/- The small machine: a region that draws its order. The small machine: regions, in their own order and in any. The small machine: code, and functions. The small machine: a function's contract out of its code. The small machine: states written out; what may be forgotten. What a statement's arguments read as, in the small machine's words. The small machine: what each operation does, as equations. The small machine: objects that are dropped, or not written any more. The small machine: objects that nobody refers to any more are dropped together. The small machine: a slice of an object that is not written any more is plain data. The small machine: the contract of a function to which a slice is lent, out of its code. The small machine: lent arguments and calls of function values, as equations. The small machine: objects get other numbers; a row whose elements may be slices of the call's own. The small machine, run: a program that carries out a function's code on closed arguments, and the proof that what it answers is the function's contract. -/
import Derived.Test.YtlnhembcfhfpkaaMRx
import Derived.ChangeArms
import Derived.OpenShut
section
namespace Go.Proofs.Ytlnhembcfhfpkaa.M
open Go.RowKit
def swapOk (ap:List (Nat × Nat)) (c1 c2:COp):Bool:=
 (match c1.dst with | some t => !c2.reads.contains t&&c2.dst != some t | none=>true) &&
 (match c2.dst with | some t => !c1.reads.contains t | none=>true) &&
 ((
  c1.op.kind≤1&&c2.op.kind≤3)||((c1.op.kind == 2||c1.op.kind == 3)&&c2.op.kind == 0)||(c1.op.kind == 2&&(c2.op.kind == 2&&(c1.dst.isSome&&c2.dst.isSome)))||(c1.op.kind == 0&&c2.op.kind == 4)||(c1.op.kind == 4&&c2.op.kind == 0) ||
  (
   match c1.op,c2.op with
   | .load _ _ (.t x),.store _ (.t y) _=>ap.contains (x,y)
   | _,_=>false))
def COp.alc (c:COp):Bool:=c.guard.isNone&&match c.op with
 | .alloc .. => true
 | .box .. => true
 | _=>false
def apFree (ap:List (Nat × Nat)) (c:COp):Bool:=ap.isEmpty||(c.op.kind != 5)&&match c.dst with
 | some t=>ap.all fun p=>p.1 != t&&(p.2 != t||c.alc)
 | none=>true
def apOk (ap:List (Nat × Nat)) (r:Nat→AV):Bool:=ap.all fun p=>apartV (r p.1) (r p.2)
section
variable {G:FuncId→List D→D→Prop} {c c1 c2:COp} {K K':St→Prop} {s:St} {r r':Nat→AV} {m m':Mem} {v:AV} {ap:List (Nat × Nat)}
theorem GOut.cases_ (h:GOut G c r m v m'):Out G c r m v m'∧(∀ m2 v2 m2',Out G c r m2 v2 m2'→GOut G c r m2 v2 m2')∨(v = .p (.tup [])∧m'=m∧∀ m2,GOut G c r m2 (.p (.tup [])) m2):=by
 unfold GOut at h ⊢
 cases hg:c.guard with
 | none=>rw[hg] at h;exact .inl ⟨h,fun _ _ _ h=>h⟩
 | some x =>
  obtain⟨g,want⟩:=x
  rw[hg] at h
  simp only at h ⊢
  rcases h with⟨b,hb,h1 | h1⟩ | ⟨hb,h1,h2⟩
  ·exact .inl ⟨h1.2,fun m2 v2 m2' ho => .inl ⟨b,hb,.inl ⟨h1.1,ho⟩⟩⟩
  ·exact .inr ⟨h1.2.1,h1.2.2,fun m2 => .inl ⟨b,hb,.inr (by simp[h1.1])⟩⟩
  ·exact .inr ⟨h1,h2,fun m2 => .inr ⟨hb,by simp⟩⟩
theorem Out.le1 (hk:c.op.kind≤1) (h:Out G c r m v m'):m'=m∧∀ m2,(∀ i o,m i=some o→m2 i=some o)→Out G c r m2 v m2:=by
 rcases (by omega:c.op.kind=0∨c.op.kind=1) with h0 | h1
 ·exact⟨(h.pure h0).1,fun m2 _=>(h.pure h0).2 m2⟩
 ·exact h.read h1
theorem upd_more {m:Mem} {i:Nat} {o:AObj} (h:m i=none):∀ j q,m j=some q→upd m i (some o) j=some q:=by
 intro j q hq
 rw[upd_ne];exact hq
 rintro rfl;rw[h] at hq;cases hq
theorem memSwap {m1 m2:Mem} {v1 v2:AV} (hs:swapOk ap c1 c2=true) (ha:apOk ap r=true) (h1:GOut G c1 r m v1 m1) (h2:GOut G c2 r m1 v2 m2):∃ m',GOut G c2 r m v2 m'∧GOut G c1 r m' v1 m2:=by
 rcases h1.cases_ with⟨o1,g1⟩ | ⟨rfl,rfl,g1⟩
 case inr=>exact⟨m2,h2,g1 m2⟩
 rcases h2.cases_ with⟨o2,g2⟩ | ⟨rfl,rfl,g2⟩
 case inr=>exact⟨m,g2 m,h1⟩
 simp only[swapOk,Bool.and_eq_true,Bool.or_eq_true,decide_eq_true_eq,beq_iff_eq] at hs
 obtain⟨⟨hd1,hd2⟩,((((hk | hk) | hk) | hk) | hk) | hk⟩:=hs
 ·-- nothing is changed by the first
  obtain⟨rfl,q1⟩:=o1.le1 hk.1
  rcases (by omega:c2.op.kind≤1∨c2.op.kind=2∨c2.op.kind=3) with hk2 | hk2 | hk2
  ·obtain⟨rfl,q2⟩:=o2.le1 hk2
   exact⟨_,h2,h1⟩
  ·obtain⟨e,ob,rfl,-⟩:=o2.made hk2
   exact⟨_,h2,g1 _ _ _ (q1 _ (upd_more e))⟩
  ·obtain⟨e,ob,rfl⟩:=o2.built hk2
   exact⟨_,h2,g1 _ _ _ (q1 _ (upd_more e))⟩
 ·obtain⟨rfl,q2⟩:=o2.pure hk.2
  exact⟨m,g2 _ _ _ (q2 m),h1⟩
 ·obtain⟨hk1,hk2,s1,s2⟩:=hk
  obtain⟨e2,ob2,rfl,q2⟩:=o2.made hk2
  have hne:c1.dst.getD 0≠c2.dst.getD 0:=by
   obtain⟨t1,h1'⟩:=Option.isSome_iff_exists.1 s1
   obtain⟨t2,h2'⟩:=Option.isSome_iff_exists.1 s2
   rw[h1'] at hd1
   rw[h1',h2']
   rintro e
   simp only[Option.getD_some] at e
   subst e
   simp[h2'] at hd1
  obtain⟨e1,ob1,rfl,q1⟩:=o1.made hk1
  rw[upd_ne _ _ hne.symm] at e2
  refine⟨_,g2 _ _ _ (q2 m e2),?_⟩
  rw[upd_comm _ _ _ hne]
  exact g1 _ _ _ (q1 _ (by rw[upd_ne _ _ hne];exact e1))
 ·obtain⟨rfl,q1⟩:=o1.pure hk.1
  exact⟨m2,h2,g1 _ _ _ (q1 m2)⟩
 ·obtain⟨rfl,q2⟩:=o2.pure hk.2
  exact⟨m,g2 _ _ _ (q2 m),h1⟩
 ·split at hk
  ·rename_i ag sz x sz2 y z e1 e2
   have hap:apartV (r x) (r y)=true:=by
    simp only[apOk,List.all_eq_true] at ha
    exact ha (x,y) (by simpa using hk)
   obtain⟨rfl,-⟩:=o1.le1 (by rw[e1];simp[AOp.kind])
   exact⟨m2,h2,g1 _ _ _ (Out.load_store e1 e2 hap o1 o2)⟩
  ·cases hk
theorem putr_at {t:Option Nat} {n:Nat} (h:∀ k,t=some k→k≠n) (r:Nat→AV) (v:AV):putr r t v n=r n:=by
 cases t with
 | none=>rfl
 | some k=>exact upd_ne _ _ (h k rfl).symm
theorem swapOk_kind (hs:swapOk ap c1 c2=true):c1.op.kind≠5∧c2.op.kind≠5:=by
 simp only[swapOk,Bool.and_eq_true,Bool.or_eq_true,decide_eq_true_eq,beq_iff_eq] at hs
 obtain⟨-,((((hk | hk) | hk) | hk) | hk) | hk⟩:=hs
 ·exact⟨by omega,by omega⟩
 ·exact⟨by omega,by omega⟩
 ·exact⟨by omega,by omega⟩
 ·exact⟨by omega,by omega⟩
 ·exact⟨by omega,by omega⟩
 ·split at hk
  ·rename_i e1 e2
   rw[e1,e2]
   exact⟨by simp[AOp.kind],by simp[AOp.kind]⟩
  ·cases hk
theorem gstep_swap (hs:swapOk ap c1 c2=true) (ha:apOk ap s.r=true) (h:gstep G c1 (gstep G c2 K) s):gstep G c2 (gstep G c1 K) s:=by
 obtain⟨r,m⟩:=s
 have k1:=(swapOk_kind hs).1
 have k2:=(swapOk_kind hs).2
 obtain⟨v1,m1,h1,h2⟩:=(gstep_out k1).1 h
 obtain⟨v2,m2,h3,h4⟩:=(gstep_out k2).1 h2
 have hs':=hs
 simp only[swapOk,Bool.and_eq_true] at hs'
 obtain⟨⟨hd1,hd2⟩,-⟩:=hs'
 have e1:∀ n∈c2.reads,putr r c1.dst v1 n=r n:=fun n hn=>putr_at (fun k hk e=>by
  subst e;rw[hk] at hd1;simp at hd1;exact hd1.1 hn) r v1
 have e2:∀ n∈c1.reads,r n=putr r c2.dst v2 n:=fun n hn=>(putr_at (fun k hk e=>by
  subst e;rw[hk] at hd2;simp at hd2;exact hd2 hn) r v2).symm
 obtain⟨m',g1,g2⟩:=memSwap hs ha h1 (h3.congr e1)
 refine (gstep_out k2).2 ⟨v2,m',g1,(gstep_out k1).2 ⟨v1,m2,g2.congr e2,?_⟩⟩
 have:putr (putr r c2.dst v2) c1.dst v1=putr (putr r c1.dst v1) c2.dst v2:=by
  cases hc1:c1.dst with
  | none=>rfl
  | some t1 =>
   cases hc2:c2.dst with
   | none=>rfl
   | some t2 =>
    rw[hc1] at hd1
    exact upd_comm _ _ _ (fun e=>by subst e;simp[hc2] at hd1)
 rw[this]
 exact h4
def ApI (al:Nat→Prop) (ap:List (Nat × Nat)) (r:Nat→AV):Prop:=apOk ap r=true∧∀ p∈ap,al p.2→∀ j o,r p.1≠.ptr p.2 j o
theorem alc_out (ha:c.alc=true) (h:GOut G c r m v m'):v = .ptr (c.dst.getD 0) 0 0:=by
 simp only[COp.alc,Bool.and_eq_true,Option.isNone_iff_eq_none] at ha
 obtain⟨h1,h2⟩:=ha
 unfold GOut at h
 rw[h1] at h
 unfold Out at h
 cases hc:c.op<;>rw[hc] at h h2<;>first | (simp at h2;done) | skip
 case alloc T sz z =>
  obtain⟨t,h3,-⟩:=outM_some h
  simp only[ev] at h3
  split at h3
  ·simp only[Option.some.injEq,Prod.mk.injEq,true_and] at h3;exact h3.1.symm
  ·cases h3
 case box T sz x =>
  obtain⟨t,h3,-⟩:=outM_some h
  simp only[ev] at h3
  split at h3
  ·split at h3
   ·simp only[Option.some.injEq,Prod.mk.injEq,true_and] at h3;exact h3.1.symm
   ·cases h3
  ·cases h3
theorem apartV_und {a b:AV} (h:apartV a b=true):(∃ i j o,a = .ptr i j o)∨∃ d,a = .p (.ref d):=by
 unfold apartV at h
 split at h
 ·exact .inl ⟨_,_,_,rfl⟩
 ·exact .inr ⟨_,rfl⟩
 ·exact .inl ⟨_,_,_,rfl⟩
 ·exact .inr ⟨_,rfl⟩
 ·cases h
theorem apI_put {al:Nat→Prop} (hf:apFree ap c=true) (hal:c.alc=true→∀ t,c.dst=some t→al t) (ha:ApI al ap r) (v:AV) (hv:c.alc=true→v = .ptr (c.dst.getD 0) 0 0):ApI al ap (putr r c.dst v):=by
 obtain⟨ha,hi⟩:=ha
 simp only[apOk,List.all_eq_true] at ha
 have hx:∀ p∈ap,putr r c.dst v p.1=r p.1:=fun p hp=>putr_at (fun k hk e=>by
  subst e
  have hne:ap.isEmpty=false:=by cases ap with
   | nil=>cases hp
   | cons=>rfl
  simp only[apFree,hne,hk,Bool.false_or,Bool.and_eq_true,List.all_eq_true] at hf
  have:=(hf.2 p hp).1
  simp at this) r v
 refine⟨?_,fun p hp hal' j o=>by rw[hx p hp];exact hi p hp hal' j o⟩
 simp only[apOk,List.all_eq_true]
 intro p hp
 rw[hx p hp]
 have hne:ap.isEmpty=false:=by cases ap with
  | nil=>cases hp
  | cons=>rfl
 by_cases hd:c.dst=some p.2
 ·have hf':=hf
  simp only[apFree,hne,hd,Bool.false_or,Bool.and_eq_true,List.all_eq_true] at hf'
  have h2:=(hf'.2 p hp).2
  simp only[bne_self_eq_false,Bool.false_or] at h2
  have hv':=hv h2
  rw[hd] at hv' ⊢
  simp only[Option.getD_some] at hv'
  rw[hv']
  show apartV (r p.1) (upd r p.2 _ p.2)=true
  rw[upd_same]
  rcases apartV_und (ha p hp) with⟨i,j,o,e⟩ | ⟨d,e⟩
  ·have:=hi p hp (hal h2 _ hd)
   rw[e] at this ⊢
   simp only[apartV,bne_iff_ne,ne_eq]
   rintro rfl
   exact this j o rfl
  ·rw[e];rfl
 ·rw[putr_at (fun k hk e=>hd (by rw[hk,e])) r v]
  exact ha p hp
theorem gstep_keep {al:Nat→Prop} (hf:apFree ap c=true) (hal:c.alc=true→∀ t,c.dst=some t→al t) (ha:ApI al ap s.r) (h:gstep G c K s):gstep G c (fun t=>ApI al ap t.r∧K t) s:=by
 obtain⟨r,m⟩:=s
 cases hap:ap with
 | nil=>exact gstep_mono h fun t ht=>⟨⟨rfl,by simp⟩,ht⟩
 | cons p q =>
  have k:c.op.kind≠5:=by
   simp only[apFree,hap,List.isEmpty_cons,Bool.false_or,Bool.and_eq_true,bne_iff_ne,ne_eq] at hf
   exact hf.1
  obtain⟨v,m',h1,h2⟩:=(gstep_out k).1 h
  exact (gstep_out k).2 ⟨v,m',h1,hap ▸ apI_put hf hal ha v (fun hc=>alc_out hc h1),h2⟩
theorem cops_pull {al:Nat→Prop}:∀ (l1 l2:List COp) (s:St),(∀ c'∈l1,swapOk ap c' c=true∧apFree ap c'=true∧(c'.alc=true→∀ t,c'.dst=some t→al t))→ApI al ap s.r→cops G (l1++c::l2) K s→gstep G c (cops G (l1++l2) K) s
 | [],_,_,_,_,h=>h
 | c'::l1,l2,s,hl,ha,h=>by
  have hc':=hl c' (by simp)
  have h1:gstep G c' (cops G (l1++c::l2) K) s:=h
  have h2:gstep G c' (gstep G c (cops G (l1++l2) K)) s:=gstep_mono (gstep_keep hc'.2.1 hc'.2.2 ha h1) fun t ht=>cops_pull l1 l2 t (fun q hq=>hl q (by simp[hq])) ht.1 ht.2
  exact gstep_swap hc'.1 ha.1 h2
theorem upd_dom {i j:Nat} {o:AObj} (hi:m i≠none):upd m j (some o) i≠none:=by
 unfold upd;split<;>simp_all
theorem Out.dom (hk:c.op.kind≠5) (h:Out G c r m v m') {i:Nat} (hi:m i≠none):m' i≠none:=by
 rcases (by omega:c.op.kind≤1∨c.op.kind=2∨c.op.kind=3∨c.op.kind=4∨5<c.op.kind) with h0 | h0 | h0 | h0 | h0
 ·rw[(h.le1 h0).1];exact hi
 ·obtain⟨-,ob,rfl,-⟩:=h.made h0
  exact upd_dom hi
 ·obtain⟨-,ob,rfl⟩:=h.built h0
  exact upd_dom hi
 ·unfold Out at h
  cases hc:c.op<;>rw[hc] at h h0<;>first | (simp[AOp.kind] at h0;done) | skip
  case store sz x z =>
   obtain⟨t,g1,rfl⟩:=outM_some h
   simp only[ev] at g1
   (repeat' split at g1)<;>first | (cases g1;done) | (simp only[Option.some.injEq,Prod.mk.injEq] at g1;obtain⟨-,-,rfl⟩:=g1;exact upd_dom hi)
 ·exfalso;revert h0;cases c.op<;>simp[AOp.kind]
theorem cops_fresh:∀ (l:List COp) (s:St),(∀ c∈l,c.op.kind≠5)→cops G l K s→∀ c∈l,c.alc=true→∀ t,c.dst=some t→s.m t=none
 | [],_,_,_,c,hc,_,_,_=>by cases hc
 | c'::l,⟨r,m⟩,hk,h,c,hc,ha,t,ht=>by
  have k:=hk c' (by simp)
  have h1:gstep G c' (cops G l K) ⟨r,m⟩:=h
  obtain⟨v,m',h2,h3⟩:=(gstep_out k).1 h1
  have hdom:∀ i,m i≠none→m' i≠none:=fun i hi=>by
   rcases h2.cases_ with⟨o,-⟩ | ⟨-,rfl,-⟩
   ·exact o.dom k hi
   ·exact hi
  rcases List.mem_cons.1 hc with rfl | hc
  ·refine Classical.byContradiction fun hn => ?_
   have hg:c.guard=none:=by
    simp only[COp.alc,Bool.and_eq_true,Option.isNone_iff_eq_none] at ha
    exact ha.1
   have o:Out G c r m v m':=by unfold GOut at h2;rwa[hg] at h2
   have k2:c.op.kind=2:=by
    simp only[COp.alc,Bool.and_eq_true] at ha
    have:=ha.2
    cases hc:c.op<;>rw[hc] at this<;>first | rfl | (simp at this;done)
   have:=(o.made k2).1
   rw[ht] at this
   exact hn this
  ·refine Classical.byContradiction fun hn => ?_
   exact absurd (cops_fresh l _ (fun q hq=>hk q (by simp[hq])) h3 c hc ha t ht) (hdom t hn)
end
end Go.Proofs.Ytlnhembcfhfpkaa.M
end

section
namespace Go.Proofs.Ytlnhembcfhfpkaa.M
open Go.RowKit
def noEdge (ops:Array Oper) (x y:Nat):Bool:=match ops[x]? with
 | some o=>o.after.all fun e => !Region.binds .any e||e.on != y
 | none=>true
def beforeB (am:List Nat) (x y:Nat):Bool:=(am.getD y 0).testBit x
def pairsOk (ops:Array Oper) (am:List Nat) (ap:List (Nat × Nat)):List (Nat × COp)→Bool
 | []=>true
 | x::l=>noEdge ops x.1 x.1&&l.all (fun y=>noEdge ops x.1 y.1&&x.1 != y.1&&(beforeB am x.1 y.1||swapOk ap x.2 y.2))&&pairsOk ops am ap l
def ancOk (ops:Array Oper) (am:List Nat) (n:Nat):Bool:=(List.range n).all fun i=>match ops[i]? with
 | some o=>o.after.all (fun e => !Region.binds .any e||decide (e.on<n))&&(List.range n).all fun j => !beforeB am j i||o.after.any fun e=>Region.binds .any e&&(e.on == j||beforeB am j e.on)
 | none=>true
def regOk (ops:Array Oper) (am:List Nat) (ap:List (Nat × Nat)) (l:List (Nat × COp)):Bool:=
 l.length == ops.size&&(List.range ops.size).all (fun i=>(l.map (·.1)).contains i)&&l.all (fun x=>decide (x.1<ops.size)&&apFree ap x.2)&&ancOk ops am ops.size&&pairsOk ops am ap l
section
variable {C:Ctx} {s:St} {a:Act} {w:World} {ops:Array Oper} {Q:Exit→Act→World→Prop} {K:St→Prop} {am:List Nat} {ap:List (Nat × Nat)}
def Rp (ops:Array Oper) (am:List Nat) (ap:List (Nat × Nat)) (x y:Nat × COp):Prop:=noEdge ops x.1 y.1=true∧x.1≠y.1∧(beforeB am x.1 y.1=true∨swapOk ap x.2 y.2=true)
theorem pairs_spec:∀ {l:List (Nat × COp)},pairsOk ops am ap l=true→l.Pairwise (Rp ops am ap)∧∀ x∈l,noEdge ops x.1 x.1=true
 | [],_=>⟨.nil,by simp⟩
 | x::l,h=>by
  simp only[pairsOk,Bool.and_eq_true,List.all_eq_true,Bool.or_eq_true,bne_iff_ne,ne_eq] at h
  obtain⟨⟨h1,h2⟩,h3⟩:=h
  obtain⟨g1,g2⟩:=pairs_spec h3
  refine⟨.cons (fun y hy=>⟨(h2 y hy).1.1,(h2 y hy).1.2,(h2 y hy).2⟩) g1,fun y hy => ?_⟩
  rcases List.mem_cons.1 hy with rfl | hy
  ·exact h1
  ·exact g2 y hy
theorem noEdge_spec {x y:Nat} {o:Oper} (ho:ops[x]? = some o) (h:noEdge ops x y=true):∀ e∈o.after,Region.binds .any e=true→e.on≠y:=by
 intro e he hb heq
 simp only[noEdge,ho,Array.all_eq_true_iff_forall_mem,Bool.or_eq_true,Bool.not_eq_true',bne_iff_ne,ne_eq] at h
 rcases h e he with h | h
 ·rw[hb] at h;cases h
 ·exact h heq
theorem anyRegion {al:Nat→Prop} (hC:C.Ok) (hanc:ancOk ops am ops.size=true) (hQ:∀ t a' w',Is C t a' w'→K t→Q .normal a' w') :
  ∀ (n:Nat) (l:List (Nat × COp)) (listed:Array Bool) (s:St) (a:Act) (w:World),l.length=n→listed.size=ops.size →
   (∀ i,i<ops.size→(listed.getD i true=false↔i∈l.map (·.1)))→l.Pairwise (Rp ops am ap)→(∀ x∈l,noEdge ops x.1 x.1=true∧x.1<ops.size∧(apFree ap x.2=true∧(x.2.alc=true→∀ t,x.2.dst=some t→al t))∧∃ o,ops[x.1]? = some o∧cop C.P C.nt C.OT ops o=some x.2) →
   (∀ j,j<ops.size→listed.getD j true=true→∀ k,k<ops.size→beforeB am k j=true→listed.getD k true=true) →
   Is C s a w→ApI al ap s.r→cops (ConX C.P C.A) (l.map (·.2)) K s→wpAny C.P .any ops Q n listed a w:=by
 intro n
 induction n with
 | zero =>
  intro l listed s a w hl hsz hlist _ _ _ his _ hK
  have hnil:l=[]:=List.eq_nil_of_length_eq_zero hl
  subst hnil
  refine⟨?_,hQ s a w his hK⟩
  rw[List.eq_nil_iff_forall_not_mem]
  intro i hi
  obtain⟨h1,o,ho,_⟩:=mem_ready.1 hi
  have:=(hlist i (Array.getElem?_eq_some_iff.1 ho).1).1 h1
  simp at this
 | succ n ih =>
  intro l listed s a w hl hsz hlist hp hall hcl his hap hK
  refine⟨fun h0 => ?_,fun i hi => ?_⟩
  ·exfalso
   match l,hl,hlist,hp,hall with
   | x::l',_,hlist,hp,hall =>
    obtain⟨g1,g2,g3,o,ho,-⟩:=hall x (by simp)
    have hmem:x.1∈Region.ready .any ops listed:=by
     rw[mem_ready]
     refine⟨(hlist x.1 g2).2 (by simp),o,ho,fun e he hb => ?_⟩
     have hon:e.on<ops.size:=by
      simp only[ancOk,List.all_eq_true,List.mem_range] at hanc
      have:=hanc x.1 g2
      rw[ho] at this
      simp only[Bool.and_eq_true,Array.all_eq_true_iff_forall_mem,Bool.or_eq_true,Bool.not_eq_true',decide_eq_true_eq] at this
      rcases this.1 e he with h | h
      ·rw[hb] at h;cases h
      ·exact h
     have hnot:¬ (listed.getD e.on true=false):=by
      intro hf
      have:=(hlist e.on hon).1 hf
      simp only[List.map_cons,List.mem_cons,List.mem_map] at this
      rcases this with h | ⟨y,hy,h⟩
      ·exact noEdge_spec ho g1 e he hb h
      ·exact noEdge_spec ho ((List.pairwise_cons.1 hp).1 y hy).1 e he hb h.symm
     have hlt:e.on<listed.size:=by omega
     simp[hlt] at hnot ⊢
     exact hnot
    rw[h0] at hmem
    cases hmem
  ·obtain⟨h1,o,ho,hpre⟩:=mem_ready.1 hi
   have hin:i<ops.size:=(Array.getElem?_eq_some_iff.1 ho).1
   have hmem:=(hlist i hin).1 h1
   obtain⟨x,hx,rfl⟩:=List.mem_map.1 hmem
   obtain⟨l1,l2,rfl⟩:=List.append_of_mem hx
   obtain⟨g1,g2,g3,o',ho',hcop⟩:=hall x hx
   rw[ho] at ho'
   cases ho'
   have hbef:∀ k,k<ops.size→beforeB am k x.1=true→listed.getD k true=true:=by
    intro k hk hb
    simp only[ancOk,List.all_eq_true,List.mem_range] at hanc
    have:=hanc x.1 hin
    rw[ho] at this
    simp only[Bool.and_eq_true,List.all_eq_true,List.mem_range,Bool.or_eq_true,Bool.not_eq_true'] at this
    rcases this.2 k hk with h | h
    ·rw[hb] at h;cases h
    ·obtain⟨e,he,hh⟩:=Array.any_eq_true'.1 h
     simp only[Bool.and_eq_true,Bool.or_eq_true,beq_iff_eq] at hh
     have hl':=hpre e he hh.1
     have hon:e.on<ops.size:=by
      rw[←hsz]
      rcases Nat.lt_or_ge e.on listed.size with h' | h'
      ·exact h'
      ·simp[Array.getElem?_eq_none h'] at hl'
     have hlt:e.on<listed.size:=by omega
     have hl'':listed.getD e.on true=true:=by simp[hlt] at hl' ⊢;exact hl'
     rcases hh.2 with rfl | hh2
     ·exact hl''
     ·exact hcl e.on hon hl'' k hk hh2
   have hsw:∀ c'∈l1.map (·.2),swapOk ap c' x.2=true∧apFree ap c'=true∧(c'.alc=true→∀ t,c'.dst=some t→al t):=by
    intro c' hc'
    obtain⟨y,hy,rfl⟩:=List.mem_map.1 hc'
    obtain⟨q1,q2,q3,-⟩:=hall y (by simp[hy])
    have hR:=(List.pairwise_append.1 hp).2.2 y hy x (by simp)
    refine⟨hR.2.2.resolve_left fun hb => ?_,q3⟩
    have:=hbef y.1 q2 hb
    have hf:=(hlist y.1 q2).2 (by simp;exact .inl ⟨_,hy⟩)
    rw[hf] at this
    cases this
   have hK':cops (ConX C.P C.A) (l1.map (·.2)++x.2::l2.map (·.2)) K s:=by simpa using hK
   have hg:=gstep_keep g3.1 g3.2 hap (cops_pull (l1.map (·.2)) (l2.map (·.2)) s hsw hap hK')
   refine wp_cop hC ho hcop his (fun t a' w' ht hk => ?_) hg
   have hsub:(l1++l2).Sublist (l1++x::l2):=List.Sublist.append (List.Sublist.refl _) (List.sublist_cons_self _ _)
   have hxn:x.1 ∉ (l1++l2).map (·.1):=by
    intro hm
    obtain⟨y,hy,he⟩:=List.mem_map.1 hm
    rcases List.mem_append.1 hy with hy | hy
    ·exact ((List.pairwise_append.1 hp).2.2 y hy x (by simp)).2.1 he
    ·exact ((List.pairwise_cons.1 (List.pairwise_append.1 hp).2.1).1 y hy).2.1 he.symm
   refine ih (l1++l2) _ t a' w' (by simp at hl ⊢;omega) (by simpa using hsz) (fun k hk' => ?_) (hp.sublist hsub) (fun y hy=>hall y (hsub.subset hy)) (fun j hj hlj k hk' hb => ?_) ht hk.1 (by simpa using hk.2)
   ·by_cases hkx:x.1=k
    ·subst hkx
     have hlt:x.1<listed.size:=by omega
     simp only[Array.getD_eq_getD_getElem?,Array.getElem?_setIfInBounds_self,hlt,if_true,Option.getD_some]
     exact⟨fun h=>(by cases h),fun h=>absurd h hxn⟩
    ·rw[getD_set_ne true hkx,hlist k hk']
     constructor
     ·intro hm
      obtain⟨y,hy,rfl⟩:=List.mem_map.1 hm
      simp only[List.mem_append,List.mem_cons] at hy
      rcases hy with hy | rfl | hy
      ·exact List.mem_map.2 ⟨y,by simp[hy],rfl⟩
      ·exact absurd rfl hkx
      ·exact List.mem_map.2 ⟨y,by simp[hy],rfl⟩
     ·intro hm
      obtain⟨y,hy,rfl⟩:=List.mem_map.1 hm
      exact List.mem_map.2 ⟨y,hsub.subset hy,rfl⟩
   ·have hset:∀ q,listed.getD q true=true→(listed.setIfInBounds x.1 true).getD q true=true:=by
     intro q hq
     by_cases hqx:x.1=q
     ·subst hqx
      have hlt:x.1<listed.size:=by omega
      simp[hlt]
     ·rw[getD_set_ne true hqx];exact hq
    by_cases hjx:x.1=j
    ·subst hjx
     exact hset k (hbef k hk' hb)
    ·rw[getD_set_ne true hjx] at hlj
     exact hset k (hcl j hj hlj k hk' hb)
end
end Go.Proofs.Ytlnhembcfhfpkaa.M
end

section
namespace Go.Proofs.Ytlnhembcfhfpkaa.M
open Go.RowKit
inductive CC where
 | skip
 | ops (ap:List (Nat × Nat)) (l:List COp)
 | seq (a b:CC)
 | cond (x:Opd) (a b:CC)
 | block (id:Nat) (a:CC)
 | loop (a:CC)
 | exit (id:Nat)
 | ret
 | stuck
inductive AExit where
 | normal
 | exit (id:Nat)
 | ret
def Sub (OT:List TypeId) (s t:St):Prop:=∀ (C:Ctx) (a:Act) (w:World),C.OT=OT→Is C s a w→Is C t a w
theorem Sub.rf {OT:List TypeId} (s:St):Sub OT s s:=fun _ _ _ _ h=>h
theorem Sub.tr {OT:List TypeId} {s t u:St} (h:Sub OT s t) (k:Sub OT t u):Sub OT s u:=fun C a w e hs=>k C a w e (h C a w e hs)
def cw (OT:List TypeId) (G:FuncId→List D→D→Prop):CC→(AExit→St→Prop)→St→Prop
 | .skip,Q,s=>Q .normal s
 | .ops ap l,Q,s=>apOk ap s.r=true∧cops G l (Q .normal) s
 | .seq a b,Q,s=>cw OT G a (fun e t=>match e with
  | .normal => ∃ u,Sub OT t u∧cw OT G b Q u
  | e=>Q e t) s
 | .cond x a b,Q,s=>match x.ev s.r with
  | .p (.bool c)=>(c=true→cw OT G a Q s)∧(c=false→cw OT G b Q s)
  | _=>False
 | .block id a,Q,s=>cw OT G a (fun e t=>match e with
  | .exit j=>if j=id then Q .normal t else Q (.exit j) t
  | e=>Q e t) s
 | .loop a,Q,s => ∀ R:St→Prop,(∀ t,cw OT G a (fun e t=>match e with
  | .normal => ∃ u,Sub OT t u∧R u
  | e=>Q e t) t→R t)→∃ u,Sub OT s u∧R u
 | .exit id,Q,s=>Q (.exit id) s
 | .ret,Q,s=>Q .ret s
 | .stuck,_,_=>False
structure Hint where
 id:Nat
 ord:List Nat
 am:List Nat
 ap:List (Nat × Nat)
def copsAt (P:Program) (nt:Nat) (OT:List TypeId) (ops:Array Oper):List Nat→Option (List (Nat × COp))
 | []=>some []
 | i::l=>match ops[i]? with
  | some o=>match cop P nt OT ops o,copsAt P nt OT ops l with
   | some c,some m=>some ((i,c)::m)
   | _,_=>none
  | none=>none
def comp (P:Program) (nt:Nat) (OT:List TypeId) (H:List Hint):Code→Option CC
 | .skip=>some .skip
 | .region id ops draw=>if draw then
   match H.find? (·.id == id) with
   | some h=>match copsAt P nt OT ops h.ord with
    | some l=>if regOk ops h.am h.ap l then some (.ops h.ap (l.map (·.2))) else some .stuck
    | none=>some .stuck
   | none=>some .stuck
  else match copsAt P nt OT ops (List.range ops.size) with
   | some l=>some (.ops [] (l.map (·.2)))
   | none=>some .stuck
 | .seq a b=>match comp P nt OT H a,comp P nt OT H b with
  | some x,some y=>some (.seq x y)
  | _,_=>none
 | .cond c a b=>match comp P nt OT H a,comp P nt OT H b with
  | some x,some y=>some (.cond (opd P none c) x y)
  | _,_=>none
 | .block id a=>(comp P nt OT H a).map (.block id)
 | .loop a=>(comp P nt OT H a).map .loop
 | .exit id=>some (.exit id)
 | .ret=>some .ret
 | _=>some .stuck
section
variable {C:Ctx} {s:St} {a:Act} {w:World}
def Qm (C:Ctx) (Q:AExit→St→Prop):Exit→Act→World→Prop
 | .normal,a,w => ∃ t,Is C t a w∧Q .normal t
 | .exit id,a,w => ∃ t,Is C t a w∧Q (.exit id) t
 | .ret,a,w => ∃ t,Is C t a w∧Q .ret t
 | _,_,_=>False
theorem copsAt_spec {P:Program} {nt:Nat} {OT:List TypeId} {ops:Array Oper}:∀ {l:List Nat} {m:List (Nat × COp)},copsAt P nt OT ops l=some m→m.map (·.1)=l∧∀ x∈m,∃ o,ops[x.1]? = some o∧cop P nt OT ops o=some x.2
 | [],m,h=>by simp only[copsAt,Option.some.injEq] at h;subst h;exact⟨rfl,by simp⟩
 | i::l,m,h=>by
  simp only[copsAt] at h
  split at h
  case h_2=>cases h
  rename_i o ho
  split at h
  case h_2=>cases h
  rename_i c m' h1 h2
  simp only[Option.some.injEq] at h
  subst h
  obtain⟨g1,g2⟩:=copsAt_spec h2
  refine⟨by simp[g1],fun x hx => ?_⟩
  rcases List.mem_cons.1 hx with rfl | hx
  ·exact⟨o,ho,h1⟩
  ·exact g2 x hx
theorem seqOps {ops:Array Oper} {Q:Exit→Act→World→Prop} {K:St→Prop} (hC:C.Ok) (hQ:∀ t a' w',Is C t a' w'→K t→Q .normal a' w'):∀ (m:List (Nat × COp)) (s:St) (a:Act) (w:World),
  (∀ x∈m,∃ o,ops[x.1]? = some o∧cop C.P C.nt C.OT ops o=some x.2)→Is C s a w→cops (ConX C.P C.A) (m.map (·.2)) K s→wpOps C.P ops Q (m.map (·.1)) a w
 | [],s,a,w,_,his,hK=>hQ s a w his hK
 | x::m,s,a,w,hm,his,hK=>by
  obtain⟨o,ho,hc⟩:=hm x (by simp)
  rw[List.map_cons,wpOps_cons]
  exact wp_cop hC ho hc his (fun t a' w' ht hk=>seqOps hC hQ m t a' w' (fun y hy=>hm y (by simp[hy])) ht hk) hK
theorem Is.later (h:Is C s a w) {w':World} (he:Ext w w'):Is C s a w':=⟨h.1.elim fun loc hr=>⟨loc,hr.later he⟩,h.2⟩
theorem cw_sound (hC:C.Ok) (hm:C.P.follows .mixedOrders=true) (H:List Hint):∀ (c:Code) (cc:CC) (Q:AExit→St→Prop) (s:St) (a:Act) (w:World),comp C.P C.nt C.OT H c=some cc→cw C.OT (ConX C.P C.A) cc Q s→Is C s a w→c.wp C.P (Qm C Q) a w:=by
 intro c
 induction c with
 | skip=>intro cc Q s a w h1 h2 h3;simp only[comp,Option.some.injEq] at h1;subst h1;exact wp_skip ⟨s,h3,h2⟩
 | region id ops draw =>
  intro cc Q s a w h1 h2 h3
  simp only[comp] at h1
  cases draw with
  | true =>
   simp only[if_true] at h1
   split at h1
   case h_2=>cases h1;exact h2.elim
   rename_i h _
   split at h1
   case h_2=>cases h1;exact h2.elim
   rename_i l hl
   split at h1
   case isFalse=>cases h1;exact h2.elim
   rename_i hok
   simp only[Option.some.injEq] at h1
   subst h1
   obtain⟨hap,hcw⟩:=h2
   simp only[regOk,Bool.and_eq_true,beq_iff_eq,List.all_eq_true,decide_eq_true_eq] at hok
   obtain⟨⟨⟨⟨hlen,hevery⟩,hall⟩,hanc⟩,hpairs⟩:=hok
   obtain⟨g1,g2⟩:=copsAt_spec hl
   obtain⟨p1,p2⟩:=pairs_spec hpairs
   refine wp_region_any hm ?_
   have hw:Is C s a { w with drawn:=w.drawn+1 }:=h3.later (Below.drew (Below.refl _ _))
   have hfull:∀ i,i<ops.size→i∈l.map (·.1):=by
    intro i hi
    have:=hevery i (List.mem_range.2 hi)
    simpa using this
   have hfree:ApI (fun t => ∃ c∈l.map (·.2),c.alc=true∧c.dst=some t) h.ap s.r:=by
    refine⟨hap,fun p hp ⟨c,hc,hca,hct⟩ j o he => ?_⟩
    have hk5:∀ c∈l.map (·.2),c.op.kind≠5:=fun c hc=>by
     obtain⟨x,hx,rfl⟩:=List.mem_map.1 hc
     have hne:h.ap.isEmpty=false:=by cases hq:h.ap with
      | nil=>rw[hq] at hp;cases hp
      | cons=>rfl
     have:=(hall x hx).2
     simp only[apFree,hne,Bool.false_or,Bool.and_eq_true,bne_iff_ne,ne_eq] at this
     exact this.1
    have hm:=cops_fresh _ s hk5 hcw c hc hca _ hct
    obtain⟨⟨loc,hR⟩,-⟩:=h3
    have h5:=hR.tmps p.1
    rw[he] at h5
    generalize a.tmps.getD p.1 undef=vv at h5
    cases h5 with
    | ptr L id i off h1 h2=>rw[hR.dom _ hm] at h1;cases h1
   have:=anyRegion (Q:=Qm C Q) (K:=Q .normal) (ap:=h.ap) hC hanc (fun t a' w' ht hk=>⟨t,ht,hk⟩) l.length l (Array.replicate ops.size false) s a _ rfl (by simp) (fun i hi=>by
     simp only[Array.getD_eq_getD_getElem?,Array.getElem?_replicate,hi,if_true,Option.getD_some,true_iff]
     exact hfull i hi) p1 (fun x hx=>⟨p2 x hx,(hall x hx).1,⟨(hall x hx).2,fun ha t ht=>⟨x.2,List.mem_map.2 ⟨x,hx,rfl⟩,ha,ht⟩⟩,g2 x hx⟩) (fun j hj hlj=>by simp[hj] at hlj) hw hfree hcw
   rwa[hlen] at this
  | false =>
   simp only[Bool.false_eq_true,if_false] at h1
   split at h1
   case h_2=>cases h1;exact h2.elim
   rename_i l hl
   simp only[Option.some.injEq] at h1
   subst h1
   obtain⟨hap,hcw⟩:=h2
   obtain⟨g1,g2⟩:=copsAt_spec hl
   refine wp_region ?_
   rw[←g1]
   exact seqOps hC (fun t a' w' ht hk=>⟨t,ht,hk⟩) l s a w g2 h3 hcw
 | seq x y ihx ihy =>
  intro cc Q s a w h1 h2 h3
  simp only[comp] at h1
  split at h1
  case h_2=>cases h1
  rename_i cx cy hx hy
  simp only[Option.some.injEq] at h1
  subst h1
  refine wp_seq (wp_mono (ihx cx _ s a w hx h2 h3) ?_)
  intro e a' w' hq
  cases e with
  | normal =>
   obtain⟨t,ht,u,hsub,hu⟩:=hq
   exact ihy cy Q u a' w' hy hu (hsub C a' w' rfl ht)
  | exit id=>exact hq
  | ret=>exact hq
  | _=>exact hq.elim
 | cond o x y ihx ihy =>
  intro cc Q s a w h1 h2 h3
  simp only[comp] at h1
  split at h1
  case h_2=>cases h1
  rename_i cx cy hx hy
  simp only[Option.some.injEq] at h1
  subst h1
  simp only[cw] at h2
  split at h2
  case h_2=>exact h2.elim
  rename_i b hb
  obtain⟨loc,hr⟩:=h3.1
  have hv:=hr.opd (P:=C.P) none o
  rw[hb] at hv
  have hv:=hv.inv
  generalize hov:a.eval o=v at hv
  cases hv
  cases b with
  | true=>exact wp_cond_true hov (ihx cx Q s a w hx (h2.1 rfl) h3)
  | false=>exact wp_cond_false hov (ihy cy Q s a w hy (h2.2 rfl) h3)
 | block id x ih =>
  intro cc Q s a w h1 h2 h3
  simp only[comp,Option.map_eq_some_iff] at h1
  obtain⟨cx,hx,rfl⟩:=h1
  refine wp_block (wp_mono (ih cx _ s a w hx h2 h3) ?_)
  intro e a' w' hq
  cases e with
  | normal=>exact hq
  | exit j =>
   obtain⟨t,ht,hq⟩:=hq
   simp only[Exit.inBlock]
   by_cases hj:j=id
   ·rw[if_pos hj];simp only[hj,if_true] at hq;exact⟨t,ht,hq⟩
   ·rw[if_neg hj];simp only[hj,if_false] at hq;exact⟨t,ht,hq⟩
  | ret=>exact hq
  | _=>exact hq.elim
 | loop x ih =>
  intro cc Q s a w h1 h2 h3
  simp only[comp,Option.map_eq_some_iff] at h1
  obtain⟨cx,hx,rfl⟩:=h1
  intro b k cs
  have key:=h2 (fun t => ∀ (a:Act) (w:World),Is C t a w→∃ e a' w',Qm C Q e a' w'∧Arrives C.P (lone (b.at a (.code x::.inLoop x::k)) cs w) b k cs e a' w') (fun t ht a w hI=>by
   obtain⟨e,a₁,w₁,hq,harr⟩:=ih cx _ t a w hx ht hI b (.inLoop x::k) cs
   cases e with
   | normal =>
    obtain⟨t',ht',u,hsub,hu⟩:=hq
    obtain⟨e₂,a₂,w₂,hq₂,harr₂⟩:=hu a₁ w₁ (hsub C a₁ w₁ rfl ht')
    exact⟨e₂,a₂,w₂,hq₂,.of_steps (Steps.trans harr (.one step_inLoop)) harr₂⟩
   | exit id=>exact⟨.exit id,a₁,w₁,hq,.pass (x:=.inLoop x) rfl (fun _ _ => .inl (by simp)) harr⟩
   | ret=>exact⟨.ret,a₁,w₁,hq,.pass (x:=.inLoop x) rfl (fun _ _ => .inl (by simp)) harr⟩
   | _=>exact hq.elim)
  obtain⟨u,hsub,hu⟩:=key
  obtain⟨e,a',w',hq,harr⟩:=hu a w (hsub C a w rfl h3)
  exact⟨e,a',w',hq,.of_steps (.one step_loop) harr⟩
 | exit id=>intro cc Q s a w h1 h2 h3;simp only[comp,Option.some.injEq] at h1;subst h1;exact wp_exit ⟨s,h3,h2⟩
 | ret=>intro cc Q s a w h1 h2 h3;simp only[comp,Option.some.injEq] at h1;subst h1;exact wp_ret ⟨s,h3,h2⟩
 | _ =>
  intro cc Q s a w h1 h2
  simp only[comp,Option.some.injEq] at h1
  subst h1
  exact h2.elim
end
end Go.Proofs.Ytlnhembcfhfpkaa.M
end

section
namespace Go.Proofs.Ytlnhembcfhfpkaa.M
open Go.RowKit
def resC (P:Program):List ResultVar→Option (List (Nat × Option (Bool × Nat)))
 | []=>some []
 | .tmp t::l=>(resC P l).map ((t,none)::·)
 | .cell a T::l=>match tyOf P T with
  | some (ag,sz)=>if ag||sz == 1 then (resC P l).map ((a,some (ag,sz))::·) else none
  | none=>none
def resV (s:St):Nat × Option (Bool × Nat)→Option AV
 | (t,none)=>some (s.r t)
 | (t,some (ag,sz))=>match s.r t with
  | .ptr i 0 0=>match s.m i with
   | some ⟨_,osz,.box v,_⟩=>v.get 0 sz osz ag
   | _=>none
  | _=>none
def resL (s:St):List (Nat × Option (Bool × Nat))→Option (List D)
 | []=>some []
 | x::l=>match (match resV s x with | some v=>v.toD true s.m 20 | none=>none),resL s l with
  | some d,some ds=>some (d::ds)
  | _,_=>none
def resD (s:St) (rs:List (Nat × Option (Bool × Nat))):Option D:=match resL s rs with
 | some [d]=>some d
 | some ds=>some (.tup ds)
 | none=>none
def init (ds:List D):St:=⟨fun t=>match ds[t]? with
 | some d => .p d
 | none => .und,fun _=>none⟩
section
variable {C:Ctx} {s:St} {a:Act} {w:World}
def resRun (tmps:Array Value):ResultVar→Sem Value
 | .tmp t=>pure (tmps.getD t undef)
 | .cell a t=>do loadVar t (← asAddr (tmps.getD a undef))
theorem results_eq (fn:Func) (tmps:Array Value):results fn tmps=(fn.results.mapM (resRun tmps) >>= fun vs=>pure (if h:vs.size=1 then vs[0] else .tuple vs)):=rfl
theorem resV_run {loc:Locs} (h:Rel C.w0 C.base C.nt loc s a w) (x:ResultVar) (l:List ResultVar) (rs:List (Nat × Option (Bool × Nat))) (h1:resC C.P (x::l)=some rs) :
  ∃ y rs',rs=y::rs'∧resC C.P l=some rs'∧∀ (M':Mem) u,(∀ i o,M' i=some o→s.m i=some o)→resV ⟨s.r,M'⟩ y=some u→∃ v,(resRun a.tmps x).run C.P w = .ok v w∧RV w (NB C.base s.m loc w) loc v u:=by
 cases x with
 | tmp t =>
  simp only[resC,Option.map_eq_some_iff] at h1
  obtain⟨rs',h1,rfl⟩:=h1
  refine⟨_,rs',rfl,h1,fun M' u hM hu => ?_⟩
  simp only[resV,Option.some.injEq] at hu
  subst hu
  exact⟨_,by simp[resRun],h.tmps t⟩
 | cell t T =>
  simp only[resC] at h1
  split at h1
  case h_2=>cases h1
  rename_i ag sz hT
  split at h1
  case isFalse=>cases h1
  rename_i hs
  simp only[Option.map_eq_some_iff] at h1
  obtain⟨rs',h1,rfl⟩:=h1
  refine⟨_,rs',rfl,h1,fun M' u hM hu => ?_⟩
  simp only[resV] at hu
  split at hu
  case h_2=>cases hu
  rename_i i hp
  split at hu
  case h_2=>cases hu
  rename_i T' osz v frz hm
  have hrv:=h.tmps t
  rw[hp] at hrv
  generalize hq:a.tmps.getD t undef=q at hrv
  cases hrv with
  | ptr L _ _ _ hL hn =>
  obtain⟨L',hL',hok⟩:=h.objs i _ (hM _ _ hm)
  rw[hL] at hL'
  cases hL'
  obtain⟨c,fr,k1,k2,k3,-⟩:=hok.at_ hn
  obtain⟨m1,m2,m3,m4⟩:=k3
  obtain⟨x,hx1,hx2⟩:=rv_get (P:=C.P) (T':=T) k1 m1 m2 m3 m4 hu (tyOf_ok hT) (fun e=>by simpa[e] using hs)
  refine⟨x,?_,hx2⟩
  have:(Instr.loadAt T (.pointer (some ⟨L.b,L.o+0,none⟩))).run C.P w=(loadVar T ⟨L.b,L.o+0,none⟩).run C.P w:=by simp[Instr.loadAt,Instr.sureAddr]
  rw[this] at hx1
  simp only[Nat.zero_mul,Nat.add_zero] at hq hx1
  simp[resRun,hq,asAddr,hx1]
theorem resL_run {loc:Locs} {M':Mem} (hM:∀ i o,M' i=some o→s.m i=some o) (h0:C.base.L0=none∨M' lentId=none) (h:Rel C.w0 C.base C.nt loc s a w):∀ (l:List ResultVar) (rs:List (Nat × Option (Bool × Nat))) (ds:List D),resC C.P l=some rs→resL ⟨s.r,M'⟩ rs=some ds →
  ∃ vs:List Value,(l.mapM (resRun a.tmps)).run C.P w = .ok vs w∧vs.length=ds.length∧∀ (i:Nat) (d:D),ds[i]? = some d→V w (fun b=>b<w.heap.size∧¬ C.base.own b) (vs.getD i undef) d
 | [],rs,ds,h1,h2=>by
  simp only[resC,Option.some.injEq] at h1
  subst h1
  simp only[resL,Option.some.injEq] at h2
  subst h2
  exact⟨[],by simp,rfl,fun i d hd=>by simp at hd⟩
 | x::l,rs,ds,h1,h2=>by
  obtain⟨y,rs',rfl,hl,hrun0⟩:=resV_run h x l rs h1
  have hrun:=fun u=>hrun0 M' u hM
  simp only[resL] at h2
  split at h2
  case h_2=>cases h2
  rename_i d ds' g1 g2
  simp only[Option.some.injEq] at h2
  subst h2
  split at g1
  case h_2=>cases g1
  rename_i u hu
  obtain⟨v,hv1,hv2⟩:=hrun u hu
  obtain⟨vs,q1,q2,q3⟩:=resL_run hM h0 h l rs' ds' hl g2
  refine⟨v::vs,by simp[List.mapM_cons,hv1,q1],by simp[q2],fun i e he => ?_⟩
  match i,he with
  | 0,he =>
   simp at he
   subst he
   exact toD_okM (any:=true) (N':=fun b=>b<w.heap.size∧¬ C.base.own b) h hM (fun b hb=>⟨hb.1,hb.2.1⟩) (fun i o L ho' _ hL hn=>⟨h.obj_lt (hM _ _ ho') hL hn,fun hb=>by
    have ho:=hM _ _ ho'
    obtain⟨L',hL',hok⟩:=h.objs i o ho
    rw[hL] at hL'
    cases hL'
    obtain⟨c,fr,k1,k2,k3,k4,k5⟩:=hok.at_ hn
    cases hf:o.frz with
    | false =>
     have hlo:=h.low _ hb
     rcases (k4 hf).1 with hge | ⟨L',hL',hbb⟩
     ·omega
     ·rcases h0 with h0 | h0
      ·rw[h0] at hL';cases hL'
      ·obtain⟨y1,_,y3,o',y4,y5⟩:=h.keepL L' hL'
       have:=h.inj i lentId o o' L L' ho y4 hf hL y1 hn y3 hbb.symm
       subst this
       rw[h0] at ho';cases ho'
    | true=>exact (k5 hf).2.1 hb⟩) 20 u v d g1 hv2
  | i+1,he=>simpa using q3 i e (by simpa using he)
theorem con_of {P:Program} {A OT:List TypeId} {f:FuncId} {fn:Func} {code:Code} {H:List Hint} {cc:CC} {rs:List (Nat × Option (Bool × Nat))} {ds:List D} {d:D}
  (hf:P.funcs[f]? = some fn) (hb:fn.body=some code) (hm:P.follows .mixedOrders=true) (hc:comp P fn.ntmps OT H code=some cc) (hr:resC P fn.results.toList=some rs) (hA:OT.all (fun T => !A.contains T)=true) (hn:ds.length≤fn.ntmps)
  (hcw:cw OT (ConX P A) cc (fun e s=>(match e with | .exit _=>False | _=>True)∧resD s rs=some d) (init ds)):Con P A f ds d:=by
 intro base w vs h1 h2 h3 h4
 have hbody:=cw_sound (C:=⟨P,A,OT,fn.ntmps,w,⟨base,none⟩⟩) ⟨h2,fun T hT=>by
  rw[List.all_eq_true] at hA
  have:=hA T hT
  simpa using this⟩ hm H code cc _ (init ds) { tmps:=vs++Array.replicate (fn.ntmps-vs.size) undef,defers:=[] } w hc hcw ⟨⟨fun _=>none,ExtL.rf _ w,rfl,by simp;omega,h1,fun _ _=>rfl,fun t => ?_,fun id o ho=>by simp[init] at ho,fun id _ o _ _ _ ho=>by simp[init] at ho,KeepL.none_ rfl _ _⟩,fun id o ho=>by simp[init] at ho⟩
 ·refine calls_of_wp hf hb (wp_mono hbody ?_)
  intro e a' w' hq
  have fin:(∃ t,Is ⟨P,A,OT,fn.ntmps,w,⟨base,none⟩⟩ t a' w'∧resD t rs=some d)→a'.defers=[]∧∃ v,(results fn a'.tmps).run P w' = .ok v w'∧∃ v',Ending.returned v=Ending.returned v'∧V w' (fun b=>b<w'.heap.size∧¬ base b) v' d∧Ext w w':=by
   rintro⟨t,ht,hres⟩
   obtain⟨loc,hrel⟩:=ht.1
   refine⟨hrel.defers,?_⟩
   have key:∀ ds',resL t rs=some ds'→∃ vs:List Value,(fn.results.mapM (resRun a'.tmps)).run P w' = .ok vs.toArray w'∧vs.length=ds'.length∧∀ (i:Nat) (d:D),ds'[i]? = some d→V w' (fun b=>b<w'.heap.size∧¬ base b) (vs.getD i undef) d:=by
    intro ds' hds
    obtain⟨vs,q1,q2,q3⟩:=resL_run (M':=t.m) (fun _ _ h=>h) (.inl rfl) hrel _ _ _ hr hds
    refine⟨vs,?_,q2,q3⟩
    rw[Array.mapM_eq_mapM_toList]
    simp only at q1
    simp[q1]
   have hresults:∀ vs:List Value,(fn.results.mapM (resRun a'.tmps)).run P w' = .ok vs.toArray w'→(results fn a'.tmps).run P w' = .ok (if h:vs.toArray.size=1 then vs.toArray[0] else .tuple vs.toArray) w':=by
    intro vs hv
    rw[results_eq]
    simp only[Sem.run_bind,hv,Result.andThen]
    rfl
   unfold resD at hres
   split at hres
   ·rename_i d' hd'
    simp only[Option.some.injEq] at hres
    subst hres
    obtain⟨vs,q1,q2,q3⟩:=key _ hd'
    match vs,q2 with
    | [v],_ =>
     refine⟨v,by rw[hresults _ q1];simp,v,rfl,?_,hrel.ext.ext rfl⟩
     have:=q3 0 d' rfl
     simpa using this
   ·rename_i ds' hne hd'
    simp only[Option.some.injEq] at hres
    subst hres
    obtain⟨vs,q1,q2,q3⟩:=key _ hd'
    have hne1:vs.length≠1:=by
     intro h1
     rw[q2] at h1
     match ds',h1 with
     | [d'],_=>exact hne d' rfl
    refine⟨.tuple vs.toArray,by rw[hresults _ q1,dif_neg (by simpa using hne1)],_,rfl,.tup _ _ (by simpa using q2) (fun i e he=>by simpa using q3 i e he),hrel.ext.ext rfl⟩
   ·cases hres
  cases e with
  | normal=>obtain⟨t,ht,-,hres⟩:=hq;exact fin ⟨t,ht,hres⟩
  | ret=>obtain⟨t,ht,-,hres⟩:=hq;exact fin ⟨t,ht,hres⟩
  | exit id=>obtain⟨t,ht,hbad,hres⟩:=hq;exact hbad.elim
  | _=>exact hq.elim
 ·by_cases ht:t<vs.size
  ·have hd:∃ d,ds[t]? = some d:=⟨ds[t]'(by omega),by simp⟩
   obtain⟨d',hd⟩:=hd
   have hr':(init ds).r t = .p d':=by simp[init,hd]
   rw[hr']
   have hg:(vs++Array.replicate (fn.ntmps-vs.size) undef).getD t undef=vs.getD t undef:=by
    simp only[Array.getD_eq_getD_getElem?]
    rw[Array.getElem?_append_left ht]
   simp only[hg]
   exact .p _ _ ((h4 t d' hd).mono (fun _ _=>rfl) fun b hb=>⟨hb.1,hb.2,by rintro⟨id,o,L,ho,_⟩;simp[init] at ho⟩)
  ·have hr':(init ds).r t = .und:=by
    have:ds[t]? = none:=List.getElem?_eq_none (by omega)
    simp[init,this]
   rw[hr']
   exact .und _
def FnOk (P:Program) (f:FuncId) (OT:List TypeId) (cc:CC) (rs:List (Nat × Option (Bool × Nat))) (nt:Nat):Prop:=
 ∃ fn H,P.funcs[f]? = some fn∧fn.body.isSome=true∧P.follows .mixedOrders=true∧comp P fn.ntmps OT H (fn.body.getD .skip)=some cc∧resC P fn.results.toList=some rs∧fn.ntmps=nt
def Ends (d:D) (rs:List (Nat × Option (Bool × Nat))):AExit→St→Prop
 | .exit _,_=>False
 | _,s=>resD s rs=some d
theorem FnOk.con {P:Program} {A OT:List TypeId} {f:FuncId} {cc:CC} {rs:List (Nat × Option (Bool × Nat))} {nt:Nat} {ds:List D} {d:D} (h:FnOk P f OT cc rs nt) (hA:OT.all (fun T => !A.contains T)=true) (hn:ds.length≤nt)
  (hcw:cw OT (ConX P A) cc (Ends d rs) (init ds)):Con P A f ds d:=by
 obtain⟨fn,H,h1,h2,h3,h4,h5,rfl⟩:=h
 obtain⟨code,hcode⟩:=Option.isSome_iff_exists.1 h2
 rw[hcode] at h4
 have hE:Ends d rs=fun e s=>(match e with | .exit _=>False | _=>True)∧resD s rs=some d:=by
  funext e s
  cases e<;>simp[Ends]
 rw[hE] at hcw
 exact con_of h1 hcode h3 h4 h5 hA hn hcw
end
end Go.Proofs.Ytlnhembcfhfpkaa.M
end

section
namespace Go.Proofs.Ytlnhembcfhfpkaa.M
open Go.RowKit
def look:List (Nat × AV)→Nat→AV
 | [],_ => .und
 | (i,v)::l,t=>if t=i then v else look l t
def lookM:List (Nat × AObj)→Mem
 | [],_=>none
 | (i,v)::l,t=>if t=i then some v else lookM l t
def setR (t:Nat) (v:AV):List (Nat × AV)→List (Nat × AV)
 | []=>[(t,v)]
 | (i,u)::l=>if i=t then (t,v)::l else (i,u)::setR t v l
def setM (t:Nat) (v:AObj):List (Nat × AObj)→List (Nat × AObj)
 | []=>[(t,v)]
 | (i,u)::l=>if i=t then (t,v)::l else (i,u)::setM t v l
def sel (r:Nat→AV):List Nat→List (Nat × AV)
 | []=>[]
 | t::l=>(t,r t)::sel r l
theorem look_nil (t:Nat):look [] t = .und:=rfl
theorem look_cons (i:Nat) (v:AV) (l:List (Nat × AV)) (t:Nat):look ((i,v)::l) t=if t=i then v else look l t:=rfl
theorem lookM_nil (t:Nat):lookM [] t=none:=rfl
theorem lookM_cons (i:Nat) (v:AObj) (l:List (Nat × AObj)) (t:Nat):lookM ((i,v)::l) t=if t=i then some v else lookM l t:=rfl
theorem setR_nil (t:Nat) (v:AV):setR t v []=[(t,v)]:=rfl
theorem setR_cons (t:Nat) (v:AV) (i:Nat) (u:AV) (l:List (Nat × AV)):setR t v ((i,u)::l)=if i=t then (t,v)::l else (i,u)::setR t v l:=rfl
theorem setM_nil (t:Nat) (v:AObj):setM t v []=[(t,v)]:=rfl
theorem setM_cons (t:Nat) (v:AObj) (i:Nat) (u:AObj) (l:List (Nat × AObj)):setM t v ((i,u)::l)=if i=t then (t,v)::l else (i,u)::setM t v l:=rfl
theorem sel_nil (r:Nat→AV):sel r []=[]:=rfl
theorem sel_cons (r:Nat→AV) (t:Nat) (l:List Nat):sel r (t::l)=(t,r t)::sel r l:=rfl
theorem upd_look (t:Nat) (v:AV):∀ (l:List (Nat × AV)),upd (look l) t v=look (setR t v l)
 | []=>by funext j;simp only[upd,setR_nil,look_cons,look_nil]
 | (i,u)::l=>by
  funext j
  have ih:=congrFun (upd_look t v l) j
  simp only[upd] at ih
  simp only[upd,setR_cons,look_cons]
  by_cases hit:i=t
  ·subst hit
   rw[if_pos rfl,look_cons]
   split
   ·rfl
   ·rfl
  ·rw[if_neg hit,look_cons,←ih]
   by_cases hj:j=t
   ·subst hj
    rw[if_pos rfl,if_neg (fun e=>hit e.symm),if_pos rfl]
   ·rw[if_neg hj,if_neg hj]
theorem upd_lookM (t:Nat) (v:AObj):∀ (l:List (Nat × AObj)),upd (lookM l) t (some v)=lookM (setM t v l)
 | []=>by funext j;simp only[upd,setM_nil,lookM_cons,lookM_nil]
 | (i,u)::l=>by
  funext j
  have ih:=congrFun (upd_lookM t v l) j
  simp only[upd] at ih
  simp only[upd,setM_cons,lookM_cons]
  by_cases hit:i=t
  ·subst hit
   rw[if_pos rfl,lookM_cons]
   split
   ·rfl
   ·rfl
  ·rw[if_neg hit,lookM_cons,←ih]
   by_cases hj:j=t
   ·subst hj
    rw[if_pos rfl,if_neg (fun e=>hit e.symm),if_pos rfl]
   ·rw[if_neg hj,if_neg hj]
theorem sel_or {r:Nat→AV}:∀ (ts:List Nat) (t:Nat),look (sel r ts) t = .und∨look (sel r ts) t=r t
 | [],_ => .inl rfl
 | i::ts,t=>by
  rw[sel_cons,look_cons]
  split
  ·rename_i e;subst e;exact .inr rfl
  ·exact sel_or ts t
section
variable {s t:St} {r:Nat→AV} {m:Mem} {OT:List TypeId}
theorem Sub.und {r':Nat→AV} (h:∀ t,r' t = .und∨r' t=r t):Sub OT ⟨r,m⟩ ⟨r',m⟩:=by
 rintro C a w-⟨⟨loc,hr⟩,h2⟩
 refine⟨⟨loc,hr.ext,hr.defers,hr.size,hr.low,hr.dom,fun t => ?_,hr.objs,hr.inj,hr.keepL⟩,h2⟩
 rcases h t with e | e<;>simp only[e]
 ·exact .und _
 ·exact hr.tmps t
theorem Sub.nil {T sz:Nat} (i id:Nat) (hi:r i = .nils T sz) (hm:m id=none) (hT:T∈OT):Sub OT ⟨r,m⟩ ⟨upd r i (.slice id 0 0),upd m id (some ⟨T,sz,.row [],false⟩)⟩:=by
 rintro C a w rfl ⟨⟨loc,hr⟩,h2⟩
 have h':=hr.allocNil hm T sz
 refine⟨⟨_,h'.ext,h'.defers,h'.size,h'.low,h'.dom,fun t => ?_,h'.objs,h'.inj,h'.keepL⟩,fun j o ho => ?_⟩
 ·by_cases e:t=i
  ·subst e
   have hv:RV w (NB C.base m loc w) loc (a.tmps.getD t undef) (r t):=hr.tmps t
   rw[hi] at hv
   simp only[upd_same]
   generalize a.tmps.getD t undef=v at hv
   cases hv with
   | nils=>exact .sliceEmp _ id 0 none (upd_same _ _ _)
  ·simp only[upd_ne _ _ e]
   exact h'.tmps t
 ·by_cases e:j=id
  ·subst e
   simp only[upd_same,Option.some.injEq] at ho
   subst ho
   exact hT
  ·simp only[upd_ne _ _ e] at ho
   exact h2 j o ho
theorem keep (ts:List Nat) {R:St→Prop} (h:R ⟨look (sel r ts),m⟩):∃ u,Sub OT ⟨r,m⟩ u∧R u:=⟨_,Sub.und (sel_or ts),h⟩
theorem init1 (a:D):init [a]=⟨look [(0,.p a)],lookM []⟩:=by
 unfold init;congr 1;funext t
 match t with
 | 0=>rfl
 | t+1=>simp[look_cons,look_nil]
theorem init2 (a b:D):init [a,b]=⟨look [(0,.p a),(1,.p b)],lookM []⟩:=by
 unfold init;congr 1;funext t
 match t with
 | 0 | 1=>rfl
 | t+2=>simp[look_cons,look_nil]
theorem init3 (a b c:D):init [a,b,c]=⟨look [(0,.p a),(1,.p b),(2,.p c)],lookM []⟩:=by
 unfold init;congr 1;funext t
 match t with
 | 0 | 1 | 2=>rfl
 | t+3=>simp[look_cons,look_nil]
theorem init4 (a b c d:D):init [a,b,c,d]=⟨look [(0,.p a),(1,.p b),(2,.p c),(3,.p d)],lookM []⟩:=by
 unfold init;congr 1;funext t
 match t with
 | 0 | 1 | 2 | 3=>rfl
 | t+4=>simp[look_cons,look_nil]
theorem dc_bool (b:Bool):D.cells (.bool b)=[.bool b]:=rfl
theorem do_bool (b:Bool):D.one (.bool b)=true:=rfl
theorem da_bool (b:Bool):D.isAgg (.bool b)=false:=rfl
theorem dc_int (k:IntKind) (n:Int):D.cells (.int k n)=[.int k n]:=rfl
theorem do_int (k:IntKind) (n:Int):D.one (.int k n)=true:=rfl
theorem da_int (k:IntKind) (n:Int):D.isAgg (.int k n)=false:=rfl
theorem dc_str (s:List UInt8):D.cells (.str s)=[.str s]:=rfl
theorem do_str (s:List UInt8):D.one (.str s)=true:=rfl
theorem da_str (s:List UInt8):D.isAgg (.str s)=false:=rfl
theorem dc_list (T:TypeId) (sz:Nat) (l:List D):D.cells (.list T sz l)=[.list T sz l]:=rfl
theorem do_list (T:TypeId) (sz:Nat) (l:List D):D.one (.list T sz l)=true:=rfl
theorem da_list (T:TypeId) (sz:Nat) (l:List D):D.isAgg (.list T sz l)=false:=rfl
theorem dc_nilp :D.cells .nilp=[.nilp]:=rfl
theorem do_nilp :D.one .nilp=true:=rfl
theorem da_nilp :D.isAgg .nilp=false:=rfl
theorem dc_ref (d:D):D.cells (.ref d)=[.ref d]:=rfl
theorem do_ref (d:D):D.one (.ref d)=true:=rfl
theorem da_ref (d:D):D.isAgg (.ref d)=false:=rfl
theorem dc_fn (f:Fn) (x y:List D):D.cells (.fn f x y)=[.fn f x y]:=rfl
theorem do_fn (f:Fn) (x y:List D):D.one (.fn f x y)=true:=rfl
theorem da_fn (f:Fn) (x y:List D):D.isAgg (.fn f x y)=false:=rfl
theorem dc_agg (l:List D):D.cells (.agg l)=l:=rfl
theorem do_agg (l:List D):D.one (.agg l)=false:=rfl
theorem da_agg (l:List D):D.isAgg (.agg l)=true:=rfl
theorem ac_p (d:D):AV.cells (.p d)=d.cells.map AV.p:=rfl
theorem ao_p (d:D):AV.one (.p d)=d.one:=rfl
theorem aa_p (d:D):AV.isAgg (.p d)=some d.isAgg:=rfl
theorem ac_agg (l:List AV):AV.cells (.agg l)=l:=rfl
theorem aa_agg (l:List AV):AV.isAgg (.agg l)=some true:=rfl
theorem ao_agg (l:List AV):AV.one (.agg l)=false:=rfl
theorem ac_slice (i o n:Nat):AV.cells (.slice i o n)=[.slice i o n]:=rfl
theorem ao_slice (i o n:Nat):AV.one (.slice i o n)=true:=rfl
theorem aa_slice (i o n:Nat):AV.isAgg (.slice i o n)=some false:=rfl
theorem ac_ptr (i j o:Nat):AV.cells (.ptr i j o)=[.ptr i j o]:=rfl
theorem ao_ptr (i j o:Nat):AV.one (.ptr i j o)=true:=rfl
theorem aa_ptr (i j o:Nat):AV.isAgg (.ptr i j o)=some false:=rfl
theorem ac_nils (T:TypeId) (sz:Nat):AV.cells (.nils T sz)=[.nils T sz]:=rfl
theorem ao_nils (T:TypeId) (sz:Nat):AV.one (.nils T sz)=true:=rfl
theorem aa_nils (T:TypeId) (sz:Nat):AV.isAgg (.nils T sz)=some false:=rfl
theorem cops_app (G:FuncId→List D→D→Prop) (K:St→Prop):∀ (l l':List COp) (s:St),cops G (l++l') K s=cops G l (cops G l' K) s
 | [],_,_=>rfl
 | c::l,l',s=>by
  have:(fun t=>cops G (l++l') K t)=cops G l (cops G l' K):=funext fun t=>cops_app G K l l' t
  show gstep G c (fun t=>cops G (l++l') K t) s=gstep G c (cops G l (cops G l' K)) s
  rw[this]
theorem Sub.to (ts:List Nat) {r':Nat→AV} (h:look (sel r ts)=r'):Sub OT ⟨r,m⟩ ⟨r',m⟩:=by subst h;exact Sub.und (sel_or ts)
theorem cw_mono {OT:List TypeId} {G:FuncId→List D→D→Prop}:∀ {cc:CC} {Q Q':AExit→St→Prop} {s:St},(∀ e t,Q e t→Q' e t)→cw OT G cc Q s→cw OT G cc Q' s
 | .skip,_,_,_,h,k=>h _ _ k
 | .ops _ l,_,_,_,h,k=>⟨k.1,cops_mono l _ k.2 fun _ ht=>h _ _ ht⟩
 | .seq a b,Q,Q',s,h,k=>by
  refine cw_mono (cc:=a) (fun e t ht => ?_) k
  cases e with
  | normal=>obtain⟨u,h1,h2⟩:=ht;exact⟨u,h1,cw_mono h h2⟩
  | exit id=>exact h _ _ ht
  | ret=>exact h _ _ ht
 | .cond x a b,Q,Q',s,h,k=>by
  simp only[cw] at k ⊢
  split at k
  ·exact⟨fun e=>cw_mono h (k.1 e),fun e=>cw_mono h (k.2 e)⟩
  ·exact k.elim
 | .block id a,Q,Q',s,h,k=>by
  refine cw_mono (cc:=a) (fun e t ht => ?_) k
  cases e with
  | normal=>exact h _ _ ht
  | exit j =>
   simp only at ht ⊢
   split
   ·rw[if_pos ‹_›] at ht;exact h _ _ ht
   ·rw[if_neg ‹_›] at ht;exact h _ _ ht
  | ret=>exact h _ _ ht
 | .loop a,Q,Q',s,h,k=>fun R hR=>k R fun t ht=>hR t (cw_mono (fun e u hu=>by
  cases e with
  | normal=>exact hu
  | exit id=>exact h _ _ hu
  | ret=>exact h _ _ hu) ht)
 | .exit id,_,_,_,h,k=>h _ _ k
 | .ret,_,_,_,h,k=>h _ _ k
 | .stuck,_,_,_,_,k=>k.elim
theorem loop_of {G:FuncId→List D→D→Prop} {a:CC} {Q:AExit→St→Prop} {s:St} {ι:Type} (p:ι→Prop) (I:ι→St) (μ:ι→Nat) (i0:ι) (h0:p i0) (hs:Sub OT s (I i0))
  (round:∀ i,p i→cw OT G a (fun e t=>match e with
   | .normal => ∃ j,p j∧Sub OT t (I j)∧μ j<μ i
   | e=>Q e t) (I i)):cw OT G (.loop a) Q s:=fun R hR=>by
 have key:∀ n i,μ i=n→p i→R (I i):=by
  intro n
  induction n using Nat.strongRecOn with
  | _ n ih =>
   intro i hn hp
   refine hR _ (cw_mono ?_ (round i hp))
   intro e t h
   cases e with
   | normal =>
    obtain⟨j,h1,h2,h3⟩:=h
    exact⟨_,h2,ih _ (hn ▸ h3) j rfl h1⟩
   | exit id=>exact h
   | ret=>exact h
 exact⟨_,hs,key _ i0 rfl h0⟩
theorem loop_in {G:FuncId→List D→D→Prop} {a:CC} {Q:AExit→St→Prop} {s u:St} (hs:Sub OT s u) (round:cw OT G a (fun e t=>match e with
   | .normal=>cw OT G (.loop a) Q t
   | e=>Q e t) u):cw OT G (.loop a) Q s:=fun R hR=>⟨u,hs,hR _ (cw_mono (fun e t h=>by
 cases e with
 | normal=>exact h R hR
 | exit id=>exact h
 | ret=>exact h) round)⟩
theorem getD_I (l:List Int) (i:Nat):(l.map (D.int .i64)).getD i default=D.int .i64 (l.getD i 0):=by
 rw[List.getD_eq_getElem?_getD,List.getD_eq_getElem?_getD,List.getElem?_map]
 cases l[i]?<;>rfl
theorem set_I (l:List Int) (i:Nat) (x:Int):(l.map (D.int .i64)).set i (D.int .i64 x)=(l.set i x).map (D.int .i64):=List.map_set.symm
theorem rep_I (n:Nat) (x:Int):List.replicate n (D.int .i64 x)=(List.replicate n x).map (D.int .i64):=List.map_replicate.symm
theorem take_I (l:List Int) (n:Nat):(l.map (D.int .i64)).take n=(l.take n).map (D.int .i64):=List.map_take.symm
theorem drop_I (l:List Int) (n:Nat):(l.map (D.int .i64)).drop n=(l.drop n).map (D.int .i64):=List.map_drop.symm
theorem app_I (l m:List Int):l.map (D.int .i64)++m.map (D.int .i64)=(l++m).map (D.int .i64):=List.map_append.symm
theorem cast0:((0:Nat):Int)=0:=rfl
theorem toNat1 (n:Nat):((n:Int)+1).toNat=n+1:=by omega
theorem cast1 (n:Nat):((n+1:Nat):Int)=(n:Int)+1:=rfl
end
end Go.Proofs.Ytlnhembcfhfpkaa.M
end

section
namespace Go.Proofs.Ytlnhembcfhfpkaa.M
open Go.RowKit
set_option linter.unusedVariables false
def CV (w:World) (N:Nat→Prop) (cs:List Value) (l:List D):Prop:=cs.length=l.length∧(∀ d∈l,d.one=true)∧∀ i d,l[i]? = some d→V w N (cs.getD i undef) d
def isStr (P:Program) (t:TypeId):Bool:=match P.underlying t with
 | some (.struct _)=>true
 | _=>false
inductive TyC (P:Program):TypeId→List D→Prop where
 | bool (t:TypeId) (b:Bool):P.underlying t=some .bool→TyC P t [.bool b]
 | int (t:TypeId) (k:IntKind) (n:Int):P.underlying t=some (.int k)→(Lit.int k n).wf=true→TyC P t [.int k n]
 | str (t:TypeId) (s:List UInt8):P.underlying t=some .string→s.length≤maxLen→TyC P t [.str s]
 | slice (t e:TypeId) (l:List D):P.underlying t=some (.slice e)→l.length≤maxLen→(∀ d∈l,TyC P e d.cells)→(∀ d∈l,d.cells.length=P.cellsOf e∧(∀ q∈d.cells,q.one=true)∧d.isAgg=isStr P e)→TyC P t [.list (e+1000000) (P.cellsOf e) l]
 | struct (t:TypeId) (fs:Array Field) (l:List D):P.underlying t=some (.struct fs)→l.length=P.cellsOf t→(∀ f∈fs.toList,TyC P f.type ((l.drop f.offset).take (P.cellsOf f.type)))→TyC P t l
def contig (P:Program):Nat→List Field→Nat→Bool
 | o,[],e=>o == e
 | o,f::fs,e=>f.offset == o&&contig P (o+P.cellsOf f.type) fs e
theorem contig_le {P:Program}:∀ {fs:List Field} {o e:Nat},contig P o fs e=true→o≤e
 | [],o,e,h=>by simp[contig] at h;omega
 | f::fs,o,e,h=>by
  simp only[contig,Bool.and_eq_true] at h
  have:=contig_le h.2
  omega
def plainT (P:Program) (S:List TypeId):Bool:=S.all fun t=>decide (0<P.cellsOf t)&&match P.underlying t with
 | some .bool=>true
 | some (.int _)=>true
 | some .string=>true
 | some (.slice e)=>S.contains e
 | some (.struct fs)=>fs.toList.all (fun f=>S.contains f.type)&&contig P 0 fs.toList (P.cellsOf t)
 | _=>false
theorem CV.append {w:World} {N:Nat→Prop} {cs ds:List Value} {l m:List D} (h:CV w N cs l) (k:CV w N ds m):CV w N (cs++ds) (l++m):=by
 refine⟨by simp[h.1,k.1],fun d hd => ?_,fun i d hd => ?_⟩
 ·rcases List.mem_append.1 hd with hd | hd
  ·exact h.2.1 d hd
  ·exact k.2.1 d hd
 ·have hl:=h.1
  rcases Nat.lt_or_ge i l.length with hi | hi
  ·rw[List.getElem?_append_left hi] at hd
   have:=h.2.2 i d hd
   rw[List.getD_eq_getElem?_getD,List.getElem?_append_left (by omega),←List.getD_eq_getElem?_getD]
   exact this
  ·rw[List.getElem?_append_right hi] at hd
   have:=k.2.2 _ d hd
   rw[List.getD_eq_getElem?_getD,List.getElem?_append_right (by omega),hl,←List.getD_eq_getElem?_getD]
   exact this
theorem join {P:Program} {w:World} {N:Nat→Prop} {cs:List Value}:∀ (fs:List Field) (o:Nat),contig P o fs cs.length=true→(∀ f∈fs,∃ l,CV w N ((cs.drop f.offset).take (P.cellsOf f.type)) l∧TyC P f.type l) →
  ∃ l,CV w N (cs.drop o) l∧∀ f∈fs,o≤f.offset∧TyC P f.type ((l.drop (f.offset-o)).take (P.cellsOf f.type))
 | [],o,h,_=>by
  simp[contig] at h
  refine⟨[],⟨by simp;omega,by simp,by simp⟩,by simp⟩
 | f::fs,o,h,hf=>by
  simp only[contig,Bool.and_eq_true,beq_iff_eq] at h
  obtain⟨rfl,h2⟩:=h
  have hle:=contig_le h2
  obtain⟨l',g1,g2⟩:=join fs _ h2 fun f' hf'=>hf f' (by simp[hf'])
  obtain⟨l,k1,k2⟩:=hf f (by simp)
  have hl:l.length=P.cellsOf f.type:=by rw[←k1.1];simp;omega
  refine⟨l++l',?_,fun f' hf' => ?_⟩
  ·have:=k1.append g1
   rw[←List.drop_drop,List.take_append_drop] at this
   exact this
  ·rcases List.mem_cons.1 hf' with rfl | hf'
   ·refine⟨Nat.le_refl _,?_⟩
    rw[Nat.sub_self,List.drop_zero,List.take_append_of_le_length (by omega),List.take_of_length_le (by omega)]
    exact k2
   ·obtain⟨q1,q2⟩:=g2 f' hf'
    refine⟨by omega,?_⟩
    rw[List.drop_append,List.drop_of_length_le (by omega),List.nil_append,hl,show f'.offset-f.offset-P.cellsOf f.type=f'.offset-(f.offset+P.cellsOf f.type) by omega]
    exact q2
section
variable {H:Type} {enc:TypeId × Value→H} {P:Program} {w:World} {spare:Nat→Bool} {held:Bool} {N:Nat→Prop}
theorem cells_of {a:Addr} {n:Nat} {cs:List Value} (h:w.cells? 0 a n=some cs):cs.length=n∧∀ i,i<n→w.cell? (a.add i)=some (cs.getD i undef):=by
 unfold World.cells? at h
 rw[if_pos (Nat.zero_le _)] at h
 have hl:=mapM_some_length h
 rw[List.length_range] at hl
 refine⟨hl,fun i hi => ?_⟩
 have:=mapM_some_get h i i (by simp[hi])
 rw[this]
 simp[show i<cs.length by omega]
theorem addr_none {a:Addr} {v:Value} (h:w.cell? (a.add 0)=some v):∃ b o,a=⟨b,o,none⟩:=by
 obtain⟨b,o,s⟩:=a
 cases s with
 | none=>exact⟨b,o,rfl⟩
 | some x =>
  exfalso
  unfold Addr.add World.cell? at h
  rw[if_pos rfl] at h
  split at h
  ·simp at h
  ·cases h
theorem add_z {a:Addr}:(a.add 0)=a:=by unfold Addr.add;rw[if_pos rfl]
theorem cell_some {b o:Nat} {v:Value} (h:w.cell? ⟨b,o,none⟩=some v):∃ c T fr,w.heap[b]? = some (.cells c T fr)∧o<c.size∧c.getD o undef=v:=by
 unfold World.cell? at h
 split at h
 ·rename_i c T fr hb
  simp only[Option.isSome_none,Bool.false_eq_true,if_false] at h
  obtain⟨h1,h2⟩:=Array.getElem?_eq_some_iff.1 h
  exact⟨c,T,fr,hb,h1,by simp[h1,h2]⟩
 ·cases h
theorem read_cells {S:List TypeId} (hS:plainT P S=true):∀ (fuel:Nat) (t:TypeId) (cs:List Value) (x:DataW H × List MemPlace),t∈S→DataW.trod enc P w 0 spare held fuel t cs=some x →
  ∃ l,CV w (fun b=>b<w.heap.size) cs l∧TyC P t l∧(isStr P t=false→∃ d,l=[d]∧d.isAgg=false):=by
 intro fuel
 induction fuel with
 | zero=>intro t cs x _ h;simp[DataW.trod] at h
 | succ n ih =>
  intro t cs x ht h
  have hp:=hS
  unfold plainT at hp
  rw[List.all_eq_true] at hp
  have hpt':=hp t ht
  rw[Bool.and_eq_true,decide_eq_true_eq] at hpt'
  have hpos:=hpt'.1
  have hpt:=hpt'.2
  clear hpt'
  split at hpt
  ·rename_i hu
   obtain⟨b,rfl,-⟩:=DataW.trod_bool hu h
   exact⟨[.bool b],⟨rfl,by simp[D.one],fun i d hd=>by
    match i,hd with
    | 0,hd=>simp at hd;subst hd;exact .bool b
    | i+1,hd=>simp at hd⟩,.bool t b hu,fun _=>⟨_,rfl,rfl⟩⟩
  ·rename_i k hu
   obtain⟨m,rfl,-,hw⟩:=DataW.trod_int hu h
   exact⟨[.int k m],⟨rfl,by simp[D.one],fun i d hd=>by
    match i,hd with
    | 0,hd=>simp at hd;subst hd;exact .int k m
    | i+1,hd=>simp at hd⟩,.int t k m hu hw,fun _=>⟨_,rfl,rfl⟩⟩
  ·rename_i hu
   obtain⟨s,rfl,-,hw⟩:=DataW.trod_string hu h
   exact⟨[.str s.data.toList],⟨rfl,by simp[D.one],fun i d hd=>by
    match i,hd with
    | 0,hd=>simp at hd;subst hd;exact .str s
    | i+1,hd=>simp at hd⟩,.str t _ hu (by simpa using hw),fun _=>⟨_,rfl,rfl⟩⟩
  ·rename_i e hu
   have he:e∈S:=by simpa using hpt
   have one:∀ (δ:D),δ.one=true→δ.isAgg=false→∀ v:Value,V w (fun b=>b<w.heap.size) v δ→TyC P t [δ]→cs=[v]→∃ l,CV w (fun b=>b<w.heap.size) cs l∧TyC P t l∧(isStr P t=false→∃ d,l=[d]∧d.isAgg=false):=by
    rintro δ h1 h2 v hv hT rfl
    exact⟨[δ],⟨rfl,by simpa using h1,fun i d hd=>by
     match i,hd with
     | 0,hd=>simp at hd;subst hd;exact hv
     | i+1,hd=>simp at hd⟩,hT,fun _=>⟨_,rfl,h2⟩⟩
   rcases DataW.trod_slice hu h with⟨rfl,-⟩ | ⟨a,len,cap,elems,rest,m,hm,rfl,rfl,hb,hl,hcap,hlen,hel,-,-⟩
   ·exact one _ rfl rfl _ (.empty none 0 (e+1000000) (P.cellsOf e) (by omega)) (.slice t e [] hu (by simp) (by simp) (by simp)) rfl
   ·obtain rfl:m=n:=by omega
    have each:∀ i,i<len→∃ (d:D) (cs':List Value),CV w (fun b=>b<w.heap.size) cs' d.cells∧cs'.length=P.cellsOf e∧(∀ j,j<P.cellsOf e→w.cell? ((a.add (i*P.cellsOf e)).add j)=some (cs'.getD j undef))∧TyC P e d.cells∧d.isAgg=isStr P e:=by
     intro i hi
     have h1:=hel i hi
     rw[show elems[i]? = some (elems[i]'(by omega)) by simp[show i<elems.length by omega],Option.bind_eq_some_iff] at h1
     obtain⟨cs',hcs,hy⟩:=h1
     obtain⟨l,g1,g2,g3⟩:=ih e cs' _ he hy
     obtain⟨q1,q2⟩:=cells_of hcs
     cases hs:isStr P e with
     | true=>exact⟨.agg l,cs',g1,q1,q2,g2,rfl⟩
     | false =>
      obtain⟨d,rfl,hd⟩:=g3 hs
      have hc:d.cells=[d]:=by cases d<;>first | rfl | (simp[D.isAgg] at hd)
      exact⟨d,cs',by rw[hc];exact g1,q1,q2,by rw[hc];exact g2,hd⟩
    have hch:∃ f:Nat→D × List Value,∀ i,i<len→CV w (fun b=>b<w.heap.size) (f i).2 (f i).1.cells∧(f i).2.length=P.cellsOf e∧(∀ j,j<P.cellsOf e→w.cell? ((a.add (i*P.cellsOf e)).add j)=some ((f i).2.getD j undef))∧TyC P e (f i).1.cells∧(f i).1.isAgg=isStr P e:=by
     refine⟨fun i=>open Classical in if hi:i<len then ((each i hi).choose,(each i hi).choose_spec.choose) else default,fun i hi => ?_⟩
     simp only[hi,dif_pos]
     exact (each i hi).choose_spec.choose_spec
    obtain⟨f,hf⟩:=hch
    have hty:TyC P t [.list (e+1000000) (P.cellsOf e) ((List.range len).map fun i=>(f i).1)]:=by
     refine .slice t e _ hu (by simpa using Nat.le_trans hl hcap) ?_ ?_
     ·intro d hd
      obtain⟨i,hi,rfl⟩:=List.mem_map.1 hd
      exact (hf i (List.mem_range.1 hi)).2.2.2.1
     ·intro d hd
      obtain⟨i,hi,rfl⟩:=List.mem_map.1 hd
      obtain⟨k1,k2,k3,k4,k5⟩:=hf i (List.mem_range.1 hi)
      exact⟨k1.1.symm.trans k2,k1.2.1,k5⟩
    have hmax:maxLen=9223372036854775807:=rfl
    by_cases h0:len=0
    ·subst h0
     exact one _ rfl rfl _ (.empty (some a) cap (e+1000000) (P.cellsOf e) (by omega)) hty rfl
    ·have hz0:0<P.cellsOf e:=by
      have:=hp e he
      rw[Bool.and_eq_true,decide_eq_true_eq] at this
      exact this.1
     obtain⟨b,o,rfl⟩:∃ b o,a=⟨b,o,none⟩:=by
      have h1:=(hf 0 (by omega)).2.2.1 0 (by omega)
      rw[Nat.zero_mul,add_z] at h1
      exact addr_none h1
     have hcell:∀ i j,i<len→j<P.cellsOf e→w.cell? ⟨b,o+(i*P.cellsOf e+j),none⟩=some ((f i).2.getD j undef):=by
      intro i j hi hj
      have:=(hf i hi).2.2.1 j hj
      rw[add_mid,add_mid] at this
      rw[←Nat.add_assoc];exact this
     obtain⟨c,T,fr,hblk,-,-⟩:=cell_some (hcell 0 0 (by omega) hz0)
     have hlt:b<w.heap.size:=by
      rcases Nat.lt_or_ge b w.heap.size with h | h
      ·exact h
      ·rw[Array.getElem?_eq_none h] at hblk;cases hblk
     have hget:∀ i j,i<len→j<P.cellsOf e→o+(i*P.cellsOf e+j)<c.size∧c.getD (o+(i*P.cellsOf e+j)) undef=(f i).2.getD j undef:=by
      intro i j hi hj
      obtain⟨c',T',fr',h1,h2,h3⟩:=cell_some (hcell i j hi hj)
      rw[hblk] at h1
      cases h1
      exact⟨h2,h3⟩
     have hidx:∀ (i:Nat) (d:D),((List.range len).map fun i=>(f i).1)[i]? = some d→i<len∧d=(f i).1:=by
      intro i d hd
      rw[List.getElem?_map,Option.map_eq_some_iff] at hd
      obtain⟨q,hq,rfl⟩:=hd
      obtain⟨h1,h2⟩:=List.getElem?_eq_some_iff.1 hq
      simp at h1 h2
      subst h2
      exact⟨h1,rfl⟩
     have:=V.list (w:=w) (N:=fun b=>b<w.heap.size) b o cap (e+1000000) (P.cellsOf e) ((List.range len).map fun i=>(f i).1) c fr ⟨T,hblk,.inr (Nat.le_add_left _ _)⟩ hlt (by simpa using hl) (by omega) ?_ ?_ ?_
     ·simp only[List.length_map,List.length_range] at this
      exact one _ rfl rfl _ this hty rfl
     ·intro d hd
      obtain⟨i,hi,rfl⟩:=List.mem_map.1 hd
      obtain⟨k1,k2,-⟩:=hf i (List.mem_range.1 hi)
      exact⟨k1.1.symm.trans k2,k1.2.1⟩
     ·intro i d j q hd hq
      obtain⟨hi,rfl⟩:=hidx i d hd
      obtain⟨k1,k2,-⟩:=hf i hi
      have hj:=(List.getElem?_eq_some_iff.1 hq).1
      exact (hget i j hi (by have:=k1.1;omega)).1
     ·intro i d j q hd hq
      obtain⟨hi,rfl⟩:=hidx i d hd
      obtain⟨k1,k2,-⟩:=hf i hi
      have hj:=(List.getElem?_eq_some_iff.1 hq).1
      rw[(hget i j hi (by have:=k1.1;omega)).2]
      exact k1.2.2 j q hq
  ·rename_i fs hu
   simp only[Bool.and_eq_true,List.all_eq_true] at hpt
   obtain⟨h1,h2⟩:=hpt
   obtain⟨xs,m,hm,rfl,hlen,hxs,hfs⟩:=DataW.trod_struct hu h
   obtain rfl:m=n:=by omega
   rw[←hlen] at h2
   obtain⟨l,g1,g2⟩:=join (w:=w) (N:=fun b=>b<w.heap.size) fs.toList 0 h2 fun f hf=>by
    obtain⟨i,hi,rfl⟩:=List.mem_iff_getElem.1 hf
    have hfi:fs[i]? = some (fs.toList[i]):=by simp at hi ⊢
    have h3:=hfs i _ hfi
    rw[List.getElem?_eq_getElem (show i<xs.length by simp at hi;omega)] at h3
    obtain⟨l,q1,q2,-⟩:=ih _ _ _ (by simpa using h1 _ hf) h3
    exact⟨l,q1,q2⟩
   rw[List.drop_zero] at g1
   exact⟨l,g1,.struct t fs l hu (by rw[←g1.1];exact hlen) fun f hf=>by simpa using (g2 f hf).2,fun hs=>by simp[isStr,hu] at hs⟩
  ·cases hpt
theorem read_arg {S:List TypeId} (hS:plainT P S=true) {t:TypeId} (ht:t∈S) {r:Reach} {b0:Nat} {v:Value} {d:DataW H} {ps:List MemPlace} (hval:Value.okWide P w r b0 t v) (h:DataW.Trod enc P w 0 spare held t v d ps) :
  ∃ δ,V w (fun b=>b<w.heap.size) v δ∧TyC P t δ.cells∧δ.isAgg=isStr P t:=by
 obtain⟨fuel,h⟩:=h
 obtain⟨l,h1,h2,h3⟩:=read_cells hS fuel t _ _ ht h
 have one:isStr P t=false→v.cells = #[v]→∃ δ,V w (fun b=>b<w.heap.size) v δ∧TyC P t δ.cells∧δ.isAgg=isStr P t:=by
  intro hs hc
  obtain⟨δ,rfl,hδ⟩:=h3 hs
  have hcc:δ.cells=[δ]:=by cases δ<;>first | rfl | (simp[D.isAgg] at hδ)
  refine⟨δ,?_,by rw[hcc];exact h2,by rw[hδ,hs]⟩
  have:=h1.2.2 0 δ rfl
  rw[hc] at this
  simpa using this
 cases h2 with
 | bool t b hu=>obtain⟨x,rfl⟩:=Go.WideShapes.okWide_bool hu hval;exact one (by simp[isStr,hu]) rfl
 | int t k n hu=>obtain⟨x,rfl⟩:=Go.WideShapes.okWide_int hu hval;exact one (by simp[isStr,hu]) rfl
 | str t s hu=>obtain⟨x,rfl⟩:=Go.WideShapes.okWide_string hu hval;exact one (by simp[isStr,hu]) rfl
 | slice t e l hu=>obtain⟨a,n,c,rfl⟩:=Go.WideShapes.okWide_slice hu hval;exact one (by simp[isStr,hu]) rfl
 | struct t fs l hu hl hf =>
  obtain⟨cs,rfl,-⟩:=Go.WideShapes.okWide_struct hu hval
  refine⟨.agg l,.agg cs l (by have:=h1.1;simpa[Value.cells] using this) h1.2.1 fun i d hd => ?_,.struct t fs l hu hl hf,by simp[isStr,hu,D.isAgg]⟩
  have:=h1.2.2 i d hd
  simpa[Value.cells] using this
theorem ty_slice {t e:TypeId} {δ:D} (hu:P.underlying t=some (.slice e)) (h:TyC P t δ.cells) (hg:δ.isAgg=isStr P t):∃ l:List D,δ = .list (e+1000000) (P.cellsOf e) l∧l.length≤maxLen∧(∀ d∈l,TyC P e d.cells)∧(∀ d∈l,d.cells.length=P.cellsOf e∧(∀ q∈d.cells,q.one=true)∧d.isAgg=isStr P e):=by
 have hs:isStr P t=false:=by simp[isStr,hu]
 rw[hs] at hg
 have hcc:δ.cells=[δ]:=by cases δ<;>first | rfl | (simp[D.isAgg] at hg)
 rw[hcc] at h
 generalize he:[δ]=m at h
 cases h with
 | slice t e' l hu' h1 h2 h3 =>
  rw[hu] at hu'
  cases hu'
  injection he with he
  exact⟨l,he,h1,h2,h3⟩
 | bool t b hu'=>rw[hu] at hu';cases hu'
 | int t k n hu'=>rw[hu] at hu';cases hu'
 | str t s hu'=>rw[hu] at hu';cases hu'
 | struct t fs l hu'=>rw[hu] at hu';cases hu'
theorem ty_int {t:TypeId} {k:IntKind} {δ:D} (hu:P.underlying t=some (.int k)) (h:TyC P t δ.cells) (hg:δ.isAgg=isStr P t):∃ n:Int,δ = .int k n∧(Lit.int k n).wf=true:=by
 have hs:isStr P t=false:=by simp[isStr,hu]
 rw[hs] at hg
 have hcc:δ.cells=[δ]:=by cases δ<;>first | rfl | (simp[D.isAgg] at hg)
 rw[hcc] at h
 generalize he:[δ]=m at h
 cases h with
 | int t k n hu' h1=>rw[hu] at hu';cases hu';injection he with he;exact⟨n,he,h1⟩
 | bool t b hu'=>rw[hu] at hu';cases hu'
 | str t s hu'=>rw[hu] at hu';cases hu'
 | slice t e l hu'=>rw[hu] at hu';cases hu'
 | struct t fs l hu'=>rw[hu] at hu';cases hu'
theorem ty_ints {t e:TypeId} {k:IntKind} {δ:D} (hu:P.underlying t=some (.slice e)) (he:P.underlying e=some (.int k)) (hc:P.cellsOf e=1) (h:TyC P t δ.cells) (hg:δ.isAgg=isStr P t):∃ l:List Int,δ = .list (e+1000000) 1 (l.map (.int k))∧l.length≤maxLen∧∀ n∈l,(Lit.int k n).wf=true:=by
 obtain⟨l,rfl,h1,h2,h3⟩:=ty_slice hu h hg
 have:∃ m:List Int,l=m.map (.int k)∧∀ n∈m,(Lit.int k n).wf=true:=by
  clear h hg h1
  induction l with
  | nil=>exact⟨[],rfl,by simp⟩
  | cons d l ih =>
   obtain⟨m,rfl,hm⟩:=ih (fun d hd=>h2 d (by simp[hd])) (fun d hd=>h3 d (by simp[hd]))
   obtain⟨s,rfl,hs⟩:=ty_int he (h2 d (by simp)) (h3 d (by simp)).2.2
   refine⟨s::m,rfl,fun s' hs' => ?_⟩
   rcases List.mem_cons.1 hs' with rfl | hs'
   ·exact hs
   ·exact hm s' hs'
 obtain⟨m,rfl,hm⟩:=this
 exact⟨m,by rw[hc],by simpa using h1,hm⟩
end
end Go.Proofs.Ytlnhembcfhfpkaa.M
end

section
namespace Go.Proofs.Ytlnhembcfhfpkaa.M
open Go.RowKit
set_option linter.defProp false
def fin (d:Option Nat) (K:St→Prop):Option (Bool × AV × St)→Prop
 | some (p,v,t)=>p=true∧K (t.put d v)
 | none=>False
theorem fin_some (d:Option Nat) (K:St→Prop) (p:Bool) (v:AV) (t:St):fin d K (some (p,v,t))=(p=true∧K (t.put d v)):=rfl
theorem fin_none (d:Option Nat) (K:St→Prop):fin d K none=False:=rfl
theorem st_call (G:FuncId→List D→D→Prop) (d:Option Nat) (f:FuncId) (args:List Opd) (g:Option (Nat × Bool)) (K:St→Prop) (s:St):step G ⟨d,.call f args,g⟩ K s=(match argsD s args with
  | some ds => ∃ e,G f ds e∧K (s.put d (.p e))
  | none=>False):=rfl
theorem st_append (G:FuncId→List D→D→Prop) (d:Option Nat) (T sz b:Nat) (x y:Opd) (g:Option (Nat × Bool)) (K:St→Prop) (s:St):step G ⟨d,.append T sz b x y,g⟩ K s=fin d K (evApp T sz b x y (d.getD 0) s):=rfl
theorem gs_none (G:FuncId→List D→D→Prop) (d:Option Nat) (o:AOp) (K:St→Prop) (s:St):gstep G ⟨d,o,none⟩ K s=step G ⟨d,o,none⟩ K s:=rfl
theorem gs_some (G:FuncId→List D→D→Prop) (d:Option Nat) (o:AOp) (i:Nat) (b:Bool) (K:St→Prop) (s:St):gstep G ⟨d,o,some (i,b)⟩ K s=(match s.r i with
  | .p (.bool c)=>if c=b then step G ⟨d,o,some (i,b)⟩ K s else K (s.put d (.p (.tup [])))
  | .p (.tup [])=>K (s.put d (.p (.tup [])))
  | _=>False):=rfl
theorem opd_t (r:Nat→AV) (n:Nat):Opd.ev r (.t n)=r n:=rfl
theorem opd_k (r:Nat→AV) (v:AV):Opd.ev r (.k v)=v:=rfl
theorem asI_int (k:IntKind) (n:Int):asI (.p (.int k n))=some n:=rfl
theorem toD_p (any:Bool) (M:Mem) (d:D):AV.toD any M 20 (.p d)=some d:=rfl
theorem toD_nils (any:Bool) (M:Mem) (T:TypeId) (sz:Nat):AV.toD any M 20 (.nils T sz)=some (.list T sz []):=rfl
theorem toD_slice (any:Bool) (M:Mem) (id off len:Nat):AV.toD any M 20 (.slice id off len)=(match M id with
  | some o=>match o.cont with
   | .row l=>if (o.frz||any)&&decide (off+len≤l.length) then some (.list o.T o.sz ((l.drop off).take len)) else none
   | _=>none
  | none=>none):=rfl
theorem argsD_nil (s:St):argsD s []=some []:=rfl
theorem argsD_cons (s:St) (x:Opd) (l:List Opd):argsD s (x::l)=(match (x.ev s.r).toD false s.m 20,argsD s l with
  | some d,some ds=>some (d::ds)
  | _,_=>none):=rfl
theorem st_mov (G:FuncId→List D→D→Prop) (dd:Option Nat) (x:Opd) (g:Option (Nat × Bool)) (K:St→Prop) (s:St):step G ⟨dd,.mov x,g⟩ K s=fin dd K (ev (.mov x) (dd.getD 0) s):=rfl
theorem ev_mov (x:Opd) (id:Nat) (s:St):ev (.mov x) id s=(some (true,x.ev s.r,s)):=rfl
theorem st_nilCheck (G:FuncId→List D→D→Prop) (dd:Option Nat) (x:Opd) (g:Option (Nat × Bool)) (K:St→Prop) (s:St):step G ⟨dd,.nilCheck x,g⟩ K s=fin dd K (ev (.nilCheck x) (dd.getD 0) s):=rfl
theorem ev_nilCheck (x:Opd) (id:Nat) (s:St):ev (.nilCheck x) id s=(match x.ev s.r with
  | .ptr i j o=>some (true,.ptr i j o,s)
  | .p (.ref d)=>some (true,.p (.ref d),s)
  | _=>none):=rfl
theorem st_pick (G:FuncId→List D→D→Prop) (dd:Option Nat) (c:Opd) (a:Opd) (b:Opd) (g:Option (Nat × Bool)) (K:St→Prop) (s:St):step G ⟨dd,.pick c a b,g⟩ K s=fin dd K (ev (.pick c a b) (dd.getD 0) s):=rfl
theorem ev_pick (c:Opd) (a:Opd) (b:Opd) (id:Nat) (s:St):ev (.pick c a b) id s=(match c.ev s.r with
  | .p (.bool true)=>some (true,a.ev s.r,s)
  | .p (.bool false)=>some (true,b.ev s.r,s)
  | _=>none):=rfl
theorem st_alloc (G:FuncId→List D→D→Prop) (dd:Option Nat) (T:Nat) (sz:Nat) (z:AV) (g:Option (Nat × Bool)) (K:St→Prop) (s:St):step G ⟨dd,.alloc T sz z,g⟩ K s=fin dd K (ev (.alloc T sz z) (dd.getD 0) s):=rfl
theorem ev_alloc (T:Nat) (sz:Nat) (z:AV) (id:Nat) (s:St):ev (.alloc T sz z) id s=(match s.m id with
  | none=>some (true,.ptr id 0 0,⟨s.r,upd s.m id (some ⟨T,sz,.box z,false⟩)⟩)
  | some _=>none):=rfl
theorem st_box (G:FuncId→List D→D→Prop) (dd:Option Nat) (T:Nat) (sz:Nat) (x:Opd) (g:Option (Nat × Bool)) (K:St→Prop) (s:St):step G ⟨dd,.box T sz x,g⟩ K s=fin dd K (ev (.box T sz x) (dd.getD 0) s):=rfl
theorem ev_box (T:Nat) (sz:Nat) (x:Opd) (id:Nat) (s:St):ev (.box T sz x) id s=(match s.m id with
  | none=>if (x.ev s.r).cells.length=sz∧(x.ev s.r).cells.all AV.one=true then some (true,.ptr id 0 0,⟨s.r,upd s.m id (some ⟨T,sz,.box (x.ev s.r),false⟩)⟩) else none
  | some _=>none):=rfl
theorem st_build (G:FuncId→List D→D→Prop) (dd:Option Nat) (z:List AV) (parts:List (Nat × Nat × Opd)) (g:Option (Nat × Bool)) (K:St→Prop) (s:St):step G ⟨dd,.build z parts,g⟩ K s=fin dd K (ev (.build z parts) (dd.getD 0) s):=rfl
theorem ev_build (z:List AV) (parts:List (Nat × Nat × Opd)) (id:Nat) (s:St):ev (.build z parts) id s=(match fillA z s.r parts with
  | some l=>some (true,AV.mk l,s)
  | none=>none):=rfl
theorem st_buildSlice (G:FuncId→List D→D→Prop) (dd:Option Nat) (T:Nat) (sz:Nat) (z:D) (n:Nat) (parts:List (Nat × Opd)) (g:Option (Nat × Bool)) (K:St→Prop) (s:St):step G ⟨dd,.buildSlice T sz z n parts,g⟩ K s=fin dd K (ev (.buildSlice T sz z n parts) (dd.getD 0) s):=rfl
theorem ev_buildSlice (T:Nat) (sz:Nat) (z:D) (n:Nat) (parts:List (Nat × Opd)) (id:Nat) (s:St):ev (.buildSlice T sz z n parts) id s=(match s.m id with
  | none=>match fillR sz (List.replicate n z) s.r s.m parts with
   | some l=>some (true,.slice id 0 n,⟨s.r,upd s.m id (some ⟨T,sz,.row l,false⟩)⟩)
   | none=>none
  | some _=>none):=rfl
theorem st_load (G:FuncId→List D→D→Prop) (dd:Option Nat) (ag:Bool) (sz:Nat) (x:Opd) (g:Option (Nat × Bool)) (K:St→Prop) (s:St):step G ⟨dd,.load ag sz x,g⟩ K s=fin dd K (ev (.load ag sz x) (dd.getD 0) s):=rfl
theorem ev_load (ag:Bool) (sz:Nat) (x:Opd) (id:Nat) (s:St):ev (.load ag sz x) id s=(match x.ev s.r with
  | .ptr i j off=>match s.m i with
   | some ⟨_,osz,.row l,_⟩=>match (AV.p (l.getD j default)).get off sz osz ag with
    | some v=>some (decide (j<l.length),v,s)
    | none=>none
   | some ⟨_,osz,.box v,_⟩=>if j=0 then match v.get off sz osz ag with
    | some u=>some (true,u,s)
    | none=>none else none
   | _=>none
  | .p (.ref d)=>if d.isAgg=ag then some (decide (d.cells.length=sz∧0<sz),.p d,s) else none
  | _=>none):=rfl
theorem st_store (G:FuncId→List D→D→Prop) (dd:Option Nat) (sz:Nat) (x:Opd) (v:Opd) (g:Option (Nat × Bool)) (K:St→Prop) (s:St):step G ⟨dd,.store sz x v,g⟩ K s=fin dd K (ev (.store sz x v) (dd.getD 0) s):=rfl
theorem ev_store (sz:Nat) (x:Opd) (v:Opd) (id:Nat) (s:St):ev (.store sz x v) id s=(match x.ev s.r with
  | .ptr i j off=>match s.m i with
   | some ⟨T,osz,.row l,false⟩=>match (v.ev s.r).toD false s.m 20 with
    | some d=>if d.cells.length=sz∧d.cells.all D.one=true then
      (
       if off=0∧sz=osz then some (decide (j<l.length),.und,⟨s.r,upd s.m i (some ⟨T,osz,.row (l.set j d),false⟩)⟩)
       else none) else none
    | none=>none
   | some ⟨T,osz,.box u,false⟩=>if (v.ev s.r).cells.length=sz∧(v.ev s.r).cells.all AV.one=true∧j=0 then
     (
      if off=0∧sz=osz then some (true,.und,⟨s.r,upd s.m i (some ⟨T,osz,.box (v.ev s.r),false⟩)⟩)
      else if off+sz≤osz then some (true,.und,⟨s.r,upd s.m i (some ⟨T,osz,.box (AV.mk (u.cells.take off++(v.ev s.r).cells++u.cells.drop (off+sz))),false⟩)⟩) else none) else none
   | some ⟨T,osz,.junk,false⟩=>if (v.ev s.r).cells.length=sz∧(v.ev s.r).cells.all AV.one=true∧j=0 then
     (if off=0∧sz=osz then some (true,.und,⟨s.r,upd s.m i (some ⟨T,osz,.box (v.ev s.r),false⟩)⟩) else none) else none
   | _=>none
  | _=>none):=rfl
theorem st_bin (G:FuncId→List D→D→Prop) (dd:Option Nat) (bo:Bool) (op:BinOp) (x:Opd) (y:Opd) (g:Option (Nat × Bool)) (K:St→Prop) (s:St):step G ⟨dd,.bin bo op x y,g⟩ K s=fin dd K (ev (.bin bo op x y) (dd.getD 0) s):=rfl
theorem ev_bin (bo:Bool) (op:BinOp) (x:Opd) (y:Opd) (id:Nat) (s:St):ev (.bin bo op x y) id s=(match x.ev s.r,y.ev s.r with
  | .p a,.p b=>if a.isBool=bo then match binD op a b with
   | some (c,d)=>some (c,.p d,s)
   | none=>none else none
  | _,_=>none):=rfl
theorem st_eqs (G:FuncId→List D→D→Prop) (dd:Option Nat) (n:Nat) (neg:Bool) (x:Opd) (y:Opd) (g:Option (Nat × Bool)) (K:St→Prop) (s:St):step G ⟨dd,.eqs n neg x y,g⟩ K s=fin dd K (ev (.eqs n neg x y) (dd.getD 0) s):=rfl
theorem ev_eqs (n:Nat) (neg:Bool) (x:Opd) (y:Opd) (id:Nat) (s:St):ev (.eqs n neg x y) id s=(match x.ev s.r,y.ev s.r with
  | .p (.agg a),.p (.agg b)=>match intsOf a,intsOf b with
   | some (k,l),some (k',m)=>if k=k'∧k.length=n then some (true,.p (.bool (if neg then !decide (l=m) else decide (l=m))),s) else none
   | _,_=>none
  | _,_=>none):=rfl
theorem st_un (G:FuncId→List D→D→Prop) (dd:Option Nat) (op:UnOp) (x:Opd) (g:Option (Nat × Bool)) (K:St→Prop) (s:St):step G ⟨dd,.un op x,g⟩ K s=fin dd K (ev (.un op x) (dd.getD 0) s):=rfl
theorem ev_un (op:UnOp) (x:Opd) (id:Nat) (s:St):ev (.un op x) id s=(match x.ev s.r with
  | .p a=>match unD op a with
   | some (c,d)=>some (c,.p d,s)
   | none=>none
  | _=>none):=rfl
theorem st_conv (G:FuncId→List D→D→Prop) (dd:Option Nat) (k:IntKind) (x:Opd) (g:Option (Nat × Bool)) (K:St→Prop) (s:St):step G ⟨dd,.conv k x,g⟩ K s=fin dd K (ev (.conv k x) (dd.getD 0) s):=rfl
theorem ev_conv (k:IntKind) (x:Opd) (id:Nat) (s:St):ev (.conv k x) id s=(match x.ev s.r with
  | .p (.int _ n)=>some (inK k n,.p (.int k n),s)
  | _=>none):=rfl
theorem st_makeSlice (G:FuncId→List D→D→Prop) (dd:Option Nat) (T:Nat) (sz:Nat) (bytes:Nat) (z:D) (l:Opd) (c:Opd) (g:Option (Nat × Bool)) (K:St→Prop) (s:St):step G ⟨dd,.makeSlice T sz bytes z l c,g⟩ K s=fin dd K (ev (.makeSlice T sz bytes z l c) (dd.getD 0) s):=rfl
theorem ev_makeSlice (T:Nat) (sz:Nat) (bytes:Nat) (z:D) (l:Opd) (c:Opd) (id:Nat) (s:St):ev (.makeSlice T sz bytes z l c) id s=(match s.m id with
  | none=>match asI (l.ev s.r),asI (c.ev s.r) with
   | some n,some m=>some (decide (0≤n∧n=m∧bytes*n≤281474976710656∧n≤9223372036854775807),.slice id 0 n.toNat,⟨s.r,upd s.m id (some ⟨T,sz,.row (List.replicate n.toNat z),false⟩)⟩)
   | _,_=>none
  | some _=>none):=rfl
theorem st_sliceS (G:FuncId→List D→D→Prop) (dd:Option Nat) (x:Opd) (lo:Option Opd) (hi:Option Opd) (g:Option (Nat × Bool)) (K:St→Prop) (s:St):step G ⟨dd,.sliceS x lo hi,g⟩ K s=fin dd K (ev (.sliceS x lo hi) (dd.getD 0) s):=rfl
theorem ev_sliceS (x:Opd) (lo:Option Opd) (hi:Option Opd) (id:Nat) (s:St):ev (.sliceS x lo hi) id s=(match x.ev s.r with
  | .p (.str t)=>match bounds s.r t.length lo hi none with
   | some (c,l,h)=>some (c,.p (.str ((t.drop l).take (h-l))),s)
   | none=>none
  | _=>none):=rfl
theorem st_slice (G:FuncId→List D→D→Prop) (dd:Option Nat) (sz:Nat) (x:Opd) (lo:Option Opd) (hi:Option Opd) (mx:Option Opd) (g:Option (Nat × Bool)) (K:St→Prop) (s:St):step G ⟨dd,.slice sz x lo hi mx,g⟩ K s=fin dd K (ev (.slice sz x lo hi mx) (dd.getD 0) s):=rfl
theorem ev_slice (sz:Nat) (x:Opd) (lo:Option Opd) (hi:Option Opd) (mx:Option Opd) (id:Nat) (s:St):ev (.slice sz x lo hi mx) id s=(match x.ev s.r with
  | .p (.list T sz' t)=>if sz=sz' then match bounds s.r t.length lo hi mx with
   | some (c,l,h)=>some (c,.p (.list T sz ((t.drop l).take (h-l))),s)
   | none=>none else none
  | .slice i off len=>match s.m i with
   | some o=>if o.sz=sz then match bounds s.r len lo hi mx with
    | some (c,l,h)=>some (c,.slice i (off+l) (h-l),s)
    | none=>none else none
   | none=>none
  | .nils T sz=>match bounds s.r 0 lo hi mx with
   | some (c,_,_)=>some (c,.nils T sz,s)
   | none=>none
  | .arr i off len=>if sz=1 then match bounds s.r len lo hi mx with
   | some (c,l,h)=>some (c,.arr i (off+l) (h-l),s)
   | none=>none else none
  | _=>none):=rfl
theorem st_fieldAddr (G:FuncId→List D→D→Prop) (dd:Option Nat) (off:Nat) (sz:Nat) (ag:Bool) (x:Opd) (g:Option (Nat × Bool)) (K:St→Prop) (s:St):step G ⟨dd,.fieldAddr off sz ag x,g⟩ K s=fin dd K (ev (.fieldAddr off sz ag x) (dd.getD 0) s):=rfl
theorem ev_fieldAddr (off:Nat) (sz:Nat) (ag:Bool) (x:Opd) (id:Nat) (s:St):ev (.fieldAddr off sz ag x) id s=(match x.ev s.r with
  | .ptr i j o=>some (true,.ptr i j (o+off),s)
  | .p (.ref d)=>match d.part off sz ag with
   | some e=>some (true,.p (.ref e),s)
   | none=>none
  | _=>none):=rfl
theorem st_field (G:FuncId→List D→D→Prop) (dd:Option Nat) (off:Nat) (sz:Nat) (ag:Bool) (x:Opd) (g:Option (Nat × Bool)) (K:St→Prop) (s:St):step G ⟨dd,.field off sz ag x,g⟩ K s=fin dd K (ev (.field off sz ag x) (dd.getD 0) s):=rfl
theorem ev_field (off:Nat) (sz:Nat) (ag:Bool) (x:Opd) (id:Nat) (s:St):ev (.field off sz ag x) id s=(if (x.ev s.r).isAgg=some true then match (x.ev s.r).part off sz ag with
  | some v=>some (true,v,s)
  | none=>none else none):=rfl
theorem st_indexAddr (G:FuncId→List D→D→Prop) (dd:Option Nat) (sz:Nat) (x:Opd) (i:Opd) (g:Option (Nat × Bool)) (K:St→Prop) (s:St):step G ⟨dd,.indexAddr sz x i,g⟩ K s=fin dd K (ev (.indexAddr sz x i) (dd.getD 0) s):=rfl
theorem ev_indexAddr (sz:Nat) (x:Opd) (i:Opd) (id:Nat) (s:St):ev (.indexAddr sz x i) id s=(match x.ev s.r,asI (i.ev s.r) with
  | .p (.list _ sz' t),some n=>if sz=sz' then some (decide (0≤n∧n<t.length),.p (.ref (t.getD n.toNat default)),s) else none
  | .slice j off len,some n=>match s.m j with
   | some o=>if o.sz=sz then some (decide (0≤n∧n<len),.ptr j (off+n.toNat) 0,s) else none
   | none=>none
  | .arr j off len,some n=>if sz=1 then some (decide (0≤n∧n<len),.ptr j 0 (off+n.toNat),s) else none
  | _,_=>none):=rfl
theorem st_index (G:FuncId→List D→D→Prop) (dd:Option Nat) (x:Opd) (i:Opd) (g:Option (Nat × Bool)) (K:St→Prop) (s:St):step G ⟨dd,.index x i,g⟩ K s=fin dd K (ev (.index x i) (dd.getD 0) s):=rfl
theorem ev_index (x:Opd) (i:Opd) (id:Nat) (s:St):ev (.index x i) id s=(match x.ev s.r,asI (i.ev s.r) with
  | .p (.str t),some n=>some (decide (0≤n∧n<t.length),.p (.int .u8 ((t.getD n.toNat 0).toNat:Int)),s)
  | _,_=>none):=rfl
theorem st_extract (G:FuncId→List D→D→Prop) (dd:Option Nat) (x:Opd) (i:Nat) (g:Option (Nat × Bool)) (K:St→Prop) (s:St):step G ⟨dd,.extract x i,g⟩ K s=fin dd K (ev (.extract x i) (dd.getD 0) s):=rfl
theorem ev_extract (x:Opd) (i:Nat) (id:Nat) (s:St):ev (.extract x i) id s=(match x.ev s.r with
  | .p (.tup l)=>(l[i]?).map fun d=>(true,.p d,s)
  | .tup l=>(l[i]?).map fun d=>(true,d,s)
  | _=>none):=rfl
theorem st_mm (G:FuncId→List D→D→Prop) (dd:Option Nat) (mx:Bool) (x y:Opd) (g:Option (Nat × Bool)) (K:St→Prop) (s:St):step G ⟨dd,.mm mx x y,g⟩ K s=fin dd K (ev (.mm mx x y) (dd.getD 0) s):=rfl
theorem ev_mm (mx:Bool) (x y:Opd) (id:Nat) (s:St):ev (.mm mx x y) id s=(match x.ev s.r,y.ev s.r with
  | .p (.int k p),.p (.int k' q)=>if k=k' then some (true,.p (.int k (if mx then (if q > p then q else p) else (if q<p then q else p))),s) else none
  | _,_=>none):=rfl
theorem st_lenS (G:FuncId→List D→D→Prop) (dd:Option Nat) (x:Opd) (g:Option (Nat × Bool)) (K:St→Prop) (s:St):step G ⟨dd,.lenS x,g⟩ K s=fin dd K (ev (.lenS x) (dd.getD 0) s):=rfl
theorem ev_lenS (x:Opd) (id:Nat) (s:St):ev (.lenS x) id s=(match x.ev s.r with
  | .p (.str t)=>some (true,.p (.int .i64 t.length),s)
  | _=>none):=rfl
theorem st_len (G:FuncId→List D→D→Prop) (dd:Option Nat) (x:Opd) (g:Option (Nat × Bool)) (K:St→Prop) (s:St):step G ⟨dd,.len x,g⟩ K s=fin dd K (ev (.len x) (dd.getD 0) s):=rfl
theorem ev_len (x:Opd) (id:Nat) (s:St):ev (.len x) id s=(match x.ev s.r with
  | .p (.list _ _ t)=>some (true,.p (.int .i64 t.length),s)
  | .slice _ _ n=>some (true,.p (.int .i64 n),s)
  | .nils _ _=>some (true,.p (.int .i64 0),s)
  | .arr _ _ n=>some (true,.p (.int .i64 n),s)
  | _=>none):=rfl
def cs0:=And.intro @cops_app (And.intro @fin_some (And.intro @fin_none (And.intro @st_call (And.intro @st_append (And.intro @gs_none (And.intro @gs_some (And.intro @opd_t (And.intro @opd_k (And.intro @asI_int (And.intro @toD_p (And.intro @toD_nils (And.intro @toD_slice (And.intro @argsD_nil (And.intro @argsD_cons (And.intro @st_mov (And.intro @ev_mov (And.intro @st_nilCheck (And.intro @ev_nilCheck (And.intro @st_pick (And.intro @ev_pick (And.intro @st_alloc (And.intro @ev_alloc (And.intro @st_box (And.intro @ev_box (And.intro @st_build (And.intro @ev_build (And.intro @st_buildSlice (And.intro @ev_buildSlice (@st_load)))))))))))))))))))))))))))))
def cs1:=And.intro @ev_load (And.intro @st_store (And.intro @ev_store (And.intro @st_bin (And.intro @ev_bin (And.intro @st_eqs (And.intro @ev_eqs (And.intro @st_un (And.intro @ev_un (And.intro @st_conv (And.intro @ev_conv (And.intro @st_makeSlice (And.intro @ev_makeSlice (And.intro @st_sliceS (And.intro @ev_sliceS (And.intro @st_slice (And.intro @ev_slice (And.intro @st_fieldAddr (And.intro @ev_fieldAddr (And.intro @st_field (And.intro @ev_field (And.intro @st_indexAddr (And.intro @ev_indexAddr (And.intro @st_index (And.intro @ev_index (And.intro @st_extract (And.intro @ev_extract (And.intro @st_mm (And.intro @ev_mm (And.intro @st_lenS (And.intro @ev_lenS (@st_len)))))))))))))))))))))))))))))))
def cs2:=And.intro @ev_len (And.intro @List.all_nil.{0} (And.intro @true_and (And.intro @upd_look (And.intro @upd_lookM (And.intro @setR_nil (And.intro @setR_cons (And.intro @setM_nil (And.intro @setM_cons (And.intro @sel_nil (And.intro @sel_cons (And.intro @look_cons (And.intro @look_nil (And.intro @lookM_cons (And.intro @lookM_nil (And.intro @Option.getD_some.{0} (And.intro @eq_self.{1} (And.intro @decide_true (And.intro @decide_false (And.intro @Bool.not_true (And.intro @Bool.not_false (And.intro @Bool.false_eq_true (And.intro @Bool.true_eq_false (And.intro @dc_bool (And.intro @do_bool (And.intro @da_bool (And.intro @dc_int (And.intro @do_int (And.intro @da_int (@dc_str)))))))))))))))))))))))))))))
def cs3:=And.intro @do_str (And.intro @da_str (And.intro @dc_list (And.intro @do_list (And.intro @da_list (And.intro @dc_nilp (And.intro @do_nilp (And.intro @da_nilp (And.intro @dc_ref (And.intro @do_ref (And.intro @da_ref (And.intro @dc_fn (And.intro @do_fn (And.intro @da_fn (And.intro @dc_agg (And.intro @do_agg (And.intro @da_agg (And.intro @ac_p (And.intro @ao_p (And.intro @aa_p (And.intro @ac_agg (And.intro @aa_agg (And.intro @ao_agg (And.intro @ac_slice (And.intro @ao_slice (And.intro @aa_slice (And.intro @ac_ptr (And.intro @ao_ptr (And.intro @aa_ptr (@ac_nils)))))))))))))))))))))))))))))
def cs4:=And.intro @ao_nils (And.intro @aa_nils (And.intro @decide_eq_true_eq (And.intro @Bool.and_eq_true (And.intro @and_true (And.intro @List.length_map.{0,0} (And.intro @List.map_cons.{0,0} (And.intro @List.map_nil.{0,0} (And.intro @getD_I (And.intro @set_I (And.intro @rep_I (And.intro @take_I (And.intro @drop_I (And.intro @app_I (And.intro @cast1 (And.intro @Int.add_sub_cancel (And.intro @Int.toNat_natCast (And.intro @List.length_set.{0} (And.intro @List.length_replicate.{0} (And.intro @true_implies (And.intro @false_implies (And.intro @List.length_cons.{0} (And.intro @List.length_nil.{0} (And.intro @Nat.zero_add (And.intro @Nat.lt_add_one (And.intro @ne_eq.{1} (And.intro @not_true_eq_false (And.intro @not_false_eq_true (And.intro @Nat.add_zero (@Nat.sub_zero)))))))))))))))))))))))))))))
def cs5:=And.intro @List.drop_zero.{0} (And.intro @List.take_length.{0} (And.intro @Int.toNat_zero (And.intro @toNat1 (And.intro @cast0 (And.intro @List.all_cons.{0} (And.intro @List.append_nil.{0} (And.intro @List.nil_append.{0} (And.intro @List.cons_append.{0} (And.intro @List.take_zero.{0} (And.intro @List.take_nil.{0} (And.intro @List.take_succ_cons.{0} (And.intro @List.drop_succ_cons.{0} (And.intro @List.drop_nil.{0} (And.intro @Bool.and_self (And.intro @and_self (And.intro @List.getElem?_cons_zero.{0} (And.intro @List.getElem?_cons_succ.{0} (And.intro @Option.map_some.{0,0} (And.intro @Nat.le_refl (And.intro @Option.some.injEq.{0} (And.intro @Bool.and_true (And.intro @Bool.true_and (And.intro @if_true.{1} (And.intro @if_false.{1} (@Option.map_none.{0,0})))))))))))))))))))))))))
end Go.Proofs.Ytlnhembcfhfpkaa.M
end

section
namespace Go.Proofs.Ytlnhembcfhfpkaa.M
open Go.RowKit
set_option linter.defProp false
theorem bd_add (k:IntKind) (a b:Int):binD .add (.int k a) (.int k b)=some (inK k (a+b),.int k (a+b)):=by simp[binD]
theorem bd_sub (k:IntKind) (a b:Int):binD .sub (.int k a) (.int k b)=some (inK k (a-b),.int k (a-b)):=by simp[binD]
theorem bd_mul (k:IntKind) (a b:Int):binD .mul (.int k a) (.int k b)=some (inK k (a*b),.int k (a*b)):=by simp[binD]
theorem bd_quo (k:IntKind) (a b:Int):binD .quo (.int k a) (.int k b)=some (decide (b≠0)&&inK k (a.tdiv b),.int k (a.tdiv b)):=by simp[binD]
theorem bd_rem (k:IntKind) (a b:Int):binD .rem (.int k a) (.int k b)=some (decide (b≠0),.int k (a.tmod b)):=by simp[binD]
theorem bd_eql (k:IntKind) (a b:Int):binD .eql (.int k a) (.int k b)=some (true,.bool (decide (a=b))):=by simp[binD]
theorem bd_neq (k:IntKind) (a b:Int):binD .neq (.int k a) (.int k b)=some (true,.bool (!decide (a=b))):=by simp[binD]
theorem bd_lss (k:IntKind) (a b:Int):binD .lss (.int k a) (.int k b)=some (true,.bool (decide (a<b))):=by simp[binD]
theorem bd_leq (k:IntKind) (a b:Int):binD .leq (.int k a) (.int k b)=some (true,.bool (decide (a≤b))):=by simp[binD]
theorem bd_gtr (k:IntKind) (a b:Int):binD .gtr (.int k a) (.int k b)=some (true,.bool (decide (b<a))):=by simp[binD]
theorem bd_geq (k:IntKind) (a b:Int):binD .geq (.int k a) (.int k b)=some (true,.bool (decide (b≤a))):=by simp[binD]
theorem bd_sadd (a b:List UInt8):binD .add (.str a) (.str b)=some (decide (a.length+b.length≤9223372036854775807),.str (a++b)):=rfl
theorem bd_seql (a b:List UInt8):binD .eql (.str a) (.str b)=some (true,.bool (decide (a=b))):=rfl
theorem bd_sneq (a b:List UInt8):binD .neq (.str a) (.str b)=some (true,.bool (!decide (a=b))):=rfl
theorem bd_beql (a b:Bool):binD .eql (.bool a) (.bool b)=some (true,.bool (a == b)):=rfl
theorem bd_bneq (a b:Bool):binD .neq (.bool a) (.bool b)=some (true,.bool (!(a == b))):=rfl
theorem ud_not (a:Bool):unD .not (.bool a)=some (true,.bool (!a)):=rfl
theorem ud_neg (k:IntKind) (a:Int):unD .neg (.int k a)=some (inK k (-a),.int k (-a)):=rfl
theorem ik_i64 (n:Int):inK .i64 n=decide (-9223372036854775808≤n∧n≤9223372036854775807):=rfl
theorem ik_u8 (n:Int):inK .u8 n=decide (0≤n∧n≤255):=rfl
theorem ib_int (k:IntKind) (n:Int):D.isBool (.int k n)=false:=rfl
theorem ib_str (s:List UInt8):D.isBool (.str s)=false:=rfl
theorem ib_bool (b:Bool):D.isBool (.bool b)=true:=rfl
def cs6:=And.intro @bd_add (And.intro @bd_sub (And.intro @bd_mul (And.intro @bd_quo (And.intro @bd_rem (And.intro @bd_eql (And.intro @bd_neq (And.intro @bd_lss (And.intro @bd_leq (And.intro @bd_gtr (And.intro @bd_geq (And.intro @bd_sadd (And.intro @bd_seql (And.intro @bd_sneq (And.intro @bd_beql (And.intro @bd_bneq (And.intro @ud_not (And.intro @ud_neg (And.intro @ik_i64 (And.intro @ik_u8 (And.intro @ib_int (And.intro @ib_str (@ib_bool))))))))))))))))))))))
def fgR (i:Nat):List (Nat × AV)→List (Nat × AV)
 | []=>[]
 | (j,v)::l=>(j,v.forget i)::fgR i l
def fgM (i:Nat):List (Nat × AObj)→List (Nat × AObj)
 | []=>[]
 | (j,v)::l=>(j,v.forget i)::fgM i l
theorem fgR_nil (i:Nat):fgR i []=[]:=rfl
theorem fgR_cons (i j:Nat) (v:AV) (l:List (Nat × AV)):fgR i ((j,v)::l)=(j,v.forget i)::fgR i l:=rfl
theorem fgM_nil (i:Nat):fgM i []=[]:=rfl
theorem fgM_cons (i j:Nat) (v:AObj) (l:List (Nat × AObj)):fgM i ((j,v)::l)=(j,v.forget i)::fgM i l:=rfl
theorem forget_und (i:Nat):AV.forget i .und = .und:=by unfold AV.forget;rfl
theorem forget_p (i:Nat) (d:D):AV.forget i (.p d) = .p d:=by unfold AV.forget;rfl
theorem forget_nils (i T sz:Nat):AV.forget i (.nils T sz) = .nils T sz:=by unfold AV.forget;rfl
theorem forget_slice (i j o n:Nat):AV.forget i (.slice j o n)=if j=i then .und else .slice j o n:=by unfold AV.forget;rfl
theorem forget_ptr (i j k o:Nat):AV.forget i (.ptr j k o)=if j=i then .und else .ptr j k o:=by unfold AV.forget;rfl
theorem forget_agg (i:Nat) (l:List AV):AV.forget i (.agg l)=(match forgetL i l with | some l => .agg l | none => .und):=by unfold AV.forget;rfl
theorem of_row (i T sz:Nat) (l:List D) (f:Bool):AObj.forget i ⟨T,sz,.row l,f⟩=⟨T,sz,.row l,f⟩:=rfl
theorem of_junk (i T sz:Nat) (f:Bool):AObj.forget i ⟨T,sz,.junk,f⟩=⟨T,sz,.junk,f⟩:=rfl
theorem of_boxp (i T sz:Nat) (d:D) (f:Bool):AObj.forget i ⟨T,sz,.box (.p d),f⟩=⟨T,sz,.box (.p d),f⟩:=by simp only[AObj.forget,forget_p]
theorem of_box (i T sz:Nat) (v:AV) (f:Bool):AObj.forget i ⟨T,sz,.box v,f⟩=(match v.forget i with
  | .und=>⟨T,sz,.junk,f⟩
  | u=>⟨T,sz,.box u,f⟩):=rfl
theorem forgetR_look (i:Nat):∀ (l:List (Nat × AV)),forgetR i (look l)=look (fgR i l)
 | []=>by funext j;simp only[forgetR,fgR_nil,look_nil,forget_und]
 | (k,u)::l=>by
  funext j
  have ih:=congrFun (forgetR_look i l) j
  simp only[forgetR] at ih
  simp only[forgetR,fgR_cons,look_cons]
  split
  ·rfl
  ·exact ih
theorem forgetM_look (i:Nat):∀ (l:List (Nat × AObj)),forgetM i (lookM l)=lookM (fgM i l)
 | []=>by funext j;simp only[forgetM,fgM_nil,lookM_nil,Option.map_none]
 | (k,u)::l=>by
  funext j
  have ih:=congrFun (forgetM_look i l) j
  simp only[forgetM] at ih
  simp only[forgetM,fgM_cons,lookM_cons]
  split
  ·rfl
  ·exact ih
section
variable {w0:World} {base:Bs} {nt:Nat} {loc:Locs} {s:St} {a:Act} {w:World} {OT:List TypeId}
theorem Rel.drop (h:Rel w0 base nt loc s a w) (i:Nat) (hi:i≠lentId):Rel w0 base nt (upd loc i none) ⟨forgetR i s.r,upd (forgetM i s.m) i none⟩ a w:=by
 have hl:∀ j L,j≠i→loc j=some L→upd loc i none j=some L:=fun j L hj hL=>by rw[upd_ne _ _ hj];exact hL
 have hother:∀ j ob,upd (forgetM i s.m) i none j=some ob→j≠i∧∃ ob0,s.m j=some ob0∧ob=ob0.forget i:=by
  intro j ob hob
  by_cases hj:j=i
  ·subst hj;rw[upd_same] at hob;cases hob
  ·rw[upd_ne _ _ hj] at hob
   unfold forgetM at hob
   simp only[Option.map_eq_some_iff] at hob
   obtain⟨ob0,h1,h2⟩:=hob
   exact⟨hj,ob0,h1,h2.symm⟩
 have hN:∀ b,NB base s.m loc w b→NB base (upd (forgetM i s.m) i none) (upd loc i none) w b:=by
  rintro b hbN
  refine⟨hbN.1,hbN.2.1,?_⟩
  rintro⟨j,ob,Lj,h1,h2,h3,h4,h5⟩
  obtain⟨hj,ob0,g1,rfl⟩:=hother j ob h1
  rw[upd_ne _ _ hj] at h3
  exact hbN.2.2 ⟨j,ob0,Lj,g1,by rw[←(forget_same i ob0).2.2.1];exact h2,h3,h4,h5⟩
 refine⟨h.ext,h.defers,h.size,h.low,?_,fun t=>(h.tmps t).forget (fun _ _=>rfl) hN hl,?_,?_,h.keepL.turn (fun o0 g1 g2=>⟨o0.forget i,by dsimp only;rw[upd_ne _ _ (Ne.symm hi)];unfold forgetM;rw[g1];rfl,by rw[(forget_same i o0).2.2.1];exact g2⟩) (fun _=>upd_ne _ _ (Ne.symm hi))⟩
 ·intro j hj
  dsimp only at hj
  by_cases e:j=i
  ·subst e;exact upd_same _ _ _
  ·rw[upd_ne _ _ e] at hj ⊢
   unfold forgetM at hj
   simp only[Option.map_eq_none_iff] at hj
   exact h.dom j hj
 ·intro j ob hob
  obtain⟨e,ob0,g1,rfl⟩:=hother j ob hob
  obtain⟨Lj,hLj,hokj⟩:=h.objs j ob0 g1
  obtain⟨f1,f2,f3,f4⟩:=forget_same i ob0
  refine⟨Lj,hl j Lj e hLj,hokj.sz.trans f2.symm,fun hn=>f4 (hokj.nil hn),fun hn => ?_⟩
  obtain⟨c,fr,k1,k2,k3,k4,k5⟩:=hokj.at_ hn
  exact⟨c,fr,by rw[f1];exact k1,k2,by rw[f2];exact k3.forget (fun _ _=>rfl) hN hl,fun hf=>k4 (f3 ▸ hf),fun hf=>hN _ (k5 (f3 ▸ hf))⟩
 ·intro j j' ob ob' Lj Lj' hob hob' hf hLj hLj' hn hn' hbb
  obtain⟨e,ob0,g1,rfl⟩:=hother j ob hob
  obtain⟨e',ob0',g1',rfl⟩:=hother j' ob' hob'
  rw[upd_ne _ _ e] at hLj
  rw[upd_ne _ _ e'] at hLj'
  exact h.inj j j' ob0 ob0' Lj Lj' g1 g1' ((forget_same i ob0).2.2.1 ▸ hf) hLj hLj' hn hn' hbb
theorem Rel.freeze (h:Rel w0 base nt loc s a w) {i:Nat} {ob:AObj} (hi:i≠lentId) (hm:s.m i=some ob):Rel w0 base nt loc ⟨s.r,upd s.m i (some ⟨ob.T,ob.sz,ob.cont,true⟩)⟩ a w:=h.frz0 hi hm
theorem Sub.drop (i:Nat) (s:St) (hi:i≠lentId):Sub OT s ⟨forgetR i s.r,upd (forgetM i s.m) i none⟩:=by
 rintro C a w rfl ⟨⟨loc,hr⟩,h2⟩
 refine⟨⟨_,hr.drop i hi⟩,fun j o ho => ?_⟩
 dsimp only at ho
 by_cases e:j=i
 ·subst e;rw[upd_same] at ho;cases ho
 ·rw[upd_ne _ _ e] at ho
  unfold forgetM at ho
  simp only[Option.map_eq_some_iff] at ho
  obtain⟨o',h1,rfl⟩:=ho
  rw[(forget_same _ o').1]
  exact h2 j o' h1
theorem Sub.freeze {i:Nat} {r:Nat→AV} {m:Mem} {ob:AObj} (hi:i≠lentId) (hm:m i=some ob):Sub OT ⟨r,m⟩ ⟨r,upd m i (some ⟨ob.T,ob.sz,ob.cont,true⟩)⟩:=by
 rintro C a w rfl ⟨⟨loc,hr⟩,h2⟩
 refine⟨⟨_,hr.freeze hi hm⟩,fun j o ho => ?_⟩
 dsimp only at ho
 by_cases e:j=i
 ·subst e;rw[upd_same] at ho;cases ho;exact h2 j ob hm
 ·rw[upd_ne _ _ e] at ho;exact h2 j o ho
theorem keepF (i:Nat) (ob:AObj) (ts:List Nat) {r:Nat→AV} {m:Mem} {R:St→Prop} (hm:m i=some ob) (h:R ⟨look (sel r ts),upd m i (some ⟨ob.T,ob.sz,ob.cont,true⟩)⟩) (hi:i≠lentId:=by decide):∃ u,Sub OT ⟨r,m⟩ u∧R u:=⟨_,(Sub.freeze hi hm).tr (Sub.und (sel_or ts)),h⟩
end
end Go.Proofs.Ytlnhembcfhfpkaa.M
end

section
namespace Go.Proofs.Ytlnhembcfhfpkaa.M
open Go.RowKit
set_option linter.defProp false
mutual
def AV.men (L:List Nat):AV→Bool
 | .slice i _ _=>L.contains i
 | .ptr i _ _=>L.contains i
 | .arr i _ _=>L.contains i
 | .agg l=>menL L l
 | .tup l=>menL L l
 | _=>false
def menL (L:List Nat):List AV→Bool
 | []=>false
 | v::l=>v.men L||menL L l
end
def AObj.men (L:List Nat) (o:AObj):Bool:=match o.cont with
 | .box v=>v.men L
 | _=>false
def closedR (L:List Nat):List (Nat × AV)→Bool
 | []=>true
 | (_,v)::l => !v.men L&&closedR L l
def closedM (L:List Nat):List (Nat × AObj)→Bool
 | [] => !L.contains lentId
 | (i,o)::l=>(L.contains i||!o.men L)&&closedM L l
def memN (i:Nat):List Nat→Bool
 | []=>false
 | j::l=>if i=j then true else memN i l
theorem memN_eq (i:Nat):∀ l:List Nat,l.contains i=memN i l
 | []=>rfl
 | j::l=>by
  rw[List.contains_cons,memN_eq i l,memN]
  by_cases h:i=j<;>simp[h]
def delL (L:List Nat):List (Nat × AObj)→List (Nat × AObj)
 | []=>[]
 | (i,o)::l=>if memN i L=true then delL L l else (i,o)::delL L l
theorem delL_nil (L:List Nat):delL L []=[]:=rfl
theorem delL_cons (L:List Nat) (i:Nat) (o:AObj) (l:List (Nat × AObj)):delL L ((i,o)::l)=if memN i L=true then delL L l else (i,o)::delL L l:=rfl
theorem memN_nil (i:Nat):memN i []=false:=rfl
theorem memN_cons (i j:Nat) (l:List Nat):memN i (j::l)=if i=j then true else memN i l:=rfl
def csG:=And.intro @delL_nil (And.intro @delL_cons (And.intro @memN_nil (@memN_cons)))
theorem menL_mem {L:List Nat} {l:List AV} (h:menL L l=false):∀ v∈l,v.men L=false:=by
 induction l with
 | nil=>simp
 | cons u l ih =>
  simp only[menL,Bool.or_eq_false_iff] at h
  intro v hv
  rcases List.mem_cons.1 hv with rfl | hv
  ·exact h.1
  ·exact ih h.2 v hv
theorem men_cells {L:List Nat} {x:AV} (h:x.men L=false):∀ e∈x.cells,e.men L=false:=by
 cases x with
 | p d =>
  intro e he
  simp only[AV.cells,List.mem_map] at he
  obtain⟨_,_,rfl⟩:=he
  unfold AV.men;rfl
 | agg l=>rw[AV.men] at h;exact menL_mem h
 | _=>intro e he;simp only[AV.cells,List.mem_singleton] at he;subst he;exact h
section
variable {w0:World} {base:Bs} {nt:Nat} {loc loc':Locs} {a:Act} {w:World} {OT:List TypeId} {N N':Nat→Prop} {r:Nat→AV} {m:Mem}
theorem RV.lose {L:List Nat} {v:Value} {x:AV} (h:RV w N loc v x) (hx:x.men L=false) (hn:∀ b,N b→N' b) (hl:∀ id K,L.contains id=false→loc id=some K→loc' id=some K):RV w N' loc' v x:=by
 induction h with
 | und v=>exact .und v
 | p v d h=>exact .p v d (h.mono (fun _ _=>rfl) hn)
 | agg cs l h1 h2 _ ih=>rw[AV.men] at hx;exact .agg cs l h1 h2 fun i d hd=>ih i d hd (menL_mem hx d (List.mem_of_getElem? hd))
 | tup cs l h1 _ ih=>rw[AV.men] at hx;exact .tup cs l h1 fun i d hd=>ih i d hd (menL_mem hx d (List.mem_of_getElem? hd))
 | nils T sz=>exact .nils T sz
 | slice K id off len cap h1 h2 h3 h4 h5=>rw[AV.men] at hx;exact .slice K id off len cap (hl _ _ hx h1) h2 h3 h4 h5
 | sliceEmp K id off p h1=>rw[AV.men] at hx;exact .sliceEmp K id off p (hl _ _ hx h1)
 | arr K id off len cap h1 h2 h3 h4 h5=>rw[AV.men] at hx;exact .arr K id off len cap (hl _ _ hx h1) h2 h3 h4 h5
 | arrEmp K id off p h1=>rw[AV.men] at hx;exact .arrEmp K id off p (hl _ _ hx h1)
 | ptr K id i off h1 h2=>rw[AV.men] at hx;exact .ptr K id i off (hl _ _ hx h1) h2
theorem Rel.dropL (h:Rel w0 base nt loc ⟨r,m⟩ a w) (L:List Nat) {r':Nat→AV} {m':Mem} (hr:∀ t,r' t = .und∨(r' t=r t∧(r t).men L=false)) (hm:∀ i,m' i=if L.contains i then none else m i)
  (hc:∀ i o,m' i=some o→o.men L=false) (h9:L.contains lentId=false):Rel w0 base nt (fun i=>if L.contains i then none else loc i) ⟨r',m'⟩ a w:=by
 have hl:∀ j K,L.contains j=false→loc j=some K→(fun i=>if L.contains i then none else loc i) j=some K:=fun j K hj hK=>by simp only[hj];exact hK
 have hother:∀ j ob,m' j=some ob→L.contains j=false∧m j=some ob:=by
  intro j ob hob
  rw[hm] at hob
  cases hj:L.contains j with
  | true=>rw[hj] at hob;cases hob
  | false=>rw[hj] at hob;exact⟨rfl,hob⟩
 have hN:∀ b,NB base m loc w b→NB base m' (fun i=>if L.contains i then none else loc i) w b:=by
  rintro b hbN
  refine⟨hbN.1,hbN.2.1,?_⟩
  rintro⟨j,ob,Lj,h1,h2,h3,h4,h5⟩
  obtain⟨hj,g1⟩:=hother j ob h1
  simp only[hj] at h3
  exact hbN.2.2 ⟨j,ob,Lj,g1,h2,h3,h4,h5⟩
 refine⟨h.ext,h.defers,h.size,h.low,?_,fun t => ?_,?_,?_,h.keepL.turn (fun o0 g1 g2=>⟨o0,by dsimp only;rw[hm,h9];exact g1,g2⟩) (fun _=>by simp only[h9];rfl)⟩
 ·intro j hj
  dsimp only at hj ⊢
  rw[hm] at hj
  cases e:L.contains j with
  | true=>rfl
  | false=>rw[e] at hj;exact h.dom j hj
 ·dsimp only
  rcases hr t with e | ⟨e,e2⟩<;>rw[e]
  ·exact .und _
  ·exact RV.lose (L:=L) (h.tmps t) e2 hN hl
 ·intro j ob hob
  obtain⟨e,g1⟩:=hother j ob hob
  obtain⟨Lj,hLj,hokj⟩:=h.objs j ob g1
  refine⟨Lj,hl j Lj e hLj,hokj.sz,hokj.nil,fun hn => ?_⟩
  obtain⟨c,fr,k1,k2,k3,k4,k5⟩:=hokj.at_ hn
  refine⟨c,fr,k1,k2,?_,k4,fun hf=>hN _ (k5 hf)⟩
  have hmen:=hc j ob hob
  unfold AObj.men at hmen
  cases hcont:ob.cont with
  | row l=>rw[hcont] at k3;exact⟨k3.1,k3.2.1,fun i e j d h1 h2=>⟨(k3.2.2 i e j d h1 h2).1,(k3.2.2 i e j d h1 h2).2.mono (fun _ _=>rfl) hN⟩⟩
  | junk=>rw[hcont] at k3;exact k3
  | box v =>
   rw[hcont] at k3 hmen
   exact⟨k3.1,k3.2.1,k3.2.2.1,fun j d h1=>(k3.2.2.2 j d h1).lose (men_cells hmen d (List.mem_of_getElem? h1)) hN hl⟩
 ·intro j j' ob ob' Lj Lj' hob hob' hf hLj hLj' hn hn' hbb
  obtain⟨e,g1⟩:=hother j ob hob
  obtain⟨e',g1'⟩:=hother j' ob' hob'
  simp only[e] at hLj
  simp only[e'] at hLj'
  exact h.inj j j' ob ob' Lj Lj' g1 g1' hf hLj hLj' hn hn' hbb
theorem Sub.dropL (L:List Nat) {r':Nat→AV} {m':Mem} (hr:∀ t,r' t = .und∨(r' t=r t∧(r t).men L=false)) (hm:∀ i,m' i=if L.contains i then none else m i)
  (hc:∀ i o,m' i=some o→o.men L=false) (h9:L.contains lentId=false):Sub OT ⟨r,m⟩ ⟨r',m'⟩:=by
 rintro C a w rfl ⟨⟨loc,hR⟩,h2⟩
 refine⟨⟨_,hR.dropL L hr hm hc h9⟩,fun j o ho => ?_⟩
 dsimp only at ho
 rw[hm] at ho
 split at ho
 ·cases ho
 ·exact h2 j o ho
theorem look_closed {L:List Nat}:∀ {l:List (Nat × AV)} (t:Nat),closedR L l=true→(look l t).men L=false
 | [],t,_=>by rw[look_nil];unfold AV.men;rfl
 | (i,v)::l,t,h=>by
  simp only[closedR,Bool.and_eq_true,Bool.not_eq_true'] at h
  rw[look_cons]
  split
  ·exact h.1
  ·exact look_closed t h.2
theorem lookM_del (L:List Nat):∀ (l:List (Nat × AObj)) (i:Nat),lookM (delL L l) i=if L.contains i then none else lookM l i
 | [],i=>by rw[delL_nil,lookM_nil];split<;>rfl
 | (j,o)::l,i=>by
  have ih:=lookM_del L l i
  rw[delL_cons,lookM_cons]
  by_cases hj:memN j L=true
  ·rw[if_pos hj,ih]
   by_cases e:i=j
   ·subst e;rw[memN_eq,hj];rfl
   ·rw[if_neg e]
  ·rw[if_neg hj,lookM_cons,ih]
   by_cases e:i=j
   ·subst e;rw[if_pos rfl,memN_eq,if_neg hj,if_pos rfl]
   ·rw[if_neg e,if_neg e]
theorem lookM_closed {L:List Nat}:∀ {l:List (Nat × AObj)} (i:Nat) (o:AObj),closedM L l=true→lookM (delL L l) i=some o→o.men L=false
 | [],i,o,_,h=>by rw[delL_nil] at h;cases h
 | (j,q)::l,i,o,h,ho=>by
  simp only[closedM,Bool.and_eq_true,Bool.or_eq_true,Bool.not_eq_true'] at h
  rw[delL_cons] at ho
  split at ho
  ·exact lookM_closed i o h.2 ho
  ·rename_i hj
   rw[lookM_cons] at ho
   split at ho
   ·cases ho
    rw[memN_eq] at h
    exact h.1.resolve_left hj
   ·exact lookM_closed i o h.2 ho
theorem closedM_lent {L:List Nat}:∀ {l:List (Nat × AObj)},closedM L l=true→L.contains lentId=false
 | [],h=>by simpa[closedM] using h
 | (j,q)::l,h=>by
  simp only[closedM,Bool.and_eq_true] at h
  exact closedM_lent h.2
theorem Sub.keepG (ts L:List Nat) {R:List (Nat × AV)} {M:List (Nat × AObj)} (h1:closedR L (sel (look R) ts)=true) (h2:closedM L M=true):Sub OT ⟨look R,lookM M⟩ ⟨look (sel (look R) ts),lookM (delL L M)⟩:=
 (Sub.und (sel_or ts)).tr (Sub.dropL L (fun t => .inr ⟨rfl,look_closed t h1⟩) (lookM_del L M) (fun i o ho=>lookM_closed i o h2 ho) (closedM_lent h2))
theorem keepG (ts L:List Nat) {R:List (Nat × AV)} {M:List (Nat × AObj)} {K:St→Prop} (h1:closedR L (sel (look R) ts)=true) (h2:closedM L M=true) (h:K ⟨look (sel (look R) ts),lookM (delL L M)⟩):∃ u,Sub OT ⟨look R,lookM M⟩ u∧K u:=
 ⟨_,Sub.keepG ts L h1 h2,h⟩
theorem Sub.toG (ts L:List Nat) {R:List (Nat × AV)} {M:List (Nat × AObj)} {r':Nat→AV} {m':Mem} (h1:closedR L (sel (look R) ts)=true) (h2:closedM L M=true) (e1:look (sel (look R) ts)=r') (e2:lookM (delL L M)=m'):Sub OT ⟨look R,lookM M⟩ ⟨r',m'⟩:=by
 subst e1 e2;exact Sub.keepG ts L h1 h2
theorem Sub.nilG (t i T sz:Nat) {R:List (Nat × AV)} {M:List (Nat × AObj)} {r':Nat→AV} {m':Mem} (ht:look R t = .nils T sz) (hm:lookM M i=none) (hT:OT.contains T=true)
  (e1:look (setR t (.slice i 0 0) R)=r') (e2:lookM (setM i ⟨T,sz,.row [],false⟩ M)=m'):Sub OT ⟨look R,lookM M⟩ ⟨r',m'⟩:=by
 subst e1 e2
 rw[←upd_look,←upd_lookM]
 exact Sub.nil t i ht hm (by simpa using hT)
theorem ea_nils (T sz bytes:Nat) (x y:Opd) (id:Nat) (s:St):evApp T sz bytes x y id s=(match elemsOf sz s.m (y.ev s.r) with
 | none=>none
 | some ys=>match x.ev s.r with
  | .nils _ sz'=>match s.m id with
   | none=>if sz'=sz then some (decide (ys.length*bytes≤140737488355328∧ys.length≤9223372036854775807),.slice id 0 ys.length,⟨s.r,upd s.m id (some ⟨T,sz,.row ys,false⟩)⟩) else none
   | some _=>none
  | .slice i 0 n=>match s.m i with
   | some ⟨T',sz',.row l,false⟩=>if sz'=sz∧T'=T∧n=l.length∧i≠999999 then
     some (decide ((n+ys.length)*bytes≤140737488355328∧n+ys.length≤9223372036854775807),.slice i 0 (n+ys.length),⟨forgetR i s.r,upd (forgetM i s.m) i (some ⟨T,sz,.row (l++ys),false⟩)⟩) else none
   | _=>none
  | _=>none):=rfl
theorem eo_eq (sz:Nat) (m:Mem) (v:AV):elemsOf sz m v=(match v with
 | .slice j off n=>match m j with
  | some ⟨_,sz',.row l,_⟩=>if sz'=sz∧off+n≤l.length then some ((l.drop off).take n) else none
  | _=>none
 | .p (.list _ sz' l)=>if sz'=sz then some l else none
 | .nils _ sz'=>if sz'=sz then some [] else none
 | _=>none):=rfl
theorem fr_nil (sz:Nat) (l:List D) (r:Nat→AV) (M:Mem):fillR sz l r M []=some l:=rfl
theorem fr_cons (sz:Nat) (l:List D) (r:Nat→AV) (M:Mem) (i:Nat) (x:Opd) (rest:List (Nat × Opd)):fillR sz l r M ((i,x)::rest)=(match (x.ev r).toD false M 20 with
 | some d=>if d.cells.length=sz∧d.cells.all D.one=true∧i<l.length then fillR sz (l.set i d) r M rest else none
 | none=>none):=rfl
theorem rep_1 (z:D):List.replicate 1 z=[z]:=rfl
theorem rep_2 (z:D):List.replicate 2 z=[z,z]:=rfl
theorem set_0 (x z:D) (l:List D):(z::l).set 0 x=x::l:=rfl
theorem set_1 (x y z:D) (l:List D):(z::y::l).set 1 x=z::x::l:=rfl
theorem st_bsF (G:FuncId→List D→D→Prop) (dd:Option Nat) (T:Nat) (sz:Nat) (z:D) (n:Nat) (parts:List (Nat × Opd)) (g:Option (Nat × Bool)) (K:St→Prop) (s:St):step G ⟨dd,.buildSliceF T sz z n parts,g⟩ K s=fin dd K (ev (.buildSliceF T sz z n parts) (dd.getD 0) s):=rfl
theorem ev_bsF (T:Nat) (sz:Nat) (z:D) (n:Nat) (parts:List (Nat × Opd)) (id:Nat) (s:St):ev (.buildSliceF T sz z n parts) id s=(if id=999999 then none else match s.m id with
  | none=>match fillR sz (List.replicate n z) s.r s.m parts with
   | some l=>some (true,.slice id 0 n,⟨s.r,upd s.m id (some ⟨T,sz,.row l,true⟩)⟩)
   | none=>none
  | some _=>none):=rfl
def frzO (id:Nat):Option (Bool × AV × St)→Option (Bool × AV × St)
 | some (p,v,t)=>some (p,v,frzS (slId id v) t)
 | none=>none
theorem frzO_some (id:Nat) (p:Bool) (i o n:Nat) (t:St):frzO id (some (p,.slice i o n,t))=some (p,.slice i o n,frzS i t):=rfl
theorem st_appF (G:FuncId→List D→D→Prop) (d:Option Nat) (T sz b:Nat) (x y:Opd) (g:Option (Nat × Bool)) (K:St→Prop) (s:St):step G ⟨d,.appendF T sz b x y,g⟩ K s=fin d K (frzO (d.getD 0) (evApp T sz b x y (d.getD 0) s)):=by
 unfold step frzO
 simp only
 cases evApp T sz b x y (d.getD 0) s<;>rfl
theorem frzS_eq (id:Nat) (r:Nat→AV) (m:Mem):frzS id ⟨r,m⟩=(if id=999999 then ⟨r,m⟩ else match m id with
 | some o=>⟨r,upd m id (some ⟨o.T,o.sz,o.cont,true⟩)⟩
 | none=>⟨r,m⟩):=rfl
def csA:=And.intro @st_bsF (And.intro @ev_bsF (And.intro @frzO_some (And.intro @st_appF (And.intro @frzS_eq (And.intro @fr_nil (And.intro @fr_cons (And.intro @rep_1 (And.intro @rep_2 (And.intro @set_0 (And.intro @set_1 (And.intro @ea_nils (And.intro @eo_eq (And.intro @forgetR_look (And.intro @forgetM_look (And.intro @fgR_nil (And.intro @fgR_cons (And.intro @fgM_nil (And.intro @fgM_cons (And.intro @forget_und (And.intro @forget_p (And.intro @forget_nils (And.intro @forget_slice (And.intro @forget_ptr (And.intro @of_row (And.intro @of_junk (@of_boxp))))))))))))))))))))))))))
def csW:=And.intro cs0 (And.intro cs1 (And.intro cs2 (And.intro cs3 (And.intro cs4 (And.intro cs5 (And.intro cs6 (And.intro csG (And.intro csA (And.intro @St.put.eq_1 (And.intro @St.put.eq_2 (And.intro @apOk.eq_1 (And.intro @bounds.eq_1 (And.intro @bounds.eq_2 (And.intro @bounds.eq_3 (And.intro @bounds.eq_4 (And.intro @bounds.eq_5 (And.intro @Option.getD_none.{0} (And.intro @forall_const.{0} (@forall_const.{1})))))))))))))))))))
end
end Go.Proofs.Ytlnhembcfhfpkaa.M
end

section
namespace Go.Proofs.Ytlnhembcfhfpkaa.M
open Go.RowKit
section
variable {OT:List TypeId} {r:Nat→AV} {m:Mem}
theorem Sub.reveal (t:Nat) (d:D) (hd:(r t).toD false m 20=some d):Sub OT ⟨r,m⟩ ⟨upd r t (.p d),m⟩:=by
 rintro C a w-⟨⟨loc,hr⟩,h2⟩
 refine⟨⟨loc,hr.ext,hr.defers,hr.size,hr.low,hr.dom,fun u => ?_,hr.objs,hr.inj,hr.keepL⟩,h2⟩
 by_cases e:u=t
 ·subst e
  simp only[upd_same]
  exact .p _ _ (toD_pure hr hd (hr.tmps u))
 ·simp only[upd_ne _ _ e]
  exact hr.tmps u
theorem Sub.showG (t i:Nat) (ob:AObj) (d:D) {R:List (Nat × AV)} {M:List (Nat × AObj)} (hm:lookM M i=some ob) (hd:(look R t).toD false (lookM (setM i ⟨ob.T,ob.sz,ob.cont,true⟩ M)) 20=some d) (hi:i≠lentId:=by decide) :
  Sub OT ⟨look R,lookM M⟩ ⟨look (setR t (.p d) R),lookM (setM i ⟨ob.T,ob.sz,ob.cont,true⟩ M)⟩:=by
 rw[←upd_look]
 refine (Sub.freeze hi hm).tr ?_
 rw[upd_lookM]
 exact Sub.reveal t d hd
theorem keepF2 (i:Nat) (ob:AObj) (j:Nat) (ob':AObj) (ts:List Nat) {R:St→Prop} (hm:m i=some ob) (hm':upd m i (some ⟨ob.T,ob.sz,ob.cont,true⟩) j=some ob')
  (h:R ⟨look (sel r ts),upd (upd m i (some ⟨ob.T,ob.sz,ob.cont,true⟩)) j (some ⟨ob'.T,ob'.sz,ob'.cont,true⟩)⟩) (hi:i≠lentId:=by decide) (hj:j≠lentId:=by decide):∃ u,Sub OT ⟨r,m⟩ u∧R u:=
 ⟨_,((Sub.freeze hi hm).tr (Sub.freeze hj hm')).tr (Sub.und (sel_or ts)),h⟩
end
end Go.Proofs.Ytlnhembcfhfpkaa.M
end

section
namespace Go.Proofs.Ytlnhembcfhfpkaa.M
open Go.RowKit
def initL (k T sz:Nat) (l:List D) (ds:List D):St:=⟨fun t=>if t=k then .slice lentId 0 l.length else match ds[t]? with
 | some d => .p d
 | none => .und,fun i=>if i=lentId then some ⟨T,sz,.row l,false⟩ else none⟩
def unlent (s:St):St:=⟨s.r,fun i=>if i=lentId then none else s.m i⟩
inductive ResLt (s:St) (rs:List (Nat × Option (Bool × Nat))):D→Prop
 | plain {r:D}:resD (unlent s) rs=some r→(∀ m,r≠.tup [.int .i64 m])→ResLt s rs r
 | pre {m:Int} {t:Nat}:rs=[(t,none)]→s.r t = .slice lentId 0 m.toNat→ResLt s rs (.tup [.int .i64 m])
def EndsL (T sz:Nat) (l':List D) (r:D) (rs:List (Nat × Option (Bool × Nat))):AExit→St→Prop
 | .exit _,_=>False
 | _,s=>s.m lentId=some ⟨T,sz,.row l',false⟩∧ResLt s rs r
theorem lentRes_plain {w:World} {N:Nat→Prop} {b o sz n:Nat} {v:Value} {r:D} (h:∀ m,r≠.tup [.int .i64 m]) (hv:V w N v r):LentRes w N b o sz n v r:=by
 unfold LentRes
 split
 ·exact absurd rfl (h _)
 ·exact hv
theorem FnOk.conL {P:Program} {A OT:List TypeId} {f:FuncId} {cc:CC} {rs:List (Nat × Option (Bool × Nat))} {nt k:Nat} {ds:List D} {T sz:Nat} {l l':List D} {r:D} (h:FnOk P f OT cc rs nt) (hA:OT.all (fun T => !A.contains T)=true) (hn:ds.length≤nt) (hT:OT.contains T=true) (hk:k<ds.length)
  (hcw:cw OT (ConX P A) cc (EndsL T sz l' r rs) (initL k T sz l ds)):ConLent P A f k ds T sz l r l':=by
 obtain⟨fn,H,hf,hbd,hm,hc,hr,rfl⟩:=h
 obtain⟨code,hb⟩:=Option.isSome_iff_exists.1 hbd
 rw[hb] at hc
 simp only[Option.getD_some] at hc
 intro own w vs b o cap c fr h1 h2 h3 h4 hob hargk hheap hcap hcap2 hroom hfr hcont
 have hblt:b<w.heap.size:=lt_of_heap hheap
 have hnb:∀ x,(x<w.heap.size∧¬ own x)→NB ⟨own,some ⟨b,o,c.size,sz,false⟩⟩ (initL k T sz l ds).m (fun i=>if i=lentId then some ⟨b,o,c.size,sz,false⟩ else none) w x:=fun x hx=>⟨hx.1,hx.2,by
  rintro⟨id,ob,L,g1,g2,g3,g4,g5⟩
  dsimp only[initL] at g1 g3
  by_cases e:id=lentId
  ·subst e
   rw[if_pos rfl] at g3
   cases g3
   exact hx.2 (g5 ▸ hob)
  ·rw[if_neg e] at g1;cases g1⟩
 have hbody:=cw_sound (C:=⟨P,A,OT,fn.ntmps,w,⟨own,some ⟨b,o,c.size,sz,false⟩⟩⟩) ⟨h2,fun T hT=>by
  rw[List.all_eq_true] at hA
  have:=hA T hT
  simpa using this⟩ hm H code cc _ (initL k T sz l ds) { tmps:=vs++Array.replicate (fn.ntmps-vs.size) undef,defers:=[] } w hc hcw ⟨⟨fun i=>if i=lentId then some ⟨b,o,c.size,sz,false⟩ else none,ExtL.rf _ w,rfl,by simp;omega,h1,fun id hid => ?_,fun t => ?_,fun id ob ho => ?_,fun id id' ob ob' L L' g1 g2 _ _ _ _ _ _ => ?_,fun L hL => ?_⟩,fun id ob ho => ?_⟩
 ·refine calls_of_wp hf hb (wp_mono hbody ?_)
  intro e a' w' hq
  have fin:(∃ t,Is ⟨P,A,OT,fn.ntmps,w,⟨own,some ⟨b,o,c.size,sz,false⟩⟩⟩ t a' w'∧t.m lentId=some ⟨T,sz,.row l',false⟩∧ResLt t rs r)→a'.defers=[]∧∃ v,(results fn a'.tmps).run P w' = .ok v w'∧∃ v' c',Ending.returned v=Ending.returned v'∧ExtL ⟨own,some ⟨b,o,c.size,sz,false⟩⟩ w w'∧w'.heap[b]? = some (.cells c' T fr)∧c'.size=c.size ∧
   ContOk w' (fun b=>b<w'.heap.size∧¬ own b) (fun _=>none) c' o sz (.row l')∧LentRes w' (fun b=>b<w'.heap.size∧¬ own b) b o sz c.size v' r:=by
   rintro⟨t,ht,hlm,hres⟩
   obtain⟨loc,hrel⟩:=ht.1
   refine⟨hrel.defers,?_⟩
   obtain⟨L,hL,hok⟩:=hrel.objs lentId _ hlm
   obtain⟨y1,y2,y3,-⟩:=hrel.keepL _ rfl
   rw[hL] at y1
   cases y1
   obtain⟨c1,fr1,k1,k2,k3,k4,-⟩:=hok.at_ rfl
   obtain⟨c2,z1,z2⟩:=hrel.ext.lentB b c T fr hheap
   dsimp only at k1 k2 z2
   rw[z2] at k1
   simp only[Option.some.injEq,Obj.cells.injEq,true_and] at k1
   obtain⟨rfl,rfl⟩:=k1
   have hcont':ContOk w' (fun b=>b<w'.heap.size∧¬ own b) (fun _=>none) c2 o sz (.row l'):=⟨k3.1,k3.2.1,fun i e j d q1 q2=>⟨(k3.2.2 i e j d q1 q2).1,(k3.2.2 i e j d q1 q2).2.mono (fun _ _=>rfl) fun b hb=>⟨hb.1,hb.2.1⟩⟩⟩
   have hresults:∀ vs:List Value,(fn.results.toList.mapM (resRun a'.tmps)).run P w' = .ok vs w'→(results fn a'.tmps).run P w' = .ok (if h:vs.toArray.size=1 then vs.toArray[0] else .tuple vs.toArray) w':=by
    intro vs hv
    have hv':(fn.results.mapM (resRun a'.tmps)).run P w' = .ok vs.toArray w':=by
     rw[Array.mapM_eq_mapM_toList]
     simp[hv]
    rw[results_eq]
    simp only[Sem.run_bind,hv',Result.andThen]
    rfl
   cases hres with
   | plain hres hne =>
    have key:∀ ds',resL (unlent t) rs=some ds'→∃ vs:List Value,(fn.results.toList.mapM (resRun a'.tmps)).run P w' = .ok vs w'∧vs.length=ds'.length∧∀ (i:Nat) (d:D),ds'[i]? = some d→V w' (fun b=>b<w'.heap.size∧¬ own b) (vs.getD i undef) d:=by
     intro ds' hds
     exact resL_run (M':=(unlent t).m) (fun i x hx=>by
      dsimp only[unlent] at hx
      split at hx
      ·cases hx
      ·exact hx) (.inr (by simp[unlent])) hrel _ _ _ hr hds
    unfold resD at hres
    split at hres
    ·rename_i d' hd'
     simp only[Option.some.injEq] at hres
     subst hres
     obtain⟨vs,q1,q2,q3⟩:=key _ hd'
     match vs,q2 with
     | [v],_ =>
      refine⟨v,by rw[hresults _ q1];simp,v,c2,rfl,hrel.ext,z2,z1,hcont',lentRes_plain hne ?_⟩
      have:=q3 0 d' rfl
      simpa using this
    ·rename_i ds' hne1 hd'
     simp only[Option.some.injEq] at hres
     subst hres
     obtain⟨vs,q1,q2,q3⟩:=key _ hd'
     have hne2:vs.length≠1:=by
      intro h1
      rw[q2] at h1
      match ds',h1 with
      | [d'],_=>exact hne1 d' rfl
     exact⟨.tuple vs.toArray,by rw[hresults _ q1,dif_neg (by simpa using hne2)],_,c2,rfl,hrel.ext,z2,z1,hcont',lentRes_plain hne (.tup _ _ (by simpa using q2) (fun i e he=>by simpa using q3 i e he))⟩
    ·cases hres
   | pre hrs hst =>
    rename_i m tt
    subst hrs
    cases hfr:fn.results.toList with
    | nil=>rw[hfr] at hr;simp[resC] at hr
    | cons x rest =>
     rw[hfr] at hr
     obtain⟨y,rs',g1,g2,g3⟩:=resV_run hrel x rest _ hr
     obtain⟨rfl,rfl⟩:=List.cons.inj g1
     obtain⟨v,q1,q2⟩:=g3 t.m _ (fun _ _ h=>h) rfl
     have hrest:rest=[]:=by
      cases rest with
      | nil=>rfl
      | cons y ys =>
       cases y<;>simp only[resC] at g2
       ·simp[Option.map_eq_some_iff] at g2
       ·split at g2
        ·split at g2
         ·simp[Option.map_eq_some_iff] at g2
         ·cases g2
        ·cases g2
     subst hrest
     refine⟨v,by rw[hresults [v] (by rw[hfr];simp[List.mapM_cons,q1])];simp,v,c2,rfl,hrel.ext,z2,z1,hcont',?_⟩
     rw[hst] at q2
     show (∃ cap,v = .slice (some ⟨b,o,none⟩) m.toNat cap∧m.toNat≤cap∧cap≤9223372036854775807∧o+cap*sz≤c.size)∨(m.toNat=0∧∃ p,v = .slice p 0 0)
     generalize m.toNat=mm at q2 ⊢
     cases q2 with
     | slice L id off len cap' e1 e2 e3 e4 e5 =>
      rw[hL] at e1
      cases e1
      refine .inl ⟨cap',?_,e3,e4,?_⟩
      ·simp
      ·simpa using e5
     | sliceEmp L id off p e1 =>
      exact .inr ⟨rfl,p,rfl⟩
  cases e with
  | normal=>obtain⟨t,ht,hres⟩:=hq;exact fin ⟨t,ht,hres⟩
  | ret=>obtain⟨t,ht,hres⟩:=hq;exact fin ⟨t,ht,hres⟩
  | exit id=>obtain⟨t,ht,hbad⟩:=hq;exact hbad.elim
  | _=>exact hq.elim
 ·dsimp only[initL] at hid
  split at hid
  ·cases hid
  ·rename_i e;rw[if_neg e]
 ·by_cases htk:t=k
  ·subst htk
   have hr':(initL t T sz l ds).r t = .slice lentId 0 l.length:=by simp[initL]
   rw[hr']
   have hg:(vs++Array.replicate (fn.ntmps-vs.size) undef).getD t undef=vs.getD t undef:=by
    simp only[Array.getD_eq_getD_getElem?]
    rw[Array.getElem?_append_left (by omega)]
   simp only[hg]
   rw[hargk]
   have:=RV.slice (w:=w) (N:=NB ⟨own,some ⟨b,o,c.size,sz,false⟩⟩ (initL t T sz l ds).m (fun i=>if i=lentId then some ⟨b,o,c.size,sz,false⟩ else none) w) (loc:=fun i=>if i=lentId then some ⟨b,o,c.size,sz,false⟩ else none) ⟨b,o,c.size,sz,false⟩ lentId 0 l.length cap (if_pos rfl) rfl hcap hcap2 (by simpa using hroom)
   simpa using this
  ·by_cases ht:t<vs.size
   ·have hd:∃ d,ds[t]? = some d:=⟨ds[t]'(by omega),by simp⟩
    obtain⟨d',hd⟩:=hd
    have hr':(initL k T sz l ds).r t = .p d':=by simp[initL,hd,htk]
    rw[hr']
    have hg:(vs++Array.replicate (fn.ntmps-vs.size) undef).getD t undef=vs.getD t undef:=by
     simp only[Array.getD_eq_getD_getElem?]
     rw[Array.getElem?_append_left ht]
    simp only[hg]
    exact .p _ _ ((h4 t d' htk hd).mono (fun _ _=>rfl) hnb)
   ·have hr':(initL k T sz l ds).r t = .und:=by
     have:ds[t]? = none:=List.getElem?_eq_none (by omega)
     simp[initL,this,htk]
    rw[hr']
    exact .und _
 ·dsimp only[initL] at ho
  split at ho
  case isFalse=>cases ho
  rename_i e
  subst e
  cases ho
  refine⟨⟨b,o,c.size,sz,false⟩,if_pos rfl,rfl,fun hh=>(by cases hh),fun _=>⟨c,fr,hheap,rfl,⟨hcont.1,hcont.2.1,fun i e j d q1 q2=>⟨(hcont.2.2 i e j d q1 q2).1,(hcont.2.2 i e j d q1 q2).2.mono (fun _ _=>rfl) hnb⟩⟩,fun _=>⟨.inr ⟨_,rfl,rfl⟩,hfr⟩,fun hh=>(by cases hh)⟩⟩
 ·dsimp only[initL] at g1 g2
  split at g1
  case isFalse=>cases g1
  split at g2
  case isFalse=>cases g2
  rename_i e1 e2
  rw[e1,e2]
 ·cases hL
  exact⟨if_pos rfl,hob,rfl,⟨T,sz,.row l,false⟩,by simp[initL],rfl⟩
 ·dsimp only[initL] at ho
  split at ho
  case isFalse=>cases ho
  cases ho
  simpa using hT
inductive ResNew (s:St) (rs:List (Nat × Option (Bool × Nat))) (T sz:Nat):List D→Prop
 | row {l:List D} {y:Nat × Option (Bool × Nat)} {i:Nat}:rs=[y]→resV s y=some (.slice i 0 l.length)→s.m i=some ⟨T,sz,.row l,false⟩→ResNew s rs T sz l
 | nil {y:Nat × Option (Bool × Nat)}:rs=[y]→resV s y=some (.nils T sz)→ResNew s rs T sz []
def EndsN (T sz:Nat) (l:List D) (rs:List (Nat × Option (Bool × Nat))):AExit→St→Prop
 | .exit _,_=>False
 | _,s=>ResNew s rs T sz l
theorem resC_one {P:Program} {x:ResultVar} {rest:List ResultVar} {y:Nat × Option (Bool × Nat)} (h:resC P (x::rest)=some [y]):rest=[]:=by
 cases rest with
 | nil=>rfl
 | cons z zs =>
  have h2:∀ q,resC P (z::zs)≠some []∧resC P (z::zs)=q→q≠some []:=by rintro q ⟨h1,rfl⟩;exact h1
  have h3:resC P (z::zs)≠some []:=by
   cases z<;>simp only[resC]
   ·cases resC P zs<;>simp
   ·split
    ·split
     ·cases resC P zs<;>simp
     ·simp
    ·simp
  exfalso
  cases x<;>simp only[resC] at h
  ·simp only[Option.map_eq_some_iff,List.cons.injEq] at h
   obtain⟨q,h4,h5,rfl⟩:=h
   exact h3 h4
  ·split at h
   ·split at h
    ·simp only[Option.map_eq_some_iff,List.cons.injEq] at h
     obtain⟨q,h4,h5,rfl⟩:=h
     exact h3 h4
    ·cases h
   ·cases h
theorem FnOk.conN {P:Program} {A OT:List TypeId} {f:FuncId} {cc:CC} {rs:List (Nat × Option (Bool × Nat))} {nt:Nat} {ds:List D} {T sz:Nat} {l:List D} (h:FnOk P f OT cc rs nt) (hA:OT.all (fun T => !A.contains T)=true) (hn:ds.length≤nt)
  (hcw:cw OT (ConX P A) cc (EndsN T sz l rs) (init ds)):ConNew P A f ds T sz l:=by
 obtain⟨fn,H,hf,hbd,hm,hc,hr,rfl⟩:=h
 obtain⟨code,hb⟩:=Option.isSome_iff_exists.1 hbd
 rw[hb] at hc
 simp only[Option.getD_some] at hc
 intro own w vs h1 h2 h3 h4
 have hbody:=cw_sound (C:=⟨P,A,OT,fn.ntmps,w,⟨own,none⟩⟩) ⟨h2,fun T hT=>by
  rw[List.all_eq_true] at hA
  have:=hA T hT
  simpa using this⟩ hm H code cc _ (init ds) { tmps:=vs++Array.replicate (fn.ntmps-vs.size) undef,defers:=[] } w hc hcw ⟨⟨fun _=>none,ExtL.rf _ w,rfl,by simp;omega,h1,fun _ _=>rfl,fun t => ?_,fun id o ho=>by simp[init] at ho,fun id _ o _ _ _ ho=>by simp[init] at ho,KeepL.none_ rfl _ _⟩,fun id o ho=>by simp[init] at ho⟩
 ·refine calls_of_wp hf hb (wp_mono hbody ?_)
  intro e a' w' hq
  have fin:(∃ t,Is ⟨P,A,OT,fn.ntmps,w,⟨own,none⟩⟩ t a' w'∧ResNew t rs T sz l)→a'.defers=[]∧∃ v,(results fn a'.tmps).run P w' = .ok v w'∧∃ v' L,Ending.returned v=Ending.returned v'∧Ext w w'∧NewOk w w' own T sz l v' L:=by
   rintro⟨t,ht,hres⟩
   obtain⟨loc,hrel⟩:=ht.1
   refine⟨hrel.defers,?_⟩
   have hresults:∀ vs:List Value,(fn.results.toList.mapM (resRun a'.tmps)).run P w' = .ok vs w'→(results fn a'.tmps).run P w' = .ok (if h:vs.toArray.size=1 then vs.toArray[0] else .tuple vs.toArray) w':=by
    intro vs hv
    have hv':(fn.results.mapM (resRun a'.tmps)).run P w' = .ok vs.toArray w':=by
     rw[Array.mapM_eq_mapM_toList]
     simp[hv]
    rw[results_eq]
    simp only[Sem.run_bind,hv',Result.andThen]
    rfl
   have one:∀ y u,rs=[y]→resV t y=some u→∃ v,(results fn a'.tmps).run P w' = .ok v w'∧RV w' (NB ⟨own,none⟩ t.m loc w') loc v u:=by
    rintro y u rfl hu
    cases hfr:fn.results.toList with
    | nil=>rw[hfr] at hr;simp[resC] at hr
    | cons x rest =>
     rw[hfr] at hr
     have hrest:=resC_one hr
     obtain⟨y',rs',g1,g2,g3⟩:=resV_run hrel x rest _ hr
     obtain⟨rfl,rfl⟩:=List.cons.inj g1
     obtain⟨v,q1,q2⟩:=g3 t.m u (fun _ _ h=>h) hu
     subst hrest
     exact⟨v,by rw[hresults [v] (by rw[hfr];simp[List.mapM_cons,q1])];simp,q2⟩
   cases hres with
   | nil h1 h2 =>
    obtain⟨v,g1,g2⟩:=one _ _ h1 h2
    cases g2
    exact⟨_,g1,_,⟨0,0,0,sz,true⟩,rfl,hrel.ext.ext rfl,⟨rfl,fun _=>rfl,fun hh=>(by cases hh),.inl ⟨rfl,_,rfl⟩⟩⟩
   | row h1 h2 h5 =>
    rename_i y i
    obtain⟨v,g1,g2⟩:=one _ _ h1 h2
    obtain⟨L,hL,hok⟩:=hrel.objs i _ h5
    refine⟨v,g1,v,L,rfl,hrel.ext.ext rfl,hok.sz,fun hh=>by simpa using hok.nil hh,fun hh => ?_,?_⟩
    ·obtain⟨c,fr,k1,k2,k3,k4,-⟩:=hok.at_ hh
     have k5:=k4 rfl
     refine⟨?_,c,fr,k1,k2,⟨k3.1,k3.2.1,fun p0 e0 j0 d0 q1 q2=>⟨(k3.2.2 p0 e0 j0 d0 q1 q2).1,(k3.2.2 p0 e0 j0 d0 q1 q2).2.mono (fun _ _=>rfl) fun b hb=>⟨⟨hb.1,hb.2.1⟩,fun e=>hb.2.2 ⟨i,_,L,h5,rfl,hL,hh,e.symm⟩⟩⟩⟩,k5.2⟩
     rcases k5.1 with g | ⟨L',hL',-⟩
     ·exact g
     ·cases hL'
    ·generalize hlen:l.length=n at g2 ⊢
     cases g2 with
     | slice L' _ _ _ cap e1 e2 e3 e4 e5 =>
      rw[hL] at e1
      cases e1
      refine .inr ⟨e2,cap,by simp,e3,e4,?_⟩
      have:=hok.sz
      dsimp only at this
      rw[this] at e5
      simpa using e5
     | sliceEmp L' _ _ p e1=>exact .inl ⟨List.eq_nil_of_length_eq_zero hlen,p,rfl⟩
  cases e with
  | normal=>obtain⟨t,ht,hres⟩:=hq;exact fin ⟨t,ht,hres⟩
  | ret=>obtain⟨t,ht,hres⟩:=hq;exact fin ⟨t,ht,hres⟩
  | exit id=>obtain⟨t,ht,hbad⟩:=hq;exact hbad.elim
  | _=>exact hq.elim
 ·by_cases ht:t<vs.size
  ·have hd:∃ d,ds[t]? = some d:=⟨ds[t]'(by omega),by simp⟩
   obtain⟨d',hd⟩:=hd
   have hr':(init ds).r t = .p d':=by simp[init,hd]
   rw[hr']
   have hg:(vs++Array.replicate (fn.ntmps-vs.size) undef).getD t undef=vs.getD t undef:=by
    simp only[Array.getD_eq_getD_getElem?]
    rw[Array.getElem?_append_left ht]
   simp only[hg]
   exact .p _ _ ((h4 t d' hd).mono (fun _ _=>rfl) fun b hb=>⟨hb.1,hb.2,by rintro⟨id,o,L,ho,_⟩;simp[init] at ho⟩)
  ·have hr':(init ds).r t = .und:=by
    have:ds[t]? = none:=List.getElem?_eq_none (by omega)
    simp[init,this]
   rw[hr']
   exact .und _
end Go.Proofs.Ytlnhembcfhfpkaa.M
end

section
namespace Go.Proofs.Ytlnhembcfhfpkaa.M
open Go.RowKit
set_option linter.defProp false
theorem st_callL (G:FuncId→List D→D→Prop) (dd:Option Nat) (f:FuncId) (k:Nat) (args:List Opd) (g:Option (Nat × Bool)) (K:St→Prop) (s:St):step G ⟨dd,.callL f k args,g⟩ K s=(match opdAt s k args with
  | .slice i 0 n=>match s.m i with
   | some ⟨T,sz,.row l,false⟩=>match argsDL s (.list T sz l) k args with
    | some ds=>n=l.length∧∃ r l',G (f+LB*(k+1)) ds (.tup [r,.list T sz l'])∧K ((⟨s.r,upd s.m i (some ⟨T,sz,.row l',false⟩)⟩:St).put dd (if l=[] then .p (lentE T sz r) else lentR i r))
    | none=>False
   | _=>False
  | _=>False):=rfl
theorem st_callv (G:FuncId→List D→D→Prop) (dd:Option Nat) (fs:List FuncId) (x:Opd) (args:List Opd) (g:Option (Nat × Bool)) (K:St→Prop) (s:St):step G ⟨dd,.callv fs x args,g⟩ K s=(match (x.ev s.r).toD false s.m 20,argsD s args with
  | some (.fn (.func f) a b),some ds=>fs.contains f=true∧∃ d,G f (a++ds++b) d∧K (s.put dd (.p d))
  | _,_=>False):=rfl
theorem st_callN (G:FuncId→List D→D→Prop) (dd:Option Nat) (f:FuncId) (T:TypeId) (args:List Opd) (g:Option (Nat × Bool)) (K:St→Prop) (s:St):step G ⟨dd,.callN f T args,g⟩ K s=(match argsD s args with
  | some ds=>match s.m (dd.getD 0) with
   | none => ∃ sz l,G (f+LB*(8+1)) ds (.list T sz l)∧K ((⟨s.r,upd s.m (dd.getD 0) (some ⟨T,sz,.row l,false⟩)⟩:St).put dd (.slice (dd.getD 0) 0 l.length))
   | some _=>False
  | none=>False):=rfl
theorem oa_0 (s:St) (x:Opd) (l:List Opd):opdAt s 0 (x::l)=x.ev s.r:=rfl
theorem oa_1 (s:St) (x y:Opd) (l:List Opd):opdAt s 1 (x::y::l)=y.ev s.r:=rfl
theorem al_0 (s:St) (d:D) (x:Opd) (l:List Opd):argsDL s d 0 (x::l)=(match argsD s l with
  | some ds=>some (d::ds)
  | none=>none):=rfl
theorem al_1 (s:St) (d:D) (x y:Opd) (l:List Opd):argsDL s d 1 (x::y::l)=(match (x.ev s.r).toD false s.m 20,(match argsD s l with
  | some ds=>some (d::ds)
  | none=>none) with
  | some e,some es=>some (e::es)
  | _,_=>none):=rfl
theorem lr_pre (i:Nat) (m:Int):lentR i (.tup [.int .i64 m]) = .slice i 0 m.toNat:=rfl
theorem lr_nil (i:Nat):lentR i (.tup []) = .p (.tup []):=rfl
theorem lr_int (i:Nat) (k:IntKind) (m:Int):lentR i (.int k m) = .p (.int k m):=rfl
theorem le_pre (T sz:Nat) (m:Int):lentE T sz (.tup [.int .i64 m]) = .list T sz []:=rfl
theorem le_nil (T sz:Nat):lentE T sz (.tup []) = .tup []:=rfl
theorem endsL_ret (T sz:Nat) (l':List D) (r:D) (rs:List (Nat × Option (Bool × Nat))) (s:St):EndsL T sz l' r rs .ret s=(s.m 999999=some ⟨T,sz,.row l',false⟩∧ResLt s rs r):=rfl
theorem endsL_normal (T sz:Nat) (l':List D) (r:D) (rs:List (Nat × Option (Bool × Nat))) (s:St):EndsL T sz l' r rs .normal s=(s.m 999999=some ⟨T,sz,.row l',false⟩∧ResLt s rs r):=rfl
theorem endsL_exit (T sz:Nat) (l':List D) (r:D) (rs:List (Nat × Option (Bool × Nat))) (i:Nat) (s:St):EndsL T sz l' r rs (.exit i) s=False:=rfl
theorem st_indexAddrA (G:FuncId→List D→D→Prop) (dd:Option Nat) (n esz:Nat) (ag:Bool) (x i:Opd) (g:Option (Nat × Bool)) (K:St→Prop) (s:St):step G ⟨dd,.indexAddrA n esz ag x i,g⟩ K s=fin dd K (ev (.indexAddrA n esz ag x i) (dd.getD 0) s):=rfl
theorem ev_indexAddrA (n esz:Nat) (ag:Bool) (x i:Opd) (id:Nat) (s:St):ev (.indexAddrA n esz ag x i) id s=(match x.ev s.r,asI (i.ev s.r) with
  | .ptr j k off,some q=>some (decide (0≤q∧q<n),.ptr j k (off+q.toNat*esz),s)
  | .p (.ref d),some q=>match d.part (q.toNat*esz) esz ag with
   | some e=>some (decide (0≤q∧q<n),.p (.ref e),s)
   | none=>none
  | _,_=>none):=rfl
theorem st_indexA (G:FuncId→List D→D→Prop) (dd:Option Nat) (n esz:Nat) (ag:Bool) (x i:Opd) (g:Option (Nat × Bool)) (K:St→Prop) (s:St):step G ⟨dd,.indexA n esz ag x i,g⟩ K s=fin dd K (ev (.indexA n esz ag x i) (dd.getD 0) s):=rfl
theorem ev_indexA (n esz:Nat) (ag:Bool) (x i:Opd) (id:Nat) (s:St):ev (.indexA n esz ag x i) id s=(match asI (i.ev s.r) with
  | some q=>if (x.ev s.r).isAgg=some true then match (x.ev s.r).part (q.toNat*esz) esz ag with
   | some v=>some (decide (0≤q∧q<n),v,s)
   | none=>none else none
  | none=>none):=rfl
theorem st_copyS (G:FuncId→List D→D→Prop) (dd:Option Nat) (T sz bytes:Nat) (y:Opd) (g:Option (Nat × Bool)) (K:St→Prop) (s:St):step G ⟨dd,.copyS T sz bytes y,g⟩ K s=fin dd K (ev (.copyS T sz bytes y) (dd.getD 0) s):=rfl
theorem ev_copyS (T sz bytes:Nat) (y:Opd) (id:Nat) (s:St):ev (.copyS T sz bytes y) id s=(match s.m id,elemsOf sz s.m (y.ev s.r) with
  | none,some ys=>some (decide (ys.length*bytes≤140737488355328∧ys.length≤9223372036854775807),.slice id 0 ys.length,⟨s.r,upd s.m id (some ⟨T,sz,.row ys,false⟩)⟩)
  | _,_=>none):=rfl
theorem st_copyF (G:FuncId→List D→D→Prop) (dd:Option Nat) (T sz bytes:Nat) (y:Opd) (g:Option (Nat × Bool)) (K:St→Prop) (s:St):step G ⟨dd,.copyF T sz bytes y,g⟩ K s=fin dd K (ev (.copyF T sz bytes y) (dd.getD 0) s):=rfl
theorem ev_copyF (T sz bytes:Nat) (y:Opd) (id:Nat) (s:St):ev (.copyF T sz bytes y) id s=(if id=999999 then none else match s.m id,elemsOf sz s.m (y.ev s.r) with
  | none,some ys=>some (decide (ys.length*bytes≤140737488355328∧ys.length≤9223372036854775807),.slice id 0 ys.length,⟨s.r,upd s.m id (some ⟨T,sz,.row ys,true⟩)⟩)
  | _,_=>none):=rfl
theorem st_fnv (G:FuncId→List D→D→Prop) (dd:Option Nat) (fn:Fn) (x y:List Opd) (g:Option (Nat × Bool)) (K:St→Prop) (s:St):step G ⟨dd,.fnv fn x y,g⟩ K s=fin dd K (ev (.fnv fn x y) (dd.getD 0) s):=rfl
theorem ev_fnv (fn:Fn) (x y:List Opd) (id:Nat) (s:St):ev (.fnv fn x y) id s=(match opdsD s.r s.m x,opdsD s.r s.m y with
  | some l,some k=>some (true,.p (.fn fn l k),s)
  | _,_=>none):=rfl
theorem od_nil (r:Nat→AV) (M:Mem):opdsD r M []=some []:=rfl
theorem od_cons (r:Nat→AV) (M:Mem) (x:Opd) (l:List Opd):opdsD r M (x::l)=(match (x.ev r).toD false M 20,opdsD r M l with
  | some d,some ds=>some (d::ds)
  | _,_=>none):=rfl
theorem toD_ptr (any:Bool) (M:Mem) (id i off:Nat):AV.toD any M 20 (.ptr id i off)=(if i=0∧off=0 then match M id with
   | some o=>match o.cont with
    | .box v=>if o.frz||any then (AV.toD any M 19 v).map .ref else none
    | _=>none
   | none=>none else none):=rfl
theorem toD_p19 (any:Bool) (M:Mem) (d:D):AV.toD any M 19 (.p d)=some d:=rfl
theorem st_sliceA (G:FuncId→List D→D→Prop) (dd:Option Nat) (n:Nat) (x:Opd) (lo hi mx:Option Opd) (g:Option (Nat × Bool)) (K:St→Prop) (s:St):step G ⟨dd,.sliceA n x lo hi mx,g⟩ K s=fin dd K (ev (.sliceA n x lo hi mx) (dd.getD 0) s):=rfl
theorem ev_sliceA (n:Nat) (x:Opd) (lo hi mx:Option Opd) (id:Nat) (s:St):ev (.sliceA n x lo hi mx) id s=(match x.ev s.r with
  | .ptr i 0 off=>match s.m i with
   | some ⟨_,osz,.box _,_⟩=>if off+n≤osz∧n≤9223372036854775807 then match bounds s.r n lo hi mx with
    | some (c,l,h)=>some (c,.arr i (off+l) (h-l),s)
    | none=>none else none
   | _=>none
  | _=>none):=rfl
theorem toD_arr (any:Bool) (M:Mem) (id off len:Nat):AV.toD any M 20 (.arr id off len)=(match M id with
   | some o=>match o.cont with
    | .box (.p d)=>if (o.frz||any)&&decide (off+len≤d.cells.length)&&decide (len≤9223372036854775807) then some (.list 1000000 1 ((d.cells.drop off).take len)) else none
    | _=>none
   | none=>none):=rfl
theorem forget_arr (i j o n:Nat):AV.forget i (.arr j o n)=if j=i then .und else .arr j o n:=by unfold AV.forget;rfl
theorem st_copyA (G:FuncId→List D→D→Prop) (dd:Option Nat) (x y:Opd) (g:Option (Nat × Bool)) (K:St→Prop) (s:St):step G ⟨dd,.copyA x y,g⟩ K s=fin dd K (ev (.copyA x y) (dd.getD 0) s):=rfl
theorem ev_copyA (x y:Opd) (id:Nat) (s:St):ev (.copyA x y) id s=(match x.ev s.r,elemsOf 1 s.m (y.ev s.r) with
  | .arr i off len,some ys=>match s.m i with
   | some ⟨T,osz,.box u,false⟩=>if off+len≤osz∧ys.all D.one=true then
     some (decide (ys.length≤len),.p (.int .i64 (ys.length:Nat)),⟨s.r,upd s.m i (some ⟨T,osz,.box (AV.mk (u.cells.take off++ys.map .p++u.cells.drop (off+ys.length))),false⟩)⟩) else none
   | _=>none
  | _,_=>none):=rfl
theorem st_clearS (G:FuncId→List D→D→Prop) (dd:Option Nat) (sz:Nat) (z:D) (x:Opd) (g:Option (Nat × Bool)) (K:St→Prop) (s:St):step G ⟨dd,.clearS sz z x,g⟩ K s=fin dd K (ev (.clearS sz z x) (dd.getD 0) s):=rfl
theorem ev_clearS (sz:Nat) (z:D) (x:Opd) (id:Nat) (s:St):ev (.clearS sz z x) id s=(match x.ev s.r with
  | .slice i off len=>match s.m i with
   | some ⟨T,osz,.row l,false⟩=>if osz=sz then some (decide (off+len≤l.length),.und,⟨s.r,upd s.m i (some ⟨T,osz,.row (l.take off++List.replicate len z++l.drop (off+len)),false⟩)⟩) else none
   | _=>none
  | _=>none):=rfl
theorem st_isNil (G:FuncId→List D→D→Prop) (dd:Option Nat) (neg:Bool) (x:Opd) (g:Option (Nat × Bool)) (K:St→Prop) (s:St):step G ⟨dd,.isNil neg x,g⟩ K s=(match x.ev s.r with
  | .nils _ _=>K (s.put dd (.p (.bool (!neg))))
  | .p (.list _ _ l) => ∀ b:Bool,(l≠[]→b=false)→K (s.put dd (.p (.bool (b != neg))))
  | _=>False):=rfl
theorem endsN_ret (T sz:Nat) (l:List D) (rs:List (Nat × Option (Bool × Nat))) (s:St):EndsN T sz l rs .ret s=ResNew s rs T sz l:=rfl
theorem endsN_normal (T sz:Nat) (l:List D) (rs:List (Nat × Option (Bool × Nat))) (s:St):EndsN T sz l rs .normal s=ResNew s rs T sz l:=rfl
theorem endsN_exit (T sz:Nat) (l:List D) (rs:List (Nat × Option (Bool × Nat))) (i:Nat) (s:St):EndsN T sz l rs (.exit i) s=False:=rfl
theorem st_strB (G:FuncId→List D→D→Prop) (dd:Option Nat) (x:Opd) (g:Option (Nat × Bool)) (K:St→Prop) (s:St):step G ⟨dd,.strB x,g⟩ K s=fin dd K (ev (.strB x) (dd.getD 0) s):=rfl
theorem ev_strB (x:Opd) (id:Nat) (s:St):ev (.strB x) id s=(match elemsOf 1 s.m (x.ev s.r) with
  | some ys=>match bytesD ys with
   | some b=>some (true,.p (.str b),s)
   | none=>none
  | none=>none):=rfl
theorem st_bytS (G:FuncId→List D→D→Prop) (dd:Option Nat) (T:TypeId) (x:Opd) (g:Option (Nat × Bool)) (K:St→Prop) (s:St):step G ⟨dd,.bytS T x,g⟩ K s=fin dd K (ev (.bytS T x) (dd.getD 0) s):=rfl
theorem ev_bytS (T:TypeId) (x:Opd) (id:Nat) (s:St):ev (.bytS T x) id s=(match s.m id with
  | none=>match x.ev s.r with
   | .p (.str t)=>some (decide (t.length≤9223372036854775807),.slice id 0 t.length,⟨s.r,upd s.m id (some ⟨T,1,.row (t.map fun b => .int .u8 b.toNat),false⟩)⟩)
   | _=>none
  | some _=>none):=rfl
theorem bd_and (k:IntKind) (a b:Int):binD .and (.int k a) (.int k b)=some (bitB k a b,.int k (bitN .and a.toNat b.toNat:Nat)):=by simp[binD]
theorem bd_or (k:IntKind) (a b:Int):binD .or (.int k a) (.int k b)=some (bitB k a b,.int k (bitN .or a.toNat b.toNat:Nat)):=by simp[binD]
theorem bd_xor (k:IntKind) (a b:Int):binD .xor (.int k a) (.int k b)=some (bitB k a b,.int k (bitN .xor a.toNat b.toNat:Nat)):=by simp[binD]
theorem bd_anot (k:IntKind) (a b:Int):binD .andNot (.int k a) (.int k b)=some (bitB k a b,.int k (bitN .andNot a.toNat b.toNat:Nat)):=by simp[binD]
theorem bd_shr (k k':IntKind) (a b:Int):binD .shr (.int k a) (.int k' b)=some (decide (0≤b∧b<k.bits),.int k (a / 2^b.toNat)):=by simp[binD]
theorem bd_shl (k k':IntKind) (a b:Int):binD .shl (.int k a) (.int k' b)=some (decide (0≤b∧b<k.bits)&&inK k (a*2^b.toNat),.int k (a*2^b.toNat)):=by simp[binD]
def csL:=And.intro @st_strB (And.intro @ev_strB (And.intro @st_bytS (And.intro @ev_bytS (And.intro @bd_and (And.intro @bd_or (And.intro @bd_xor (And.intro @bd_anot (And.intro @bd_shr (And.intro @bd_shl (And.intro @st_isNil (And.intro @ev_clearS (And.intro @st_clearS (And.intro @ev_copyA (And.intro @st_copyA (And.intro @forget_arr (And.intro @toD_arr (And.intro @ev_sliceA (And.intro @st_sliceA (And.intro @Option.map_some.{0,0} (And.intro @toD_p19 (And.intro @toD_ptr (And.intro @od_cons (And.intro @od_nil (And.intro @ev_fnv (And.intro @st_fnv (And.intro @ev_copyF (And.intro @st_copyF (And.intro @ev_copyS (And.intro @st_copyS (And.intro @ev_indexA (And.intro @st_indexA (And.intro @ev_indexAddrA (And.intro @st_indexAddrA (And.intro @st_callN (And.intro @endsN_ret (And.intro @endsN_normal (And.intro @endsN_exit (And.intro @st_callL (And.intro @st_callv (And.intro @oa_0 (And.intro @oa_1 (And.intro @al_0 (And.intro @al_1 (And.intro @lr_pre (And.intro @lr_nil (And.intro @lr_int (And.intro @le_pre (And.intro @le_nil (And.intro @endsL_ret (And.intro @endsL_normal @endsL_exit))))))))))))))))))))))))))))))))))))))))))))))))))
theorem ResLt.unit (s:St):ResLt s [] (.tup []):=.plain rfl (fun m h=>by cases h)
theorem ResLt.one {s:St} {t:Nat} {d:D} (h:s.r t = .p d) (hd:∀ m,d≠.tup [.int .i64 m]):ResLt s [(t,none)] d:=.plain (by simp[resD,resL,resV,unlent,h,toD_p]) hd
def LentC (P:Program) (A:List TypeId) (f:FuncId) (k:Nat) (ds:List D) (T sz:Nat) (l:List D) (r:D) (l':List D):Prop:=
 f<LB∧ds[k]? = some (.list T sz l)∧l'.length=l.length∧(l=[]→Con P A f ds (lentE T sz r))∧(l≠[]→ConLent P A f k ds T sz l r l')
theorem LentC.x {P:Program} {A:List TypeId} {f:FuncId} {k:Nat} {ds:List D} {T sz:Nat} {l:List D} {r:D} {l':List D} (h:LentC P A f k ds T sz l r l'):ConX P A (f+LB*(k+1)) ds (.tup [r,.list T sz l']):=
 .lent h.1 h.2.1 h.2.2.1 h.2.2.2.1 h.2.2.2.2
theorem ConNew.x {P:Program} {A:List TypeId} {f:FuncId} {ds:List D} {T sz:Nat} {l:List D} (h:ConNew P A f ds T sz l) (hf:f<LB:=by decide):ConX P A (f+LB*(8+1)) ds (.list T sz l):=.fresh hf h
end Go.Proofs.Ytlnhembcfhfpkaa.M
end

section
namespace Go.Proofs.Ytlnhembcfhfpkaa.M
open Go.RowKit
mutual
def AV.ren (ρ:Nat→Nat):AV→AV
 | .slice i o n => .slice (ρ i) o n
 | .ptr i j o => .ptr (ρ i) j o
 | .arr i o n => .arr (ρ i) o n
 | .agg l => .agg (renL ρ l)
 | .tup l => .tup (renL ρ l)
 | v=>v
def renL (ρ:Nat→Nat):List AV→List AV
 | []=>[]
 | v::l=>v.ren ρ::renL ρ l
end
theorem renL_eq (ρ:Nat→Nat):∀ l:List AV,renL ρ l=l.map (AV.ren ρ)
 | []=>by simp[renL]
 | v::l=>by simp[renL,renL_eq ρ l]
def AObj.ren (ρ:Nat→Nat) (o:AObj):AObj:=match o.cont with
 | .box v=>⟨o.T,o.sz,.box (v.ren ρ),o.frz⟩
 | _=>o
theorem AObj.ren_T (ρ:Nat→Nat) (o:AObj):(o.ren ρ).T=o.T∧(o.ren ρ).sz=o.sz∧(o.ren ρ).frz=o.frz:=by
 unfold AObj.ren;split<;>exact⟨rfl,rfl,rfl⟩
theorem AV.ren_one (ρ:Nat→Nat) (v:AV):(v.ren ρ).one=v.one:=by
 cases v<;>simp[AV.ren,AV.one]
theorem AV.ren_cells (ρ:Nat→Nat) (v:AV):(v.ren ρ).cells=v.cells.map (AV.ren ρ):=by
 cases v<;>simp[AV.ren,AV.cells,renL_eq]
theorem RV.ren {w:World} {N:Nat→Prop} {loc:Locs} {ρ:Nat→Nat} (hρ:∀ i,ρ (ρ i)=i) {v:Value} {d:AV} (h:RV w N loc v d):RV w N (fun i=>loc (ρ i)) v (d.ren ρ):=by
 induction h with
 | und v=>unfold AV.ren;exact .und v
 | p v d h=>unfold AV.ren;exact .p v d h
 | agg cs l h1 h2 _ ih =>
  unfold AV.ren
  rw[renL_eq]
  refine .agg cs _ (by simpa using h1) (fun e he => ?_) (fun i e he => ?_)
  ·simp only[List.mem_map] at he
   obtain⟨x,hx,rfl⟩:=he
   rw[AV.ren_one];exact h2 x hx
  ·simp only[List.getElem?_map,Option.map_eq_some_iff] at he
   obtain⟨x,hx,rfl⟩:=he
   exact ih i x hx
 | tup cs l h1 _ ih =>
  unfold AV.ren
  rw[renL_eq]
  refine .tup cs _ (by simpa using h1) (fun i e he => ?_)
  simp only[List.getElem?_map,Option.map_eq_some_iff] at he
  obtain⟨x,hx,rfl⟩:=he
  exact ih i x hx
 | nils T sz=>unfold AV.ren;exact .nils T sz
 | slice L id off len cap h1 h2 h3 h4 h5=>unfold AV.ren;exact .slice L _ off len cap (by simpa only[hρ] using h1) h2 h3 h4 h5
 | sliceEmp L id off p h1=>unfold AV.ren;exact .sliceEmp L _ off p (by simpa only[hρ] using h1)
 | arr L id off len cap h1 h2 h3 h4 h5=>unfold AV.ren;exact .arr L _ off len cap (by simpa only[hρ] using h1) h2 h3 h4 h5
 | arrEmp L id off p h1=>unfold AV.ren;exact .arrEmp L _ off p (by simpa only[hρ] using h1)
 | ptr L id i off h1 h2=>unfold AV.ren;exact .ptr L _ i off (by simpa only[hρ] using h1) h2
section
variable {w0:World} {base:Bs} {nt:Nat} {loc:Locs} {a:Act} {w:World} {OT:List TypeId} {s:St} {ρ:Nat→Nat}
theorem Rel.ren (h:Rel w0 base nt loc s a w) (hρ:∀ i,ρ (ρ i)=i) (hL:ρ lentId=lentId):Rel w0 base nt (fun i=>loc (ρ i)) ⟨fun t=>(s.r t).ren ρ,fun j=>(s.m (ρ j)).map (AObj.ren ρ)⟩ a w:=by
 have hm:∀ j o,(s.m (ρ j)).map (AObj.ren ρ)=some o→∃ o0,s.m (ρ j)=some o0∧o=o0.ren ρ:=by
  intro j o ho
  simp only[Option.map_eq_some_iff] at ho
  obtain⟨x,hx,rfl⟩:=ho
  exact⟨x,hx,rfl⟩
 have hN:NB base (fun j=>(s.m (ρ j)).map (AObj.ren ρ)) (fun i=>loc (ρ i)) w=NB base s.m loc w:=by
  funext b
  refine propext ⟨fun ⟨h1,h2,h3⟩=>⟨h1,h2,?_⟩,fun ⟨h1,h2,h3⟩=>⟨h1,h2,?_⟩⟩
  ·rintro⟨id,o,L,g1,g2,g3,g4,g5⟩
   exact h3 ⟨ρ id,o.ren ρ,L,by simp only[hρ,g1,Option.map_some],by rw[(o.ren_T ρ).2.2];exact g2,by simp only[hρ];exact g3,g4,g5⟩
  ·rintro⟨id,o,L,g1,g2,g3,g4,g5⟩
   obtain⟨o0,k1,rfl⟩:=hm id o g1
   exact h3 ⟨ρ id,o0,L,k1,by rw[(o0.ren_T ρ).2.2] at g2;exact g2,g3,g4,g5⟩
 refine⟨h.ext,h.defers,h.size,h.low,fun j hj => ?_,fun t => ?_,fun j o ho => ?_,fun j j' o o' L L' ho ho' hf hLj hLj' hn hn' hb => ?_,fun L hB => ?_⟩
 ·dsimp only at hj
  simp only[Option.map_eq_none_iff] at hj
  exact h.dom _ hj
 ·rw[hN];exact (h.tmps t).ren hρ
 ·obtain⟨o0,k1,rfl⟩:=hm j o ho
  obtain⟨L,hL1,hok⟩:=h.objs _ _ k1
  obtain⟨e1,e2,e3⟩:=o0.ren_T ρ
  refine⟨L,hL1,by rw[e2];exact hok.sz,fun hn => ?_,fun hn => ?_⟩
  ·have:=hok.nil hn
   unfold AObj.ren
   rw[this];exact this
  ·obtain⟨c,fr,q1,q2,q3,q4,q5⟩:=hok.at_ hn
   rw[e1,e2,e3,hN]
   refine⟨c,fr,q1,q2,?_,q4,q5⟩
   unfold AObj.ren
   cases hc:o0.cont with
   | row l=>rw[hc] at q3;simp only[hc];exact q3
   | junk=>rw[hc] at q3;simp only[hc];exact q3
   | box v =>
    rw[hc] at q3
    obtain⟨m1,m2,m3,m4⟩:=q3
    refine⟨m1,by rw[AV.ren_cells];simpa using m2,fun e he => ?_,fun i e he => ?_⟩
    ·rw[AV.ren_cells] at he
     simp only[List.mem_map] at he
     obtain⟨x,hx,rfl⟩:=he
     rw[AV.ren_one];exact m3 x hx
    ·rw[AV.ren_cells] at he
     simp only[List.getElem?_map,Option.map_eq_some_iff] at he
     obtain⟨x,hx,rfl⟩:=he
     exact (m4 i x hx).ren hρ
 ·obtain⟨o0,k1,rfl⟩:=hm j o ho
  obtain⟨o1,k2,rfl⟩:=hm j' o' ho'
  have:=h.inj (ρ j) (ρ j') o0 o1 L L' k1 k2 (by rw[(o0.ren_T ρ).2.2] at hf;exact hf) hLj hLj' hn hn' hb
  have:=congrArg ρ this
  simpa only[hρ] using this
 ·obtain⟨h1,h2,h3,o,h4,h5⟩:=h.keepL L hB
  exact⟨by simp only[hL];exact h1,h2,h3,o.ren ρ,by simp only[hL,h4,Option.map_some],by rw[(o.ren_T ρ).2.2];exact h5⟩
theorem Sub.renF (hρ:∀ i,ρ (ρ i)=i) (hL:ρ lentId=lentId):Sub OT s ⟨fun t=>(s.r t).ren ρ,fun j=>(s.m (ρ j)).map (AObj.ren ρ)⟩:=by
 rintro C a w rfl ⟨⟨loc,hr⟩,h2⟩
 refine⟨⟨_,hr.ren hρ hL⟩,fun j o ho => ?_⟩
 simp only[Option.map_eq_some_iff] at ho
 obtain⟨x,hx,rfl⟩:=ho
 rw[(x.ren_T ρ).1]
 exact h2 _ _ hx
end
def rnR (ρ:Nat→Nat):List (Nat × AV)→List (Nat × AV)
 | []=>[]
 | (i,v)::l=>(i,v.ren ρ)::rnR ρ l
def rnM (ρ:Nat→Nat):List (Nat × AObj)→List (Nat × AObj)
 | []=>[]
 | (i,o)::l=>(ρ i,o.ren ρ)::rnM ρ l
theorem rnR_look (ρ:Nat→Nat):∀ (l:List (Nat × AV)) (t:Nat),look (rnR ρ l) t=(look l t).ren ρ
 | [],t=>by rw[rnR,look_nil];simp[AV.ren]
 | (i,v)::l,t=>by
  rw[rnR,look_cons,look_cons]
  split
  ·rfl
  ·exact rnR_look ρ l t
theorem rnM_look (ρ:Nat→Nat) (hρ:∀ i,ρ (ρ i)=i):∀ (l:List (Nat × AObj)) (j:Nat),lookM (rnM ρ l) j=(lookM l (ρ j)).map (AObj.ren ρ)
 | [],j=>by rw[rnM,lookM_nil,lookM_nil];rfl
 | (i,o)::l,j=>by
  rw[rnM,lookM_cons,lookM_cons,rnM_look ρ hρ l j]
  by_cases e:j=ρ i
  ·rw[if_pos e,if_pos (by rw[e,hρ])];rfl
  ·rw[if_neg e,if_neg (fun h=>e (by rw[←h,hρ]))]
theorem Sub.ren {OT:List TypeId} {R:List (Nat × AV)} {M:List (Nat × AObj)} {ρ:Nat→Nat} (hρ:∀ i,ρ (ρ i)=i) (hL:ρ lentId=lentId):Sub OT ⟨look R,lookM M⟩ ⟨look (rnR ρ R),lookM (rnM ρ M)⟩:=by
 have h:(⟨look (rnR ρ R),lookM (rnM ρ M)⟩:St)=⟨fun t=>(look R t).ren ρ,fun j=>(lookM M (ρ j)).map (AObj.ren ρ)⟩:=by
  congr 1
  ·funext t;exact rnR_look ρ R t
  ·funext j;exact rnM_look ρ hρ M j
 rw[h]
 exact Sub.renF hρ hL
def swp (K i:Nat):Nat:=if i<100000 then i+K else if K≤i∧i<K+100000 then i-K else i
theorem swp_swp {K:Nat} (hK:1000000≤K) (i:Nat):swp K (swp K i)=i:=by
 unfold swp
 by_cases h1:i<100000
 ·rw[if_pos h1,if_neg (by omega),if_pos (by omega)];omega
 ·rw[if_neg h1]
  by_cases h2:K≤i∧i<K+100000
  ·rw[if_pos h2,if_pos (by omega)];omega
  ·rw[if_neg h2,if_neg h1,if_neg h2]
theorem swp_lent {K:Nat} (hK:1000000≤K):swp K lentId=lentId:=by
 unfold swp lentId
 rw[if_neg (by decide),if_neg (by omega)]
mutual
def AV.bx (id:Nat):AV→AV
 | .slice i o n=>if i=id then .arr i o n else .slice i o n
 | .ptr i j o=>if i=id then .ptr i 0 (j+o) else .ptr i j o
 | .arr i o n=>if i=id then .und else .arr i o n
 | .agg l => .agg (bxL id l)
 | .tup l => .tup (bxL id l)
 | v=>v
def bxL (id:Nat):List AV→List AV
 | []=>[]
 | v::l=>v.bx id::bxL id l
end
theorem bxL_eq (id:Nat):∀ l:List AV,bxL id l=l.map (AV.bx id)
 | []=>by simp[bxL]
 | v::l=>by simp[bxL,bxL_eq id l]
def AObj.bx (id:Nat) (o:AObj):AObj:=match o.cont with
 | .box v=>⟨o.T,o.sz,.box (v.bx id),o.frz⟩
 | _=>o
theorem AObj.bx_T (id:Nat) (o:AObj):(o.bx id).T=o.T∧(o.bx id).sz=o.sz∧(o.bx id).frz=o.frz:=by
 unfold AObj.bx;split<;>exact⟨rfl,rfl,rfl⟩
mutual
def AV.noArr (id:Nat):AV→Bool
 | .arr i _ _ => !(i == id)
 | .agg l=>noArrL id l
 | .tup l=>noArrL id l
 | _=>true
def noArrL (id:Nat):List AV→Bool
 | []=>true
 | v::l=>v.noArr id&&noArrL id l
end
theorem noArrL_mem {id:Nat}:∀ {l:List AV},noArrL id l=true→∀ v∈l,v.noArr id=true
 | [],_,v,hv=>by cases hv
 | u::l,h,v,hv=>by
  simp only[noArrL,Bool.and_eq_true] at h
  rcases List.mem_cons.1 hv with rfl | hv
  ·exact h.1
  ·exact noArrL_mem h.2 v hv
theorem AV.bx_one {id:Nat} {v:AV} (h:v.noArr id=true):(v.bx id).one=v.one:=by
 cases v<;>simp only[AV.bx]<;>(try rfl)
 all_goals (split<;>(try rfl))
 rename_i e
 simp[AV.noArr,e] at h
theorem AV.bx_cells {id:Nat} {v:AV} (h:v.noArr id=true):(v.bx id).cells=v.cells.map (AV.bx id):=by
 cases v<;>simp only[AV.bx,AV.cells,bxL_eq]<;>(try rfl)
 case p d=>simp[AV.bx]
 case tup l=>simp[AV.bx,bxL_eq]
 case slice i o n=>by_cases e:i=id<;>simp[AV.bx,e]
 case ptr i o n=>by_cases e:i=id<;>simp[AV.bx,e]
 case arr i o n =>
  have e:i≠id:=by simpa[AV.noArr] using h
  simp[AV.bx,e]
 all_goals simp[AV.bx]
theorem AV.noArr_cells {id:Nat} {v:AV} (h:v.noArr id=true):∀ e∈v.cells,e.noArr id=true:=by
 cases v<;>simp only[AV.cells]<;>intro e he
 case p d =>
  simp only[List.mem_map] at he
  obtain⟨x,hx,rfl⟩:=he
  simp[AV.noArr]
 case agg l=>simp only[AV.noArr] at h;exact noArrL_mem h e he
 all_goals (simp only[List.mem_singleton] at he;subst he;exact h)
theorem RV.bx {w:World} {N:Nat→Prop} {loc:Locs} {id:Nat} {L0:Loc} (h0:loc id=some L0) (hs0:L0.sz=1) {n:Nat} {v:Value} {d:AV} (h:RV w N loc v d) (hd:d.noArr id=true):RV w N (upd loc id (some ⟨L0.b,L0.o,L0.n,n,false⟩)) v (d.bx id):=by
 have hne:∀ j L,j≠id→loc j=some L→upd loc id (some ⟨L0.b,L0.o,L0.n,n,false⟩) j=some L:=fun j L hj hL=>by rw[upd_ne _ _ hj];exact hL
 induction h with
 | und v=>unfold AV.bx;exact .und v
 | p v d h=>unfold AV.bx;exact .p v d h
 | agg cs l h1 h2 _ ih =>
  unfold AV.bx
  simp only[AV.noArr] at hd
  rw[bxL_eq]
  refine .agg cs _ (by simpa using h1) (fun e he => ?_) (fun i e he => ?_)
  ·simp only[List.mem_map] at he
   obtain⟨x,hx,rfl⟩:=he
   rw[AV.bx_one (noArrL_mem hd x hx)];exact h2 x hx
  ·simp only[List.getElem?_map,Option.map_eq_some_iff] at he
   obtain⟨x,hx,rfl⟩:=he
   exact ih i x hx (noArrL_mem hd x (List.mem_of_getElem? hx))
 | tup cs l h1 _ ih =>
  unfold AV.bx
  simp only[AV.noArr] at hd
  rw[bxL_eq]
  refine .tup cs _ (by simpa using h1) (fun i e he => ?_)
  simp only[List.getElem?_map,Option.map_eq_some_iff] at he
  obtain⟨x,hx,rfl⟩:=he
  exact ih i x hx (noArrL_mem hd x (List.mem_of_getElem? hx))
 | nils T sz=>unfold AV.bx;exact .nils T sz
 | slice L i off len cap h1 h2 h3 h4 h5 =>
  unfold AV.bx
  split
  ·rename_i e
   subst e
   rw[h0] at h1
   cases h1
   have:=RV.arr (w:=w) (N:=N) (loc:=upd loc i (some ⟨L0.b,L0.o,L0.n,n,false⟩)) ⟨L0.b,L0.o,L0.n,n,false⟩ i off len cap (upd_same _ _ _) rfl h3 h4 (by rw[hs0] at h5;simpa using h5)
   rw[hs0,Nat.mul_one]
   exact this
  ·rename_i e;exact .slice L i off len cap (hne _ _ e h1) h2 h3 h4 h5
 | sliceEmp L i off p h1 =>
  unfold AV.bx
  split
  ·rename_i e
   subst e
   exact .arrEmp ⟨L0.b,L0.o,L0.n,n,false⟩ i off p (upd_same _ _ _)
  ·rename_i e;exact .sliceEmp L i off p (hne _ _ e h1)
 | arr L i off len cap h1 h2 h3 h4 h5 =>
  simp only[AV.noArr,Bool.not_eq_true',beq_eq_false_iff_ne,ne_eq] at hd
  unfold AV.bx
  rw[if_neg hd]
  exact .arr L i off len cap (hne _ _ hd h1) h2 h3 h4 h5
 | arrEmp L i off p h1 =>
  simp only[AV.noArr,Bool.not_eq_true',beq_eq_false_iff_ne,ne_eq] at hd
  unfold AV.bx
  rw[if_neg hd]
  exact .arrEmp L i off p (hne _ _ hd h1)
 | ptr L i j off h1 h2 =>
  unfold AV.bx
  split
  ·rename_i e
   subst e
   rw[h0] at h1
   cases h1
   have:=RV.ptr (w:=w) (N:=N) (loc:=upd loc i (some ⟨L0.b,L0.o,L0.n,n,false⟩)) ⟨L0.b,L0.o,L0.n,n,false⟩ i 0 (j+off) (upd_same _ _ _) rfl
   rw[hs0,Nat.mul_one]
   simpa using this
  ·rename_i e;exact .ptr L i j off (hne _ _ e h1) h2
section
variable {w0:World} {base:Bs} {nt:Nat} {loc:Locs} {a:Act} {w:World} {OT:List TypeId} {s:St}
theorem Rel.bx (h:Rel w0 base nt loc s a w) {id:Nat} {T:TypeId} {l:List D} (hid:id≠lentId) (hm:s.m id=some ⟨T,1,.row l,false⟩) (hl:l≠[]) (h1:l.all D.one=true) (hr:∀ t,(s.r t).noArr id=true)
  (hb:∀ j o v,s.m j=some o→o.cont = .box v→v.noArr id=true) :
  ∃ loc',Rel w0 base nt loc' ⟨fun t=>(s.r t).bx id,fun j=>if j=id then some ⟨T,l.length,.box (.agg (l.map .p)),false⟩ else (s.m j).map (AObj.bx id)⟩ a w:=by
 obtain⟨L0,hL0,hok0⟩:=h.objs id _ hm
 have hn0:L0.nil=false:=by
  cases e:L0.nil with
  | false=>rfl
  | true=>have:=hok0.nil e;simp only[Cont.row.injEq] at this;exact absurd this hl
 have hs0:L0.sz=1:=hok0.sz
 obtain⟨c0,fr0,z1,z2,z3,z4,-⟩:=hok0.at_ hn0
 have hlocne:∀ j,j≠id→upd loc id (some (⟨L0.b,L0.o,L0.n,l.length,false⟩:Loc)) j=loc j:=fun j hj=>upd_ne _ _ hj
 have hmm:∀ j o,(if j=id then some (⟨T,l.length,.box (.agg (l.map .p)),false⟩:AObj) else (s.m j).map (AObj.bx id))=some o→(j=id∧o=⟨T,l.length,.box (.agg (l.map .p)),false⟩)∨(j≠id∧∃ o0,s.m j=some o0∧o=o0.bx id):=by
  intro j o ho
  by_cases e:j=id
  ·rw[if_pos e] at ho;cases ho;exact .inl ⟨e,rfl⟩
  ·rw[if_neg e] at ho
   simp only[Option.map_eq_some_iff] at ho
   obtain⟨x,hx,rfl⟩:=ho
   exact .inr ⟨e,x,hx,rfl⟩
 have hN:NB base (fun j=>if j=id then some (⟨T,l.length,.box (.agg (l.map .p)),false⟩:AObj) else (s.m j).map (AObj.bx id)) (upd loc id (some ⟨L0.b,L0.o,L0.n,l.length,false⟩)) w=NB base s.m loc w:=by
  funext b
  refine propext ⟨fun ⟨h1,h2,h3⟩=>⟨h1,h2,?_⟩,fun ⟨h1,h2,h3⟩=>⟨h1,h2,?_⟩⟩
  ·rintro⟨j,o,L,g1,g2,g3,g4,g5⟩
   by_cases e:j=id
   ·subst e
    rw[hL0] at g3
    cases g3
    exact h3 ⟨j,_,⟨L0.b,L0.o,L0.n,l.length,false⟩,if_pos rfl,rfl,upd_same _ _ _,rfl,g5⟩
   ·exact h3 ⟨j,o.bx id,L,by dsimp only;rw[if_neg e,g1];rfl,by rw[(o.bx_T id).2.2];exact g2,by rw[hlocne _ e];exact g3,g4,g5⟩
  ·rintro⟨j,o,L,g1,g2,g3,g4,g5⟩
   rcases hmm j o g1 with⟨rfl,rfl⟩ | ⟨e,o0,k1,rfl⟩
   ·rw[upd_same] at g3
    cases g3
    exact h3 ⟨j,_,L0,hm,rfl,hL0,hn0,g5⟩
   ·rw[hlocne _ e] at g3
    exact h3 ⟨j,o0,L,k1,by rw[(o0.bx_T id).2.2] at g2;exact g2,g3,g4,g5⟩
 refine⟨upd loc id (some ⟨L0.b,L0.o,L0.n,l.length,false⟩),h.ext,h.defers,h.size,h.low,fun j hj => ?_,fun t => ?_,fun j o ho => ?_,fun j j' o o' L L' ho ho' hf hLj hLj' hn hn' hb' => ?_,fun L hB => ?_⟩
 ·dsimp only at hj
  by_cases e:j=id
  ·rw[if_pos e] at hj;cases hj
  ·rw[if_neg e] at hj
   simp only[Option.map_eq_none_iff] at hj
   rw[hlocne _ e]
   exact h.dom _ hj
 ·rw[hN];exact (h.tmps t).bx hL0 hs0 (hr t)
 ·rcases hmm j o ho with⟨rfl,rfl⟩ | ⟨e,o0,k1,rfl⟩
  ·refine⟨_,upd_same _ _ _,rfl,fun hh=>(by cases hh),fun _=>⟨c0,fr0,z1,z2,?_,fun _=>z4 rfl,fun hh=>(by cases hh)⟩⟩
   rw[hN]
   obtain⟨m1,m2,m3⟩:=z3
   refine⟨by simpa using m1,by simp[AV.cells],fun e he => ?_,fun i e he => ?_⟩
   ·simp only[AV.cells,List.mem_map] at he
    obtain⟨x,hx,rfl⟩:=he
    exact List.all_eq_true.1 h1 x hx
   ·simp only[AV.cells,List.getElem?_map,Option.map_eq_some_iff] at he
    obtain⟨x,hx,rfl⟩:=he
    have ho1:x.one=true:=List.all_eq_true.1 h1 x (List.mem_of_getElem? hx)
    have hxc:x.cells=[x]:=by cases x<;>first | rfl | (simp[D.one] at ho1)
    have:=(m3 i x 0 x hx (by rw[hxc];rfl)).2
    exact .p _ _ (by simpa using this)
  ·obtain⟨L,hL1,hok⟩:=h.objs _ _ k1
   obtain⟨e1,e2,e3⟩:=o0.bx_T id
   refine⟨L,by rw[hlocne _ e];exact hL1,by rw[e2];exact hok.sz,fun hn => ?_,fun hn => ?_⟩
   ·have:=hok.nil hn
    unfold AObj.bx
    rw[this];exact this
   ·obtain⟨c,fr,q1,q2,q3,q4,q5⟩:=hok.at_ hn
    rw[e1,e2,e3,hN]
    refine⟨c,fr,q1,q2,?_,q4,q5⟩
    unfold AObj.bx
    cases hc:o0.cont with
    | row l=>rw[hc] at q3;simp only[hc];exact q3
    | junk=>rw[hc] at q3;simp only[hc];exact q3
    | box v =>
     have hv:=hb j o0 v k1 hc
     rw[hc] at q3
     obtain⟨m1,m2,m3,m4⟩:=q3
     refine⟨m1,by rw[AV.bx_cells hv];simpa using m2,fun e he => ?_,fun i e he => ?_⟩
     ·rw[AV.bx_cells hv] at he
      simp only[List.mem_map] at he
      obtain⟨x,hx,rfl⟩:=he
      rw[AV.bx_one (AV.noArr_cells hv x hx)];exact m3 x hx
     ·rw[AV.bx_cells hv] at he
      simp only[List.getElem?_map,Option.map_eq_some_iff] at he
      obtain⟨x,hx,rfl⟩:=he
      exact (m4 i x hx).bx hL0 hs0 (AV.noArr_cells hv x (List.mem_of_getElem? hx))
 ·have key:∀ j o L,(if j=id then some (⟨T,l.length,.box (.agg (l.map .p)),false⟩:AObj) else (s.m j).map (AObj.bx id))=some o→upd loc id (some ⟨L0.b,L0.o,L0.n,l.length,false⟩) j=some L→L.nil=false→∃ o0 L1,s.m j=some o0∧loc j=some L1∧L1.nil=false∧L1.b=L.b∧o0.frz=o.frz:=by
   intro j o L g1 g2 g3
   rcases hmm j o g1 with⟨rfl,rfl⟩ | ⟨e,o0,k1,rfl⟩
   ·rw[upd_same] at g2
    cases g2
    exact⟨_,L0,hm,hL0,hn0,rfl,rfl⟩
   ·rw[hlocne _ e] at g2
    exact⟨o0,L,k1,g2,g3,rfl,((o0.bx_T id).2.2).symm⟩
  obtain⟨o0,L1,x1,x2,x3,x4,x5⟩:=key j o L ho hLj hn
  obtain⟨o1,L2,y1,y2,y3,y4,y5⟩:=key j' o' L' ho' hLj' hn'
  exact h.inj j j' o0 o1 L1 L2 x1 y1 (x5.trans hf) x2 y2 x3 y3 (by rw[x4,y4];exact hb')
 ·obtain⟨h1,h2,h3,o,h4,h5⟩:=h.keepL L hB
  have e:lentId≠id:=fun e=>hid e.symm
  exact⟨by rw[hlocne _ e];exact h1,h2,h3,o.bx id,by simp only[if_neg e,h4,Option.map_some],by rw[(o.bx_T id).2.2];exact h5⟩
end
def bxR (id:Nat):List (Nat × AV)→List (Nat × AV)
 | []=>[]
 | (i,v)::l=>(i,v.bx id)::bxR id l
def bxM (id:Nat) (ob:AObj):List (Nat × AObj)→List (Nat × AObj)
 | []=>[]
 | (i,o)::l=>(i,if i=id then ob else o.bx id)::bxM id ob l
def noArrR (id:Nat):List (Nat × AV)→Bool
 | []=>true
 | (_,v)::l=>v.noArr id&&noArrR id l
def noArrM (id:Nat):List (Nat × AObj)→Bool
 | []=>true
 | (_,o)::l=>(match o.cont with | .box v=>v.noArr id | _=>true)&&noArrM id l
theorem bxR_look (id:Nat):∀ (l:List (Nat × AV)) (t:Nat),look (bxR id l) t=(look l t).bx id
 | [],t=>by rw[bxR,look_nil];simp[AV.bx]
 | (i,v)::l,t=>by
  rw[bxR,look_cons,look_cons]
  split
  ·rfl
  ·exact bxR_look id l t
theorem bxM_look (id:Nat) (ob:AObj):∀ (l:List (Nat × AObj)) (j:Nat),(lookM l id).isSome=true→lookM (bxM id ob l) j=if j=id then some ob else (lookM l j).map (AObj.bx id)
 | [],j,h=>by rw[lookM_nil] at h;cases h
 | (i,o)::l,j,h=>by
  have other:j≠id→lookM (bxM id ob l) j=(lookM l j).map (AObj.bx id):=by
   intro hj
   clear h
   induction l with
   | nil=>rfl
   | cons p l ih =>
    obtain⟨i,o⟩:=p
    rw[bxM,lookM_cons,lookM_cons,ih]
    by_cases e:j=i
    ·rw[if_pos e,if_pos e,if_neg (by rw[←e];exact hj)];rfl
    ·rw[if_neg e,if_neg e]
  rw[bxM,lookM_cons]
  by_cases e:j=i
  ·rw[if_pos e,lookM_cons,if_pos e]
   subst e
   by_cases e2:j=id
   ·rw[if_pos e2,if_pos e2]
   ·rw[if_neg e2,if_neg e2];rfl
  ·rw[if_neg e,lookM_cons,if_neg e]
   by_cases e2:j=id
   ·subst e2
    rw[lookM_cons,if_neg e] at h
    rw[bxM_look j ob l j h,if_pos rfl]
   ·rw[other e2,if_neg e2]
theorem noArrR_look {id:Nat}:∀ {l:List (Nat × AV)} (t:Nat),noArrR id l=true→(look l t).noArr id=true
 | [],t,_=>by rw[look_nil];simp[AV.noArr]
 | (i,v)::l,t,h=>by
  simp only[noArrR,Bool.and_eq_true] at h
  rw[look_cons]
  split
  ·exact h.1
  ·exact noArrR_look t h.2
theorem noArrM_look {id:Nat}:∀ {l:List (Nat × AObj)} {j:Nat} {o:AObj} {v:AV},noArrM id l=true→lookM l j=some o→o.cont = .box v→v.noArr id=true
 | [],j,o,v,_,h,_=>by rw[lookM_nil] at h;cases h
 | (i,q)::l,j,o,v,h,ho,hc=>by
  simp only[noArrM,Bool.and_eq_true] at h
  rw[lookM_cons] at ho
  split at ho
  ·cases ho;have:=h.1;rw[hc] at this;exact this
  ·exact noArrM_look h.2 ho hc
theorem Sub.bx {OT:List TypeId} {R:List (Nat × AV)} {M:List (Nat × AObj)} (id:Nat) {T:TypeId} {l:List D} (hid:id≠lentId) (hm:lookM M id=some ⟨T,1,.row l,false⟩) (hl:l≠[]) (h1:l.all D.one=true) (hr:noArrR id R=true) (hb:noArrM id M=true) :
  Sub OT ⟨look R,lookM M⟩ ⟨look (bxR id R),lookM (bxM id ⟨T,l.length,.box (.agg (l.map .p)),false⟩ M)⟩:=by
 have h:(⟨look (bxR id R),lookM (bxM id ⟨T,l.length,.box (.agg (l.map .p)),false⟩ M)⟩:St)=⟨fun t=>(look R t).bx id,fun j=>if j=id then some ⟨T,l.length,.box (.agg (l.map .p)),false⟩ else (lookM M j).map (AObj.bx id)⟩:=by
  congr 1
  ·funext t;exact bxR_look id R t
  ·funext j;exact bxM_look id _ M j (by rw[hm];rfl)
 rw[h]
 rintro C a w rfl ⟨⟨loc,hrel⟩,h2⟩
 refine⟨hrel.bx hid hm hl h1 (fun t=>noArrR_look t hr) (fun j o v ho hc=>noArrM_look hb ho hc),fun j o ho => ?_⟩
 dsimp only at ho
 split at ho
 ·cases ho;exact h2 id (⟨T,1,.row l,false⟩:AObj) hm
 ·simp only[Option.map_eq_some_iff] at ho
  obtain⟨x,hx,rfl⟩:=ho
  rw[(x.bx_T id).1]
  exact h2 _ _ hx
end Go.Proofs.Ytlnhembcfhfpkaa.M
end

section
namespace Go.Proofs.Ytlnhembcfhfpkaa.M
open Go.RowKit
structure IS where
 R:List (Nat × AV)
 M:List (Nat × AObj)
 k:Nat
def IS.st (s:IS):St:=⟨look s.R,lookM s.M⟩
def putL (R:List (Nat × AV)):Option Nat→AV→List (Nat × AV)
 | some t,v=>(t,v)::R
 | none,_=>R
theorem put_st (R:List (Nat × AV)) (m:Mem) (t:Option Nat) (v:AV):St.put ⟨look R,m⟩ t v=⟨look (putL R t v),m⟩:=by
 cases t with
 | none=>rfl
 | some t=>rfl
def tgt (op:AOp) (id:Nat) (r:Nat→AV):Option Nat:=
 match op with
 | .alloc .. | .box .. | .buildSlice .. | .buildSliceF .. | .makeSlice .. | .bytS .. | .copyS .. | .copyF .. => some id
 | .store _ x _=>match x.ev r with
  | .ptr i _ _=>some i
  | _=>none
 | .copyA x _=>match x.ev r with
  | .arr i _ _=>some i
  | _=>none
 | .clearS _ _ x=>match x.ev r with
  | .slice i _ _=>some i
  | _=>none
 | _=>none
theorem ev_tgt {op:AOp} {id:Nat} {s t:St} {p:Bool} {v:AV} (h:ev op id s=some (p,v,t)):match tgt op id s.r with
  | none=>t.m=s.m
  | some i => ∃ ob,t.m=upd s.m i (some ob):=by
 cases op<;>simp only[ev,tgt] at h ⊢ <;>
  (repeat' (split at h))<;>simp only[Option.some.injEq,Prod.mk.injEq,reduceCtorEq,Option.map_eq_some_iff] at h <;>
   first
    | (obtain⟨-,-,rfl⟩:=h;rfl)
    | (obtain⟨_,-,-,-,rfl⟩:=h;rfl)
    | (obtain⟨-,-,rfl⟩:=h;exact⟨_,rfl⟩)
    | (obtain⟨-,-,rfl⟩:=h;simp only[*];exact⟨_,rfl⟩)
def opRun (op:AOp) (dst:Option Nat) (s:IS):Option IS:=
 match ev op (dst.getD 0) s.st with
 | some (true,v,t)=>match tgt op (dst.getD 0) (look s.R) with
  | none=>some ⟨putL s.R dst v,s.M,s.k⟩
  | some i=>match t.m i with
   | some ob=>some ⟨putL s.R dst v,setM i ob s.M,s.k⟩
   | none=>none
 | _=>none
theorem opRun_ok {op:AOp} {dst:Option Nat} {s t:IS} (h:opRun op dst s=some t):∃ v u,ev op (dst.getD 0) s.st=some (true,v,u)∧t.st=u.put dst v:=by
 unfold opRun at h
 split at h
 case h_2=>cases h
 rename_i v u he
 refine⟨v,u,he,?_⟩
 have h1:=ev_tgt he
 have h2:=ev_r he
 obtain⟨ur,um⟩:=u
 simp only at h1 h2 h
 have h3:ur=look s.R:=h2
 subst h3
 split at h
 ·rename_i ht
  simp only[Option.some.injEq] at h
  subst h
  simp only[IS.st] at h1 ht
  rw[ht] at h1
  simp only at h1
  subst h1
  rw[put_st];rfl
 ·rename_i i ht
  simp only[IS.st] at h1 ht
  rw[ht] at h1
  obtain⟨ob,hob⟩:=h1
  subst hob
  rw[upd_same] at h
  simp only[Option.some.injEq] at h
  subst h
  rw[put_st,upd_lookM];rfl
def frzI (i:Nat) (s:IS):IS:=if i=lentId then s else match lookM s.M i with
 | some o=>⟨s.R,setM i ⟨o.T,o.sz,o.cont,true⟩ s.M,s.k⟩
 | none=>s
theorem frzI_ok (i:Nat) (s:IS):(frzI i s).st=frzS i s.st:=by
 unfold frzI frzS
 by_cases e:i=lentId
 ·rw[if_pos e,if_pos e]
 ·rw[if_neg e,if_neg e]
  simp only[IS.st]
  cases lookM s.M i with
  | none=>rfl
  | some o=>simp only[upd_lookM]
def appRun (T sz b:Nat) (x y:Opd) (id:Nat) (s:IS):Option (AV × IS):=
 match evApp T sz b x y id s.st with
 | some (true,v,t)=>match x.ev (look s.R) with
  | .nils _ _=>match t.m id with
   | some ob=>some (v,⟨s.R,setM id ob s.M,s.k⟩)
   | none=>none
  | .slice i _ _=>match t.m i with
   | some ob=>some (v,⟨fgR i s.R,setM i ob (fgM i s.M),s.k⟩)
   | none=>none
  | _=>none
 | _=>none
theorem appRun_ok {T sz b:Nat} {x y:Opd} {id:Nat} {s t:IS} {v:AV} (h:appRun T sz b x y id s=some (v,t)):evApp T sz b x y id s.st=some (true,v,t.st):=by
 unfold appRun at h
 split at h
 case h_2=>cases h
 rename_i v' u he
 rw[he]
 unfold evApp at he
 split at he
 case h_1=>cases he
 split at he
 ·rename_i hx
  have hx':x.ev (look s.R)=_:=hx
  split at he
  case h_2=>cases he
  split at he
  case isFalse=>cases he
  simp only[Option.some.injEq,Prod.mk.injEq] at he
  obtain⟨-,rfl,rfl⟩:=he
  rw[hx'] at h
  simp only[upd_same,Option.some.injEq,Prod.mk.injEq] at h
  obtain⟨rfl,rfl⟩:=h
  simp only[IS.st,upd_lookM]
 ·rename_i i n hx
  have hx':x.ev (look s.R)=_:=hx
  split at he
  case h_2=>cases he
  split at he
  case isFalse=>cases he
  simp only[Option.some.injEq,Prod.mk.injEq] at he
  obtain⟨-,rfl,rfl⟩:=he
  rw[hx'] at h
  simp only[upd_same,Option.some.injEq,Prod.mk.injEq] at h
  obtain⟨rfl,rfl⟩:=h
  simp only[IS.st,forgetR_look,forgetM_look,upd_lookM]
 ·cases he
section
variable (call:FuncId→List D→Option D)
def stepRun (c:COp) (s:IS):Option IS:=
 match c.op with
 | .call f args=>match argsD s.st args with
  | some ds=>match call f ds with
   | some d=>some ⟨putL s.R c.dst (.p d),s.M,s.k⟩
   | none=>none
  | none=>none
 | .append T sz b x y=>match appRun T sz b x y (c.dst.getD 0) s with
  | some (v,t)=>some ⟨putL t.R c.dst v,t.M,t.k⟩
  | none=>none
 | .appendF T sz b x y=>match appRun T sz b x y (c.dst.getD 0) s with
  | some (v,t)=>some ⟨putL (frzI (slId (c.dst.getD 0) v) t).R c.dst v,(frzI (slId (c.dst.getD 0) v) t).M,t.k⟩
  | none=>none
 | .callL f k args=>match opdAt s.st k args with
  | .slice i 0 n=>match lookM s.M i with
   | some ⟨T,sz,.row l,false⟩=>match argsDL s.st (.list T sz l) k args with
    | some ds=>match call (f+LB*(k+1)) ds with
     | some (.tup [r,.list T' sz' l'])=>if T'=T∧sz'=sz∧n=l.length then some ⟨putL s.R c.dst (if l.isEmpty then .p (lentE T sz r) else lentR i r),setM i ⟨T,sz,.row l',false⟩ s.M,s.k⟩ else none
     | _=>none
    | none=>none
   | _=>none
  | _=>none
 | .callv fs x args=>match (x.ev (look s.R)).toD false (lookM s.M) 20,argsD s.st args with
  | some (.fn (.func f) a b),some ds=>if fs.contains f then match call f (a++ds++b) with
   | some d=>some ⟨putL s.R c.dst (.p d),s.M,s.k⟩
   | none=>none else none
  | _,_=>none
 | .callN f T args=>match argsD s.st args with
  | some ds=>match lookM s.M (c.dst.getD 0) with
   | none=>match call (f+LB*(8+1)) ds with
    | some (.list T' sz l)=>if T'=T then some ⟨putL s.R c.dst (.slice (c.dst.getD 0) 0 l.length),setM (c.dst.getD 0) ⟨T,sz,.row l,false⟩ s.M,s.k⟩ else none
    | _=>none
   | some _=>none
  | none=>none
 | .isNil neg x=>match x.ev (look s.R) with
  | .nils _ _=>some ⟨putL s.R c.dst (.p (.bool (!neg))),s.M,s.k⟩
  | .p (.list _ _ (_::_))=>some ⟨putL s.R c.dst (.p (.bool (false != neg))),s.M,s.k⟩
  | _=>none
 | op=>opRun op c.dst s
variable {call}
theorem stepRun_ok {G:FuncId→List D→D→Prop} (hcall:∀ c ds d,call c ds=some d→G c ds d) {c:COp} {s t:IS} {K:St→Prop} (h:stepRun call c s=some t) (hK:K t.st):step G c K s.st:=by
 obtain⟨dst,op,g⟩:=c
 have plain:∀ op',op=op'→opRun op' dst s=some t→(∃ v u,ev op' (dst.getD 0) s.st=some (true,v,u)∧K (u.put dst v)):=by
  rintro op' rfl ho
  obtain⟨v,u,h1,h2⟩:=opRun_ok ho
  exact⟨v,u,h1,by rw[←h2];exact hK⟩
 have hput:∀ v,s.st.put dst v=(⟨putL s.R dst v,s.M,s.k⟩:IS).st:=fun v=>put_st s.R (lookM s.M) dst v
 unfold step
 unfold stepRun at h
 cases op
 case call f args =>
  simp only at h ⊢
  split at h
  case h_2=>cases h
  rename_i ds hds
  split at h
  case h_2=>cases h
  rename_i d hd
  simp only[Option.some.injEq] at h
  subst h
  rw[hds]
  exact⟨d,hcall _ _ _ hd,by rw[hput];exact hK⟩
 case append T sz b x y =>
  simp only at h ⊢
  split at h
  case h_2=>cases h
  rename_i v u hu
  simp only[Option.some.injEq] at h
  subst h
  rw[appRun_ok hu]
  refine⟨rfl,?_⟩
  unfold IS.st
  rw[put_st]
  exact hK
 case appendF T sz b x y =>
  simp only at h ⊢
  split at h
  case h_2=>cases h
  rename_i v u hu
  simp only[Option.some.injEq] at h
  subst h
  rw[appRun_ok hu]
  refine⟨rfl,?_⟩
  rw[←frzI_ok]
  unfold IS.st
  rw[put_st]
  exact hK
 case callL f k args =>
  simp only at h ⊢
  split at h
  case h_2=>cases h
  rename_i i n hi
  split at h
  case h_2=>cases h
  rename_i T sz l hm
  split at h
  case h_2=>cases h
  rename_i ds hds
  split at h
  case h_2=>cases h
  rename_i r T' sz' l' hd
  split at h
  case isFalse=>cases h
  rename_i hc
  obtain⟨rfl,rfl,rfl⟩:=hc
  simp only[Option.some.injEq] at h
  subst h
  rw[hi]
  simp only
  have hm':s.st.m i=_:=hm
  rw[hm']
  simp only[hds]
  refine⟨trivial,r,l',hcall _ _ _ hd,?_⟩
  have e1:(upd s.st.m i (some ⟨T',sz',.row l',false⟩))=lookM (setM i ⟨T',sz',.row l',false⟩ s.M):=upd_lookM _ _ _
  rw[e1]
  have e2:(if l=[] then AV.p (lentE T' sz' r) else lentR i r)=if l.isEmpty then AV.p (lentE T' sz' r) else lentR i r:=by
   cases l<;>simp
  rw[e2]
  have:=put_st s.R (lookM (setM i ⟨T',sz',.row l',false⟩ s.M)) dst (if l.isEmpty then AV.p (lentE T' sz' r) else lentR i r)
  unfold IS.st
  simp only
  rw[this]
  exact hK
 case callv fs x args =>
  simp only at h ⊢
  split at h
  case h_2=>cases h
  rename_i f a b ds h1 h2
  split at h
  case isFalse=>cases h
  rename_i hf
  split at h
  case h_2=>cases h
  rename_i d hd
  simp only[Option.some.injEq] at h
  subst h
  have h1':(x.ev s.st.r).toD false s.st.m 20=_:=h1
  rw[h1',h2]
  exact⟨hf,d,hcall _ _ _ hd,by rw[hput];exact hK⟩
 case callN f T args =>
  simp only at h ⊢
  split at h
  case h_2=>cases h
  rename_i ds hds
  split at h
  case h_2=>cases h
  rename_i hm
  split at h
  case h_2=>cases h
  rename_i T' sz l hd
  split at h
  case isFalse=>cases h
  rename_i hT
  subst hT
  simp only[Option.some.injEq] at h
  subst h
  rw[hds]
  simp only
  have hm':s.st.m (dst.getD 0)=none:=hm
  rw[hm']
  refine⟨sz,l,hcall _ _ _ hd,?_⟩
  have e1:(upd s.st.m (dst.getD 0) (some ⟨T',sz,.row l,false⟩))=lookM (setM (dst.getD 0) ⟨T',sz,.row l,false⟩ s.M):=upd_lookM _ _ _
  rw[e1]
  have:=put_st s.R (lookM (setM (dst.getD 0) ⟨T',sz,.row l,false⟩ s.M)) dst (.slice (dst.getD 0) 0 l.length)
  unfold IS.st
  simp only
  rw[this]
  exact hK
 case isNil neg x =>
  simp only at h ⊢
  split at h
  ·rename_i T sz hx
   simp only[Option.some.injEq] at h
   subst h
   have hx':x.ev s.st.r=_:=hx
   rw[hx']
   simp only
   rw[hput]
   exact hK
  ·rename_i T sz a l hx
   simp only[Option.some.injEq] at h
   subst h
   have hx':x.ev s.st.r=_:=hx
   rw[hx']
   simp only
   intro b hb
   rw[hb (by simp),hput]
   exact hK
  ·cases h
 all_goals
  simp only at h ⊢
  obtain⟨v,u,h1,h2⟩:=plain _ rfl h
  rw[h1]
  exact⟨rfl,h2⟩
variable (call)
def gRun (c:COp) (s:IS):Option IS:=
 match c.guard with
 | none=>stepRun call c s
 | some (g,want)=>match look s.R g with
  | .p (.bool b)=>if b=want then stepRun call c s else some ⟨putL s.R c.dst (.p (.tup [])),s.M,s.k⟩
  | .p (.tup [])=>some ⟨putL s.R c.dst (.p (.tup [])),s.M,s.k⟩
  | _=>none
def opsRun:List COp→IS→Option IS
 | [],s=>some s
 | c::l,s=>match gRun call c s with
  | some t=>opsRun l t
  | none=>none
variable {call}
theorem gRun_ok {G:FuncId→List D→D→Prop} (hcall:∀ c ds d,call c ds=some d→G c ds d) {c:COp} {s t:IS} {K:St→Prop} (h:gRun call c s=some t) (hK:K t.st):gstep G c K s.st:=by
 unfold gstep
 unfold gRun at h
 split at h
 ·rename_i hg
  rw[hg]
  exact stepRun_ok hcall h hK
 ·rename_i g want hg
  rw[hg]
  simp only
  split at h
  case h_3=>cases h
  case h_2 =>
   rename_i hb
   have hb':s.st.r g=_:=hb
   rw[hb']
   simp only[Option.some.injEq] at h ⊢
   subst h
   unfold IS.st
   rw[put_st]
   exact hK
  rename_i b hb
  have hb':s.st.r g=_:=hb
  rw[hb']
  simp only
  split at h
  ·rename_i e
   rw[if_pos e]
   exact stepRun_ok hcall h hK
  ·rename_i e
   rw[if_neg e]
   simp only[Option.some.injEq] at h
   subst h
   unfold IS.st
   rw[put_st]
   exact hK
theorem opsRun_ok {G:FuncId→List D→D→Prop} (hcall:∀ c ds d,call c ds=some d→G c ds d) {K:St→Prop}:∀ (l:List COp) (s t:IS),opsRun call l s=some t→K t.st→cops G l K s.st
 | [],s,t,h,hK=>by simp only[opsRun,Option.some.injEq] at h;subst h;exact hK
 | c::l,s,t,h,hK=>by
  simp only[opsRun] at h
  split at h
  case h_2=>cases h
  rename_i u hu
  exact gRun_ok hcall hu (opsRun_ok hcall l u t h hK)
end
inductive NA where
 | keep (ts:List Nat)
 | gc
 | frz (T:Nat)
 | frzv (ts:List Nat)
 | box (id:Nat)
 | ren
def garb (R:List (Nat × AV)) (M:List (Nat × AObj)):List (Nat × AObj)→List Nat
 | []=>[]
 | (i,_)::l=>if i != lentId&&closedR [i] R&&M.all (fun p => !p.2.men [i]) then i::garb R M l else garb R M l
def frzAll (T:Nat):List (Nat × AObj)→List (Nat × AObj)→List (Nat × AObj)
 | [],M=>M
 | (i,_)::l,M=>match lookM M i with
  | some ⟨T',sz,.row r,false⟩=>if T'=T∧i≠lentId then frzAll T l (setM i ⟨T',sz,.row r,true⟩ M) else frzAll T l M
  | _=>frzAll T l M
def frzV (R:List (Nat × AV)):List Nat→List (Nat × AObj)→List (Nat × AObj)
 | [],M=>M
 | t::l,M=>match look R t with
  | .slice i _ _=>match lookM M i with
   | some ⟨T,sz,.row r,false⟩=>if i≠lentId then frzV R l (setM i ⟨T,sz,.row r,true⟩ M) else frzV R l M
   | _=>frzV R l M
  | _=>frzV R l M
def naRun:NA→IS→Option IS
 | .keep ts,s=>some ⟨sel (look s.R) ts,s.M,s.k⟩
 | .gc,s=>if closedR (garb s.R s.M s.M) s.R&&closedM (garb s.R s.M s.M) s.M then some ⟨s.R,delL (garb s.R s.M s.M) s.M,s.k⟩ else none
 | .frz T,s=>some ⟨s.R,frzAll T s.M s.M,s.k⟩
 | .frzv ts,s=>some ⟨s.R,frzV s.R ts s.M,s.k⟩
 | .box id,s=>match lookM s.M id with
  | some ⟨T,sz,.row (d::l),false⟩=>if sz=1∧id≠lentId∧(d::l).all D.one=true∧noArrR id s.R=true∧noArrM id s.M=true then some ⟨bxR id s.R,bxM id ⟨T,(d::l).length,.box (.agg ((d::l).map .p)),false⟩ s.M,s.k⟩ else none
  | _=>some s
 | .ren,s=>some ⟨rnR (swp (2000000+100000*s.k)) s.R,rnM (swp (2000000+100000*s.k)) s.M,s.k+1⟩
theorem frzAll_ok {OT:List TypeId} (T:Nat) (R:List (Nat × AV)):∀ (l M:List (Nat × AObj)),Sub OT ⟨look R,lookM M⟩ ⟨look R,lookM (frzAll T l M)⟩
 | [],M=>Sub.rf _
 | (i,_)::l,M=>by
  unfold frzAll
  split
  ·rename_i T' sz r hm
   split
   ·rename_i hc
    refine Sub.tr ?_ (frzAll_ok T R l _)
    rw[←upd_lookM]
    exact Sub.freeze (ob:=⟨T',sz,.row r,false⟩) hc.2 hm
   ·exact frzAll_ok T R l M
  ·exact frzAll_ok T R l M
theorem frzV_ok {OT:List TypeId} (R:List (Nat × AV)):∀ (l:List Nat) (M:List (Nat × AObj)),Sub OT ⟨look R,lookM M⟩ ⟨look R,lookM (frzV R l M)⟩
 | [],M=>Sub.rf _
 | t::l,M=>by
  unfold frzV
  split
  ·rename_i i o n hi
   split
   ·rename_i T sz r hm
    split
    ·rename_i hc
     refine Sub.tr ?_ (frzV_ok R l _)
     rw[←upd_lookM]
     exact Sub.freeze (ob:=⟨T,sz,.row r,false⟩) hc hm
    ·exact frzV_ok R l M
   ·exact frzV_ok R l M
  ·exact frzV_ok R l M
theorem naRun_ok {OT:List TypeId} {a:NA} {s t:IS} (h:naRun a s=some t):Sub OT s.st t.st:=by
 cases a<;>simp only[naRun] at h
 case keep ts =>
  simp only[Option.some.injEq] at h
  subst h
  exact Sub.und (sel_or ts)
 case gc =>
  split at h
  case isFalse=>cases h
  rename_i hc
  simp only[Bool.and_eq_true] at hc
  simp only[Option.some.injEq] at h
  subst h
  exact Sub.dropL (garb s.R s.M s.M) (fun t => .inr ⟨rfl,look_closed t hc.1⟩) (lookM_del _ _) (fun i o ho=>lookM_closed i o hc.2 ho) (closedM_lent hc.2)
 case frz T =>
  simp only[Option.some.injEq] at h
  subst h
  exact frzAll_ok T _ _ _
 case frzv ts =>
  simp only[Option.some.injEq] at h
  subst h
  exact frzV_ok _ _ _
 case box id =>
  split at h
  ·rename_i T sz d l hm
   split at h
   case isFalse=>cases h
   rename_i hc
   obtain⟨rfl,h1,h2,h3,h4⟩:=hc
   simp only[Option.some.injEq] at h
   subst h
   exact Sub.bx id h1 hm (by simp) h2 h3 h4
  ·simp only[Option.some.injEq] at h
   subst h
   exact Sub.rf _
 case ren =>
  simp only[Option.some.injEq] at h
  subst h
  exact Sub.ren (fun i=>swp_swp (by omega) i) (swp_lent (by omega))
def nasRun:List NA→IS→Option IS
 | [],s=>some s
 | a::l,s=>match naRun a s with
  | some t=>nasRun l t
  | none=>none
theorem nasRun_ok {OT:List TypeId}:∀ {l:List NA} {s t:IS},nasRun l s=some t→Sub OT s.st t.st
 | [],s,t,h=>by simp only[nasRun,Option.some.injEq] at h;subst h;exact Sub.rf _
 | a::l,s,t,h=>by
  simp only[nasRun] at h
  split at h
  case h_2=>cases h
  rename_i u hu
  exact (naRun_ok hu).tr (nasRun_ok h)
def headD:CC→Nat
 | .ops _ (c::_)=>c.dst.getD 0
 | .seq a _=>headD a
 | .block _ a=>headD a
 | .loop a=>headD a
 | _=>0
def planAt:List (Nat × List NA)→Nat→List NA
 | [],_=>[]
 | (i,l)::p,h=>if h=i then l else planAt p h
def iter (f:IS→Option (AExit × IS)) (g:IS→Option IS):Nat→IS→Option (AExit × IS)
 | 0,_=>none
 | n+1,s=>match g s with
  | some u=>match f u with
   | some (.normal,t)=>iter f g n t
   | x=>x
  | none=>none
section
variable (call:FuncId→List D→Option D) (pl:List (Nat × List NA)) (n:Nat)
def run:CC→IS→Option (AExit × IS)
 | .skip,s=>some (.normal,s)
 | .ops ap l,s=>if apOk ap (look s.R) then match opsRun call l s with
  | some t=>some (.normal,t)
  | none=>none else none
 | .seq a b,s=>match run a s with
  | some (.normal,t)=>match nasRun (planAt pl (headD b)) t with
   | some u=>run b u
   | none=>none
  | x=>x
 | .cond x a b,s=>match x.ev (look s.R) with
  | .p (.bool true)=>run a s
  | .p (.bool false)=>run b s
  | _=>none
 | .block id a,s=>match run a s with
  | some (.exit j,t)=>if j=id then some (.normal,t) else some (.exit j,t)
  | x=>x
 | .loop a,s=>iter (fun u=>run a u) (nasRun (planAt pl (headD a))) n s
 | .exit id,s=>some (.exit id,s)
 | .ret,s=>some (.ret,s)
 | .stuck,_=>none
variable {call pl n}
theorem run_ok {OT:List TypeId} {G:FuncId→List D→D→Prop} (hcall:∀ c ds d,call c ds=some d→G c ds d):∀ (cc:CC) (s t:IS) (e:AExit) (Q:AExit→St→Prop),run call pl n cc s=some (e,t)→Q e t.st→cw OT G cc Q s.st
 | .skip,s,t,e,Q,h,hQ=>by
  simp only[run,Option.some.injEq,Prod.mk.injEq] at h
  obtain⟨rfl,rfl⟩:=h
  exact hQ
 | .ops ap l,s,t,e,Q,h,hQ=>by
  simp only[run] at h
  split at h
  case isFalse=>cases h
  rename_i hap
  split at h
  case h_2=>cases h
  rename_i u hu
  simp only[Option.some.injEq,Prod.mk.injEq] at h
  obtain⟨rfl,rfl⟩:=h
  exact⟨hap,opsRun_ok hcall l s u hu hQ⟩
 | .seq a b,s,t,e,Q,h,hQ=>by
  simp only[run] at h
  split at h
  ·rename_i u hu
   split at h
   case h_2=>cases h
   rename_i x hx
   exact run_ok hcall a s u .normal _ hu ⟨x.st,nasRun_ok hx,run_ok hcall b x t e Q h hQ⟩
  ·rename_i hne
   refine run_ok hcall a s t e _ h ?_
   cases e with
   | normal=>exact absurd h (hne t)
   | exit id=>exact hQ
   | ret=>exact hQ
 | .cond x a b,s,t,e,Q,h,hQ=>by
  simp only[run] at h
  simp only[cw]
  split at h
  ·rename_i hx
   have hx':x.ev s.st.r=_:=hx
   rw[hx']
   exact⟨fun _=>run_ok hcall a s t e Q h hQ,fun hh=>(by cases hh)⟩
  ·rename_i hx
   have hx':x.ev s.st.r=_:=hx
   rw[hx']
   exact⟨fun hh=>(by cases hh),fun _=>run_ok hcall b s t e Q h hQ⟩
  ·cases h
 | .block id a,s,t,e,Q,h,hQ=>by
  simp only[run] at h
  split at h
  ·rename_i j u hu
   refine run_ok hcall a s u (.exit j) _ hu ?_
   simp only
   split at h
   ·rename_i e1
    rw[if_pos e1]
    simp only[Option.some.injEq,Prod.mk.injEq] at h
    obtain⟨rfl,rfl⟩:=h
    exact hQ
   ·rename_i e1
    rw[if_neg e1]
    simp only[Option.some.injEq,Prod.mk.injEq] at h
    obtain⟨rfl,rfl⟩:=h
    exact hQ
  ·rename_i hne
   refine run_ok hcall a s t e _ h ?_
   cases e with
   | normal=>exact hQ
   | exit id=>exact absurd h (hne id t)
   | ret=>exact hQ
 | .loop a,s,t,e,Q,h,hQ=>by
  simp only[run] at h
  have key:∀ m s,iter (fun u=>run call pl n a u) (nasRun (planAt pl (headD a))) m s=some (e,t)→cw OT G (.loop a) Q s.st:=by
   intro m
   induction m with
   | zero=>intro s h;simp[iter] at h
   | succ m ih =>
    intro s h
    simp only[iter] at h
    split at h
    case h_2=>cases h
    rename_i u hu
    refine loop_in (nasRun_ok hu) ?_
    split at h
    ·rename_i v hv
     exact run_ok hcall a u v .normal _ hv (ih v h)
    ·rename_i hne
     refine run_ok hcall a u t e _ h ?_
     cases e with
     | normal=>exact absurd h (hne t)
     | exit id=>exact hQ
     | ret=>exact hQ
  exact key n s h
 | .exit id,s,t,e,Q,h,hQ=>by
  simp only[run,Option.some.injEq,Prod.mk.injEq] at h
  obtain⟨rfl,rfl⟩:=h
  exact hQ
 | .ret,s,t,e,Q,h,hQ=>by
  simp only[run,Option.some.injEq,Prod.mk.injEq] at h
  obtain⟨rfl,rfl⟩:=h
  exact hQ
 | .stuck,s,t,e,Q,h,hQ=>by simp[run] at h
end
structure FnI where
 f:FuncId
 OT:List TypeId
 cc:CC
 rs:List (Nat × Option (Bool × Nat))
 nt:Nat
 pl:List (Nat × List NA)
def FnI.Ok (P:Program) (F:FnI):Prop:=F.f<LB∧FnOk P F.f F.OT F.cc F.rs F.nt
def findF:List FnI→FuncId→Option FnI
 | [],_=>none
 | F::l,f=>if F.f=f then some F else findF l f
theorem findF_ok {P:Program}:∀ {l:List FnI} {f:FuncId} {F:FnI},(∀ F∈l,F.Ok P)→findF l f=some F→F.f=f∧F.Ok P
 | [],f,F,_,h=>by cases h
 | G::l,f,F,hl,h=>by
  simp only[findF] at h
  split at h
  ·cases h;exact⟨‹_›,hl _ (by simp)⟩
  ·exact findF_ok (fun F hF=>hl F (by simp[hF])) h
def argsR:Nat→List D→List (Nat × AV)
 | _,[]=>[]
 | i,d::l=>(i,.p d)::argsR (i+1) l
theorem argsR_look:∀ (l:List D) (i t:Nat),look (argsR i l) t=if t<i then .und else match l[t-i]? with
  | some d => .p d
  | none => .und
 | [],i,t=>by simp[argsR,look_nil]
 | d::l,i,t=>by
  rw[argsR,look_cons,argsR_look l (i+1) t]
  by_cases h:t=i
  ·subst h;simp
  ·rw[if_neg h]
   by_cases h2:t<i
   ·rw[if_pos h2,if_pos (by omega)]
   ·rw[if_neg h2,if_neg (by omega),show t-i=(t-(i+1))+1 by omega,List.getElem?_cons_succ]
def startI (ds:List D):IS:=⟨argsR 0 ds,[],0⟩
theorem startI_st (ds:List D):(startI ds).st=init ds:=by
 unfold IS.st startI init
 congr 1
 funext t
 rw[argsR_look]
 rfl
def startL (k T sz:Nat) (l:List D) (ds:List D):IS:=⟨(k,.slice lentId 0 l.length)::argsR 0 ds,[(lentId,⟨T,sz,.row l,false⟩)],0⟩
theorem startL_st (k T sz:Nat) (l:List D) (ds:List D):(startL k T sz l ds).st=initL k T sz l ds:=by
 unfold IS.st startL initL
 congr 1
 ·funext t
  rw[look_cons,argsR_look]
  rfl
def isInt1:D→Bool
 | .tup [.int .i64 _]=>true
 | _=>false
theorem isInt1_ne {d:D} (h:isInt1 d=false):∀ m,d≠.tup [.int .i64 m]:=by
 rintro m rfl
 cases h
theorem isInt1_lentE {d:D} (h:isInt1 d=false) (T:TypeId) (sz:Nat):lentE T sz d=d:=by
 unfold lentE
 split
 ·cases h
 ·rfl
def plainEnd (rs:List (Nat × Option (Bool × Nat))):Option (AExit × IS)→Option D
 | some (.exit _,_)=>none
 | some (_,s)=>resD s.st rs
 | none=>none
def newEnd (rs:List (Nat × Option (Bool × Nat))):Option (AExit × IS)→Option D
 | some (.exit _,_)=>none
 | some (_,s)=>match rs with
  | [y]=>match resV s.st y with
   | some (.slice i 0 n)=>match lookM s.M i with
    | some ⟨T,sz,.row l,false⟩=>if n=l.length then some (.list T sz l) else none
    | _=>none
   | some (.nils T sz)=>some (.list T sz [])
   | _=>none
  | _=>none
 | none=>none
def lentEnd (T sz n:Nat) (rs:List (Nat × Option (Bool × Nat))):Option (AExit × IS)→Option D
 | some (.exit _,_)=>none
 | some (_,s)=>match lookM s.M lentId with
  | some ⟨T',sz',.row l',false⟩=>if T'=T∧sz'=sz∧l'.length=n then
    (match rs with
    | []=>some (.tup [.tup [],.list T sz l'])
    | [(t,none)]=>match look s.R t with
     | .slice i 0 m=>if i=lentId then some (.tup [.tup [.int .i64 m],.list T sz l']) else none
     | .p d=>if isInt1 d then none else some (.tup [d,.list T sz l'])
     | _=>none
    | _=>none) else none
  | _=>none
 | none=>none
section
variable (Fs:List FnI) (orc:FuncId→List D→Option D)
def callF:Nat→FuncId→List D→Option D
 | 0,_,_=>none
 | n+1,c,ds=>match orc c ds with
  | some d=>some d
  | none=>match findF Fs (c % LB) with
   | none=>none
   | some F=>if ds.length≤F.nt then
    (match c / LB with
    | 0=>plainEnd F.rs (run (callF n) F.pl n F.cc (startI ds))
    | 9=>newEnd F.rs (run (callF n) F.pl n F.cc (startI ds))
    | k+1=>match ds[k]? with
     | some (.list T sz [])=>match callF n (c % LB) ds with
      | some d=>if isInt1 d then none else some (.tup [d,.list T sz []])
      | none=>none
     | some (.list T sz (e::l))=>if F.OT.contains T then lentEnd T sz (l.length+1) F.rs (run (callF n) F.pl n F.cc (startL k T sz (e::l) ds)) else none
     | _=>none) else none
variable {Fs orc}
theorem plainEnd_ok {rs:List (Nat × Option (Bool × Nat))} {x:Option (AExit × IS)} {d:D} (h:plainEnd rs x=some d):∃ e s,x=some (e,s)∧Ends d rs e s.st:=by
 unfold plainEnd at h
 split at h
 ·cases h
 ·rename_i e s hne
  refine⟨_,_,rfl,?_⟩
  cases e with
  | normal=>exact h
  | exit id=>exact (hne id rfl).elim
  | ret=>exact h
 ·cases h
theorem newEnd_ok {rs:List (Nat × Option (Bool × Nat))} {x:Option (AExit × IS)} {d:D} (h:newEnd rs x=some d):∃ e s T sz l,d = .list T sz l∧x=some (e,s)∧EndsN T sz l rs e s.st:=by
 unfold newEnd at h
 split at h
 ·cases h
 ·rename_i e s hne
  have key:∀ T sz l,ResNew s.st rs T sz l→EndsN T sz l rs e s.st:=fun T sz l hr=>by
   cases e with
   | normal=>exact hr
   | exit id=>exact (hne id rfl).elim
   | ret=>exact hr
  split at h
  case h_2=>cases h
  rename_i y
  split at h
  ·rename_i i n hv
   split at h
   case h_2=>cases h
   rename_i T sz l hm
   split at h
   case isFalse=>cases h
   rename_i hn
   subst hn
   simp only[Option.some.injEq] at h
   exact⟨_,_,T,sz,l,h.symm,rfl,key _ _ _ (.row rfl hv hm)⟩
  ·rename_i T sz hv
   simp only[Option.some.injEq] at h
   exact⟨_,_,T,sz,[],h.symm,rfl,key _ _ _ (.nil rfl hv)⟩
  ·cases h
 ·cases h
theorem lentEnd_ok {T sz n:Nat} {rs:List (Nat × Option (Bool × Nat))} {x:Option (AExit × IS)} {d:D} (h:lentEnd T sz n rs x=some d):∃ e s r l',d = .tup [r,.list T sz l']∧l'.length=n∧x=some (e,s)∧EndsL T sz l' r rs e s.st:=by
 unfold lentEnd at h
 split at h
 ·cases h
 ·rename_i e s hne
  have key:∀ r l',s.st.m lentId=some ⟨T,sz,.row l',false⟩∧ResLt s.st rs r→EndsL T sz l' r rs e s.st:=fun r l' hr=>by
   cases e with
   | normal=>exact hr
   | exit id=>exact (hne id rfl).elim
   | ret=>exact hr
  split at h
  case h_2=>cases h
  rename_i T' sz' l' hm
  split at h
  case isFalse=>cases h
  rename_i hc
  obtain⟨rfl,rfl,hn⟩:=hc
  split at h
  ·simp only[Option.some.injEq] at h
   exact⟨_,_,_,l',h.symm,hn,rfl,key _ _ ⟨hm,.unit _⟩⟩
  ·rename_i t
   split at h
   ·rename_i i m hv
    split at h
    case isFalse=>cases h
    rename_i hi
    subst hi
    simp only[Option.some.injEq] at h
    exact⟨_,_,_,l',h.symm,hn,rfl,key _ _ ⟨hm,.pre rfl (by simpa[IS.st] using hv)⟩⟩
   ·rename_i d' hv
    split at h
    ·cases h
    ·rename_i hd
     simp only[Option.some.injEq] at h
     exact⟨_,_,_,l',h.symm,hn,rfl,key _ _ ⟨hm,.one hv (isInt1_ne (by simpa using hd))⟩⟩
   ·cases h
  ·cases h
 ·cases h
theorem callF_ok {P:Program} (hFs:∀ F∈Fs,F.Ok P) (horc:∀ c ds d,orc c ds=some d→ConX P [] c ds d):∀ (n:Nat) (c:FuncId) (ds:List D) (d:D),callF Fs orc n c ds=some d→ConX P [] c ds d
 | 0,c,ds,d,h=>by simp[callF] at h
 | n+1,c,ds,d,h=>by
  have ih:=callF_ok hFs horc n
  simp only[callF] at h
  split at h
  ·rename_i d' hd
   simp only[Option.some.injEq] at h
   subst h
   exact horc _ _ _ hd
  split at h
  ·cases h
  rename_i F hF
  obtain⟨hFf,hlt,hok⟩:=findF_ok hFs hF
  split at h
  case isFalse=>cases h
  rename_i hlen
  have hdm:=Nat.div_add_mod c LB
  rw[←hFf] at hdm
  have hA:F.OT.all (fun T => !([]:List TypeId).contains T)=true:=by simp
  split at h
  ·rename_i h0
   rw[h0] at hdm
   obtain⟨e,s,h1,h2⟩:=plainEnd_ok h
   have hc:c=F.f:=by rw[Nat.mul_zero,Nat.zero_add] at hdm;exact hdm.symm
   rw[hc]
   refine .plain hlt (hok.con hA hlen ?_)
   rw[←startI_st]
   exact run_ok ih _ _ _ _ _ h1 h2
  ·rename_i h0
   rw[h0] at hdm
   obtain⟨e,s,T,sz,l,rfl,h1,h2⟩:=newEnd_ok h
   have hc:c=F.f+LB*(8+1):=by rw[Nat.add_comm];exact hdm.symm
   rw[hc]
   refine .fresh hlt (hok.conN hA hlen ?_)
   rw[←startI_st]
   exact run_ok ih _ _ _ _ _ h1 h2
  ·rename_i k hne h0
   rw[h0] at hdm
   have hc:c=F.f+LB*(k+1):=by rw[Nat.add_comm];exact hdm.symm
   split at h
   ·rename_i T sz hk
    split at h
    case h_2=>cases h
    rename_i d' hd
    split at h
    ·cases h
    rename_i hi
    simp only[Option.some.injEq] at h
    subst h
    have hcon:=(ih _ _ _ hd).con (by rw[←hFf];exact hlt)
    rw[←hFf] at hcon
    rw[hc]
    exact .lent hlt hk rfl (fun _=>by rw[isInt1_lentE (by simpa using hi)];exact hcon) (fun hh=>absurd rfl hh)
   ·rename_i T sz e l hk
    split at h
    case isFalse=>cases h
    rename_i hT
    obtain⟨e',s,r,l',rfl,hl',h1,h2⟩:=lentEnd_ok h
    rw[hc]
    refine .lent hlt hk (by simpa using hl') (fun hh=>(by cases hh)) (fun _=>hok.conL hA hlen hT (List.getElem?_eq_some_iff.1 hk).1 ?_)
    rw[←startL_st]
    exact run_ok ih _ _ _ _ _ h1 h2
   ·cases h
theorem callF_con {P:Program} (hFs:∀ F∈Fs,F.Ok P) (horc:∀ c ds d,orc c ds=some d→ConX P [] c ds d) {n:Nat} {f:FuncId} {ds:List D} {d:D} (h:callF Fs orc n f ds=some d) (hf:f<LB:=by decide):Con P [] f ds d:=
 (callF_ok hFs horc n f ds d h).con hf
end
end Go.Proofs.Ytlnhembcfhfpkaa.M
end
