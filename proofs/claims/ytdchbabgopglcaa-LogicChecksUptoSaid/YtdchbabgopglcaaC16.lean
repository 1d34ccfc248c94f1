/- Lemmas. -/
import Derived.Test.YtdchbabgopglcaaC15
import Derived.Test.YtdchbabgopglcaaC14
namespace Go.Proofs.Ytdchbabgopglcaa.M
open Go.RowKit
def AOp.isCopy:AOp→Bool
 |.copyS .. => true
 |_=>false
def AOp.isCopyF:AOp→Bool
 |.copyF .. => true
 |_=>false
def AOp.isLent:AOp→Bool
 |.callL .. => true
 |_=>false
def gZ (ap:List (Nat×Nat)) (c1 c2:COp):Bool:=
 (c1.op.kind≤1&&c2.op.kind≤3)||((c1.op.kind == 2||c1.op.kind == 3)&&c2.op.kind == 0)||(c1.op.kind == 2&&(c2.op.kind == 2&&(c1.dst.isSome&&c2.dst.isSome)))||(c1.op.kind == 0&&c2.op.kind == 4)||(c1.op.kind == 4&&c2.op.kind == 0) ||
  (
   match c1.op,c2.op with
   |.load _ _ (.t x),.store _ (.t y) _=>ap.contains (x,y)
   |_,_=>false)||(c1.op.kind == 6&&c2.op.kind≤1)||(c1.op.kind≤1&&c2.op.kind == 6)||(c1.op.kind == 6&&(c2.op.isCopyF&&(c1.dst.isSome&&c2.dst.isSome)))||(c1.op.isCopy&&(c2.op.kind == 2&&(c1.dst.isSome&&c2.dst.isSome)))
def gh (ap:List (Nat×Nat)) (c1 c2:COp):Bool:=
 (match c1.dst with | some t => !c2.reads.contains t&&c2.dst != some t | none=>true) &&
 (match c2.dst with | some t => !c1.reads.contains t | none=>true) &&
 (gZ ap c1 c2||(c1.op.kind == 0&&c2.op.isLent))
def COp.alc (c:COp):Bool:=c.guard.isNone&&match c.op with
 |.alloc .. => true
 |.box .. => true
 |_=>false
def dM (ap:List (Nat×Nat)) (c:COp):Bool:=ap.isEmpty||(c.op.kind != 5)&&match c.dst with
 |some t=>ap.all fun p=>p.1 != t&&(p.2 != t||c.alc)
 |none=>true
def em (ap:List (Nat×Nat)) (r:Nat→AV):Bool:=ap.all fun p=>dJ (r p.1) (r p.2)
section
variable {G:FuncId→List D→D→Prop}{c c1 c2:COp}{K K':St→Prop}{s:St}{r r':Nat→AV}{m m':Mem}{v:AV}{ap:List (Nat×Nat)}
theorem ch.cases_ (h:ch G c r m v m'):Out G c r m v m'∧(∀m2 v2 m2',Out G c r m2 v2 m2'→ch G c r m2 v2 m2')∨(v = .p (.tup [])∧m'=m∧∀m2,ch G c r m2 (.p (.tup [])) m2):=by
 unfold ch at h ⊢;cases hg:c.guard with
 |none=>rw[hg] at h;exact .inl ⟨h,fun _ _ _ h=>h⟩
 |some x =>
  obtain⟨g,want⟩:=x;rw[hg] at h;simp only at h ⊢;rcases h with⟨b,hb,h1 | h1⟩ | ⟨hb,h1,h2⟩
  ·exact .inl ⟨h1.2,fun m2 v2 m2' ho => .inl ⟨b,hb,.inl ⟨h1.1,ho⟩⟩⟩
  ·exact .inr ⟨h1.2.1,h1.2.2,fun m2 => .inl ⟨b,hb,.inr (by simp[h1.1])⟩⟩
  ·exact .inr ⟨h1,h2,fun m2 => .inr ⟨hb,by simp⟩⟩
theorem Out.le1 (hk:c.op.kind≤1) (h:Out G c r m v m'):m'=m∧∀m2,(∀i o,m i=some o→m2 i=some o)→Out G c r m2 v m2:=by
 rcases (by omega:c.op.kind=0∨c.op.kind=1) with h0 | h1
 ·exact⟨(h.pure h0).1,fun m2 _=>(h.pure h0).2 m2⟩
 ·exact h.read h1
theorem i9 {m:Mem}{i:Nat}{o:AObj} (h:m i=none):∀j q,m j=some q→upd m i (some o) j=some q:=by
 intro j q hq;rw[aA];exact hq;rintro rfl;rw[h] at hq;cases hq
theorem Out.copied (hc:c.op.isCopy=true) (h:Out G c r m v m'):m (c.dst.getD 0)=none∧∃ob,m'=upd m (c.dst.getD 0) (some ob)∧∀m2:Mem,m2 (c.dst.getD 0)=none→(∀i o,m i=some o→m2 i=some o)→Out G c r m2 v (upd m2 (c.dst.getD 0) (some ob)):=by
 unfold Out at *;cases hop:c.op<;>simp only[hop,AOp.isCopy,reduceCtorEq] at hc h ⊢
 case copyS T sz b y =>
  obtain⟨t,h1,rfl⟩:=bP h;simp only[ev] at h1 ⊢;split at h1
  case h_2=>cases h1
  rename_i ys hid hys;simp only[Option.some.injEq,Prod.mk.injEq] at h1;obtain⟨h2,rfl,rfl⟩:=h1;refine⟨hid,_,rfl,fun m2 hm2 hmore => ?_⟩;have he:bx sz m2 (y.ev r)=some ys:=by
   revert hys
   unfold bx;split
   ·rename_i j off n _;split
    ·rename_i T' sz' l fr hm;rw[hmore _ _ hm];exact id
    ·intro h;cases h
   ·exact id
   ·exact id
   ·exact id
  rw[hm2,he];simp only;rw[h2];rfl
theorem Out.wide (hk:c.op.kind=6) (h:Out G c r m v m'):m'=m∧∀m2:Mem,(∀i o,m i=some o→m2 i=some o)→(∀i o,m2 i=some o→o.frz=true∨m i=some o)→Out G c r m2 v m2:=by
 unfold Out at *;cases hop:c.op<;>simp only[hop,AOp.kind,reduceCtorEq] at hk h ⊢<;>try omega
 obtain⟨ds,d,h1,h2,h3,h4,rfl⟩:=h;refine⟨rfl,fun m2 hm hf=>⟨ds,d,kt hm _ _ h1,fun i o ho => ?_,h3,by first | exact h4 | exact⟨h4,rfl⟩ | exact⟨h4,trivial⟩⟩⟩;rcases hf i o ho with e | e
 ·exact .inl e
 ·exact h2 i o e
theorem Out.copiedF (hc:c.op.isCopyF=true) (h:Out G c r m v m'):m (c.dst.getD 0)=none∧∃ob:AObj,m'=upd m (c.dst.getD 0) (some ob)∧ob.frz=true∧True:=by
 unfold Out at *;cases hop:c.op<;>simp only[hop,AOp.isCopyF,reduceCtorEq] at hc h ⊢
 case copyF T sz b y =>
  obtain⟨t,h1,rfl⟩:=bP h;simp only[ev] at h1;split at h1
  ·cases h1
  split at h1
  case h_2=>cases h1
  rename_i ys hid hys;simp only[Option.some.injEq,Prod.mk.injEq] at h1;obtain⟨h2,rfl,rfl⟩:=h1;exact⟨hid,_,rfl,rfl,trivial⟩
theorem rF {m1 m2:Mem}{v1 v2:AV} (hd1:∀t,c1.dst=some t→c2.dst≠some t) (hs:gZ ap c1 c2=true) (ha:em ap r=true) (h1:ch G c1 r m v1 m1) (h2:ch G c2 r m1 v2 m2):∃m',ch G c2 r m v2 m'∧ch G c1 r m' v1 m2:=by
 rcases h1.cases_ with⟨o1,g1⟩ | ⟨rfl,rfl,g1⟩
 case inr=>exact⟨m2,h2,g1 m2⟩
 rcases h2.cases_ with⟨o2,g2⟩ | ⟨rfl,rfl,g2⟩
 case inr=>exact⟨m,g2 m,h1⟩
 simp only[gZ,Bool.and_eq_true,Bool.or_eq_true,decide_eq_true_eq,beq_iff_eq] at hs;obtain ((((((((hk | hk) | hk) | hk) | hk) | hk) | hk) | hk) | hk) | hk:=hs
 ·-- nothing is changed by the first
  obtain⟨rfl,q1⟩:=o1.le1 hk.1;rcases (by omega:c2.op.kind≤1∨c2.op.kind=2∨c2.op.kind=3) with hk2 | hk2 | hk2
  ·obtain⟨rfl,q2⟩:=o2.le1 hk2;exact⟨_,h2,h1⟩
  ·obtain⟨e,ob,rfl,-⟩:=o2.made hk2;exact⟨_,h2,g1 _ _ _ (q1 _ (i9 e))⟩
  ·obtain⟨e,ob,rfl⟩:=o2.built hk2;exact⟨_,h2,g1 _ _ _ (q1 _ (i9 e))⟩
 ·obtain⟨rfl,q2⟩:=o2.pure hk.2;exact⟨m,g2 _ _ _ (q2 m),h1⟩
 ·obtain⟨hk1,hk2,s1,s2⟩:=hk;obtain⟨e2,ob2,rfl,q2⟩:=o2.made hk2;have hne:c1.dst.getD 0≠c2.dst.getD 0:=by
   obtain⟨t1,h1'⟩:=Option.isSome_iff_exists.1 s1;obtain⟨t2,h2'⟩:=Option.isSome_iff_exists.1 s2;rw[h1',h2'];rintro e;simp only[Option.getD_some] at e;subst e;exact hd1 _ h1' h2'
  obtain⟨e1,ob1,rfl,q1⟩:=o1.made hk1;rw[aA _ _ hne.symm] at e2;refine⟨_,g2 _ _ _ (q2 m e2),?_⟩;rw[jQ _ _ _ hne];exact g1 _ _ _ (q1 _ (by rw[aA _ _ hne];exact e1))
 ·obtain⟨rfl,q1⟩:=o1.pure hk.1;exact⟨m2,h2,g1 _ _ _ (q1 m2)⟩
 ·obtain⟨rfl,q2⟩:=o2.pure hk.2;exact⟨m,g2 _ _ _ (q2 m),h1⟩
 ·split at hk
  ·rename_i ag sz x sz2 y z e1 e2;have hap:dJ (r x) (r y)=true:=by
    simp only[em,List.all_eq_true] at ha;exact ha (x,y) (by simpa using hk)
   obtain⟨rfl,-⟩:=o1.le1 (by rw[e1];simp[AOp.kind]);exact⟨m2,h2,g1 _ _ _ (Out.load_store e1 e2 hap o1 o2)⟩
  ·cases hk
 ·obtain⟨rfl,q1⟩:=o1.wide hk.1;obtain⟨rfl,q2⟩:=o2.le1 hk.2;exact⟨_,h2,h1⟩
 ·obtain⟨rfl,q1⟩:=o1.le1 hk.1;obtain⟨rfl,q2⟩:=o2.wide hk.2;exact⟨_,h2,h1⟩
 ·obtain⟨hk1,hk2,s1,s2⟩:=hk;obtain⟨rfl,q1⟩:=o1.wide hk1;obtain⟨e2,ob2,rfl,hf,q2⟩:=o2.copiedF hk2;refine⟨_,h2,g1 _ _ _ (q1 _ (fun i o ho => ?_) fun i o ho => ?_)⟩
  ·exact i9 e2 i o ho
  ·by_cases hi:i=c2.dst.getD 0
   ·subst hi;rw[aD] at ho;cases ho;exact .inl hf
   ·rw[aA _ _ hi] at ho;exact .inr ho
 ·obtain⟨hk1,hk2,s1,s2⟩:=hk;have hne:c1.dst.getD 0≠c2.dst.getD 0:=by
   obtain⟨t1,h1'⟩:=Option.isSome_iff_exists.1 s1;obtain⟨t2,h2'⟩:=Option.isSome_iff_exists.1 s2;rw[h1',h2'];rintro e;simp only[Option.getD_some] at e;subst e;exact hd1 _ h1' h2'
  obtain⟨e2,ob2,rfl,q2⟩:=o2.made hk2;obtain⟨e1,ob1,rfl,q1⟩:=o1.copied hk1;rw[aA _ _ hne.symm] at e2;refine⟨_,g2 _ _ _ (q2 m e2),?_⟩;rw[jQ _ _ _ hne];exact g1 _ _ _ (q1 _ (by rw[aA _ _ hne];exact e1) (i9 e2))
theorem gi {t:Option Nat}{n:Nat} (h:∀k,t=some k→k≠n) (r:Nat→AV) (v:AV):bn r t v n=r n:=by
 cases t with
 |none=>rfl
 |some k=>exact aA _ _ (h k rfl).symm
theorem mN (hs:gZ ap c1 c2=true):c1.op.kind≠5∧c2.op.kind≠5:=by
 simp only[gZ,Bool.and_eq_true,Bool.or_eq_true,decide_eq_true_eq,beq_iff_eq] at hs;obtain ((((((((hk | hk) | hk) | hk) | hk) | hk) | hk) | hk) | hk) | hk:=hs
 ·exact⟨by omega,by omega⟩
 ·exact⟨by omega,by omega⟩
 ·exact⟨by omega,by omega⟩
 ·exact⟨by omega,by omega⟩
 ·exact⟨by omega,by omega⟩
 ·split at hk
  ·rename_i e1 e2;rw[e1,e2];exact⟨by simp[AOp.kind],by simp[AOp.kind]⟩
  ·cases hk
 ·exact⟨by omega,by omega⟩
 ·exact⟨by omega,by omega⟩
 ·refine⟨by omega,?_⟩;have:=hk.2.1;cases hc:c2.op<;>rw[hc] at this<;>simp[AOp.isCopyF,AOp.kind] at this ⊢
 ·refine⟨?_,by omega⟩;have:=hk.1;cases hc:c1.op<;>rw[hc] at this<;>simp[AOp.isCopy,AOp.kind] at this ⊢
theorem mO {d:D}:∀(k:Nat) (l:List Opd),(∀x∈l,x.ev r=x.ev r')→df ⟨r,m⟩ d k l=df ⟨r',m⟩ d k l
 |_,[],_=>by cases ‹Nat›<;>rfl
 |0,x::l,h=>by
  have:=fC (m:=m) l (fun y hy=>h y (by simp[hy]));simp only[df,this]
 |k+1,x::l,h=>by
  have h1:=h x (by simp);have:=mO (d:=d) k l (fun y hy=>h y (by simp[hy]));simp only[df,h1,this]
theorem rG {t:Option Nat} (hl:c.op.isLent=true) (hr:∀k,t=some k→k ∉ c.reads∧c.dst≠some k) (h:bF G c K ⟨bn r t v,m⟩) :
  bF G c (fun s'=>(∃v2,s'.r=bn r c.dst v2)∧K ⟨bn s'.r t v,s'.m⟩) ⟨r,m⟩:=by
 have hr1:∀n∈c.reads,bn r t v n=r n:=fun n hn=>gi (fun k hk e=>by subst e;exact (hr k hk).1 hn) r v
 have hput:∀(m':Mem) (u:AV),K ((⟨bn r t v,m'⟩:St).put c.dst u)→(∃v2,((⟨r,m'⟩:St).put c.dst u).r=bn r c.dst v2)∧K ⟨bn ((⟨r,m'⟩:St).put c.dst u).r t v,((⟨r,m'⟩:St).put c.dst u).m⟩:=fun m' u hk=>by
  rw[cX] at hk ⊢;refine⟨⟨u,rfl⟩,?_⟩;have:bn (bn r c.dst u) t v=bn (bn r t v) c.dst u:=by
   cases ht:t with
   |none=>rfl
   |some a =>
    cases hc:c.dst with
    |none=>rfl
    |some b=>exact jQ _ _ _ (fun e=>(hr a ht).2 (by rw[hc,e]))
  simp only;rw[this];exact hk
 have hstep:au G c K ⟨bn r t v,m⟩→au G c (fun s'=>(∃v2,s'.r=bn r c.dst v2)∧K ⟨bn s'.r t v,s'.m⟩) ⟨r,m⟩:=by
  intro h;cases hop:c.op<;>simp only[hop,AOp.isLent,reduceCtorEq] at hl
  rename_i f k args;have hev:∀x∈args,x.ev (bn r t v)=x.ev r:=kx args fun n hn=>hr1 n (by simp[COp.reads,hop,AOp.opds,hn])
  have hat:eB ⟨bn r t v,m⟩ k args=eB ⟨r,m⟩ k args:=by
   unfold eB;cases ha:args[k]? with
   |none=>rfl
   |some x=>exact hev x (List.mem_of_getElem? ha)
  simp only[au,hop,hat] at h ⊢;split at h
  case h_4=>exact h.elim
  case h_3 =>
   rw[fC args hev] at h;split at h
   case h_2=>exact h.elim
   obtain⟨q,h2,h3⟩:=h;exact⟨q,h2,hput _ _ h3⟩
  case h_2 =>
   rw[fC args hev] at h;split at h
   case h_2=>exact h.elim
   obtain⟨q,l',h2,h3⟩:=h;exact⟨q,l',h2,hput _ _ h3⟩
  split at h
  case h_2=>exact h.elim
  rename_i T sz l _;rw[mO (r':=r) k args hev] at h;split at h
  case h_2=>exact h.elim
  obtain⟨h1,q,l',h2,h3⟩:=h;exact⟨h1,q,l',h2,hput _ _ h3⟩
 unfold bF at h ⊢;split at h
 ·rename_i hg;exact hstep h
 ·rename_i g want hg;have hgr:bn r t v g=r g:=hr1 g (by simp[COp.reads,hg]);simp only[hgr] at h;split at h
  ·rename_i b hb;simp only[hb];split at h
   ·rename_i hbw;rw[if_pos hbw];exact hstep h
   ·rename_i hbw;rw[if_neg hbw];exact hput _ _ h
  ·rename_i hb;simp only[hb];exact hput _ _ h
  ·exact h.elim
theorem rH (hs:gh ap c1 c2=true) (ha:em ap s.r=true) (h:bF G c1 (bF G c2 K) s):bF G c2 (bF G c1 K) s:=by
 obtain⟨r,m⟩:=s;simp only[gh,Bool.and_eq_true,Bool.or_eq_true] at hs;obtain⟨⟨hd1,hd2⟩,hs | hs⟩:=hs
 case inr =>
  obtain⟨h0,hl⟩:=hs;simp only[beq_iff_eq] at h0;obtain⟨v1,m1,h1,h2⟩:=(eJ (by omega)).1 h;obtain⟨rfl,hall⟩:m1=m∧∀m2,ch G c1 r m2 v1 m2:=by
   rcases h1.cases_ with⟨o1,g1⟩ | ⟨rfl,rfl,g1⟩
   ·obtain⟨rfl,q1⟩:=o1.pure h0;exact⟨rfl,fun m2=>g1 _ _ _ (q1 m2)⟩
   ·exact⟨rfl,g1⟩
  refine kv (rG hl (fun k hk => ?_) h2) fun t ht => ?_
  ·rw[hk] at hd1;simp at hd1;exact hd1
  ·obtain⟨⟨v2,e⟩,hK⟩:=ht;refine (eJ (by omega)).2 ⟨v1,t.m,(hall t.m).congr fun n hn => ?_,hK⟩;rw[e];refine (gi (fun k hk e2 => ?_) r v2).symm;subst e2;rw[hk] at hd2;simp at hd2;exact hd2 hn
 have k1:=(mN hs).1;have k2:=(mN hs).2;obtain⟨v1,m1,h1,h2⟩:=(eJ k1).1 h;obtain⟨v2,m2,h3,h4⟩:=(eJ k2).1 h2;have e1:∀n∈c2.reads,bn r c1.dst v1 n=r n:=fun n hn=>gi (fun k hk e=>by
  subst e;rw[hk] at hd1;simp at hd1;exact hd1.1 hn) r v1
 have e2:∀n∈c1.reads,r n=bn r c2.dst v2 n:=fun n hn=>(gi (fun k hk e=>by
  subst e;rw[hk] at hd2;simp at hd2;exact hd2 hn) r v2).symm
 obtain⟨m',g1,g2⟩:=rF (fun t ht=>by rw[ht] at hd1;simp at hd1;exact hd1.2) hs ha h1 (h3.congr e1);refine (eJ k2).2 ⟨v2,m',g1,(eJ k1).2 ⟨v1,m2,g2.congr e2,?_⟩⟩;have:bn (bn r c2.dst v2) c1.dst v1=bn (bn r c1.dst v1) c2.dst v2:=by
  cases hc1:c1.dst with
  |none=>rfl
  |some t1 =>
   cases hc2:c2.dst with
   |none=>rfl
   |some t2 =>
    rw[hc1] at hd1;exact jQ _ _ _ (fun e=>by subst e;simp[hc2] at hd1)
 rw[this];exact h4
def ApI (al:Nat→Prop) (ap:List (Nat×Nat)) (r:Nat→AV):Prop:=em ap r=true∧∀p∈ap,al p.2→∀j o,r p.1≠.ptr p.2 j o
theorem rI (ha:c.alc=true) (h:ch G c r m v m'):v = .ptr (c.dst.getD 0) 0 0:=by
 simp only[COp.alc,Bool.and_eq_true,Option.isNone_iff_eq_none] at ha;obtain⟨h1,h2⟩:=ha;unfold ch at h;rw[h1] at h;unfold Out at h;cases hc:c.op<;>rw[hc] at h h2<;>first | (simp at h2;done) | skip
 case alloc T sz z =>
  obtain⟨t,h3,-⟩:=bP h;simp only[ev] at h3;split at h3
  ·simp only[Option.some.injEq,Prod.mk.injEq,true_and] at h3;exact h3.1.symm
  ·cases h3
 case box T sz x =>
  obtain⟨t,h3,-⟩:=bP h;simp only[ev] at h3;split at h3
  ·split at h3
   ·simp only[Option.some.injEq,Prod.mk.injEq,true_and] at h3;exact h3.1.symm
   ·cases h3
  ·cases h3
theorem rJ {a b:AV} (h:dJ a b=true):(∃i j o,a = .ptr i j o)∨∃d,a = .p (.ref d):=by
 unfold dJ at h;split at h
 ·exact .inl ⟨_,_,_,rfl⟩
 ·exact .inr ⟨_,rfl⟩
 ·exact .inl ⟨_,_,_,rfl⟩
 ·exact .inr ⟨_,rfl⟩
 ·cases h
theorem rK {al:Nat→Prop} (hf:dM ap c=true) (hal:c.alc=true→∀t,c.dst=some t→al t) (ha:ApI al ap r) (v:AV) (hv:c.alc=true→v = .ptr (c.dst.getD 0) 0 0):ApI al ap (bn r c.dst v):=by
 obtain⟨ha,hi⟩:=ha;simp only[em,List.all_eq_true] at ha;have hx:∀p∈ap,bn r c.dst v p.1=r p.1:=fun p hp=>gi (fun k hk e=>by
  subst e;have hne:ap.isEmpty=false:=by cases ap with
   |nil=>cases hp
   |cons=>rfl
  simp only[dM,hne,hk,Bool.false_or,Bool.and_eq_true,List.all_eq_true] at hf;have:=(hf.2 p hp).1;simp at this) r v
 refine⟨?_,fun p hp hal' j o=>by rw[hx p hp];exact hi p hp hal' j o⟩;simp only[em,List.all_eq_true];intro p hp;rw[hx p hp];have hne:ap.isEmpty=false:=by cases ap with
  |nil=>cases hp
  |cons=>rfl
 by_cases hd:c.dst=some p.2
 ·have hf':=hf;simp only[dM,hne,hd,Bool.false_or,Bool.and_eq_true,List.all_eq_true] at hf';have h2:=(hf'.2 p hp).2;simp only[bne_self_eq_false,Bool.false_or] at h2;have hv':=hv h2;rw[hd] at hv' ⊢;simp only[Option.getD_some] at hv';rw[hv'];show dJ (r p.1) (upd r p.2 _ p.2)=true
  rw[aD];rcases rJ (ha p hp) with⟨i,j,o,e⟩ | ⟨d,e⟩
  ·have:=hi p hp (hal h2 _ hd);rw[e] at this ⊢;simp only[dJ,bne_iff_ne,ne_eq];rintro rfl;exact this j o rfl
  ·rw[e];rfl
 ·rw[gi (fun k hk e=>hd (by rw[hk,e])) r v];exact ha p hp
theorem mP {al:Nat→Prop} (hf:dM ap c=true) (hal:c.alc=true→∀t,c.dst=some t→al t) (ha:ApI al ap s.r) (h:bF G c K s):bF G c (fun t=>ApI al ap t.r∧K t) s:=by
 obtain⟨r,m⟩:=s;cases hap:ap with
 |nil=>exact kv h fun t ht=>⟨⟨rfl,by simp⟩,ht⟩
 |cons p q =>
  have k:c.op.kind≠5:=by
   simp only[dM,hap,List.isEmpty_cons,Bool.false_or,Bool.and_eq_true,bne_iff_ne,ne_eq] at hf;exact hf.1
  obtain⟨v,m',h1,h2⟩:=(eJ k).1 h;exact (eJ k).2 ⟨v,m',h1,hap ▸ rK hf hal ha v (fun hc=>rI hc h1),h2⟩
theorem mQ {al:Nat→Prop}:∀(l1 l2:List COp) (s:St),(∀c'∈l1,gh ap c' c=true∧dM ap c'=true∧(c'.alc=true→∀t,c'.dst=some t→al t))→ApI al ap s.r→bl G (l1++c::l2) K s→bF G c (bl G (l1++l2) K) s
 |[],_,_,_,_,h=>h
 |c'::l1,l2,s,hl,ha,h=>by
  have hc':=hl c' (by simp);have h1:bF G c' (bl G (l1++c::l2) K) s:=h;have h2:bF G c' (bF G c (bl G (l1++l2) K)) s:=kv (mP hc'.2.1 hc'.2.2 ha h1) fun t ht=>mQ l1 l2 t (fun q hq=>hl q (by simp[hq])) ht.1 ht.2
  exact rH hc'.1 ha.1 h2
theorem ky {i j:Nat}{o:AObj} (hi:m i≠none):upd m j (some o) i≠none:=by
 unfold upd;split<;>simp_all
theorem Out.dom (hk:c.op.kind≠5) (h:Out G c r m v m'){i:Nat} (hi:m i≠none):m' i≠none:=by
 rcases (by omega:c.op.kind≤1∨c.op.kind=2∨c.op.kind=3∨c.op.kind=4∨5<c.op.kind) with h0 | h0 | h0 | h0 | h0
 ·rw[(h.le1 h0).1];exact hi
 ·obtain⟨-,ob,rfl,-⟩:=h.made h0;exact ky hi
 ·obtain⟨-,ob,rfl⟩:=h.built h0;exact ky hi
 ·unfold Out at h;cases hc:c.op<;>rw[hc] at h h0<;>first | (simp[AOp.kind] at h0;done) | skip
  case store sz x z =>
   obtain⟨t,g1,rfl⟩:=bP h;simp only[ev] at g1;(repeat' split at g1)<;>first | (cases g1;done) | (simp only[Option.some.injEq,Prod.mk.injEq] at g1;obtain⟨-,-,rfl⟩:=g1;exact ky hi)
 ·have h6:c.op.kind=6:=by revert h0;cases c.op<;>simp[AOp.kind]
  rw[(h.wide h6).1];exact hi
theorem mR:∀(l:List COp) (s:St),(∀c∈l,c.op.kind≠5)→bl G l K s→∀c∈l,c.alc=true→∀t,c.dst=some t→s.m t=none
 |[],_,_,_,c,hc,_,_,_=>by cases hc
 |c'::l,⟨r,m⟩,hk,h,c,hc,ha,t,ht=>by
  have k:=hk c' (by simp);have h1:bF G c' (bl G l K) ⟨r,m⟩:=h;obtain⟨v,m',h2,h3⟩:=(eJ k).1 h1;have hdom:∀i,m i≠none→m' i≠none:=fun i hi=>by
   rcases h2.cases_ with⟨o,-⟩ | ⟨-,rfl,-⟩
   ·exact o.dom k hi
   ·exact hi
  rcases List.mem_cons.1 hc with rfl | hc
  ·refine Classical.byContradiction fun hn => ?_
   have hg:c.guard=none:=by
    simp only[COp.alc,Bool.and_eq_true,Option.isNone_iff_eq_none] at ha;exact ha.1
   have o:Out G c r m v m':=by unfold ch at h2;rwa[hg] at h2
   have k2:c.op.kind=2:=by
    simp only[COp.alc,Bool.and_eq_true] at ha;have:=ha.2;cases hc:c.op<;>rw[hc] at this<;>first | rfl | (simp at this;done)
   have:=(o.made k2).1;rw[ht] at this;exact hn this
  ·refine Classical.byContradiction fun hn => ?_
   exact absurd (mR l _ (fun q hq=>hk q (by simp[hq])) h3 c hc ha t ht) (hdom t hn)
end
end Go.Proofs.Ytdchbabgopglcaa.M
namespace Go.Proofs.Ytdchbabgopglcaa
open Go.RowKit
set_option maxRecDepth 100000
set_option maxHeartbeats 1000000
def bT (t:List UInt8):Bool:=(ar true t).2&&decide (t.length≤(ar true t).1)
def dz (t:List UInt8):Int:=sg (aH t) (aG (body t))
def parseZ (t:List UInt8):Int:=if bT t then (if (body t).length≤1000 then dz t else 0) else 0
def cA (t:List UInt8):Int:=if bT t then (if (body t).length≤1000 then 0 else 2) else 1
def dP (t:List UInt8):Int:=if bT t then 0 else (ar true t).1
theorem fL (t:List UInt8):(body t).length=t.length-(if aH t then 1 else 0):=by
 unfold body;split<;>simp
theorem kO {t:List UInt8} (h:aH t=true):1≤t.length:=by
 rcases Nat.eq_zero_or_pos t.length with h0 | h0
 ·rw[List.eq_nil_of_length_eq_zero h0] at h;cases h
 ·exact h0
theorem nW {l:List UInt8} (h:l.length≤bH l):∀j,j<l.length→48≤byt l j∧byt l j≤57:=by
 induction l with
 |nil=>intro j hj;simp at hj
 |cons c t ih =>
  have hd:eF c=true:=by
   cases hc:eF c
   ·simp[bH,hc] at h
   ·rfl
  have ht:t.length≤bH t:=by simpa[bH,hd] using h
  intro j hj
  match j with
  |0=>rw[eG];unfold eF at hd;simpa using hd
  |j+1=>rw[km];exact ih ht j (by simpa using hj)
structure Canon (l:List UInt8):Prop where
 digs:∀j,j<l.length→48≤byt l j∧byt l j≤57
 pos:0<l.length
 lead:byt l 0=48→l.length=1
theorem jq {t:List UInt8} (h:bT t=true):Canon (body t)∧(aH t=true→byt (body t) 0≠48):=by
 unfold bT at h;rw[Bool.and_eq_true,decide_eq_true_eq] at h;obtain⟨h1,h2⟩:=h;have hbd:∀f,(if true&&aH t then 1 else 0)=f→t.drop f=body t:=by
  intro f hf;subst hf;cases hn:aH t
  ·rw[gV hn];simp
  ·rw[iX hn];simp
 cases h48:((t.drop (if true&&aH t then 1 else 0)).head? == some 48)
 ·have hr:=dI (sg:=true) rfl h48 rfl;rw[hr] at h1 h2;rw[hbd _ rfl] at h48 h1 h2;simp only[decide_eq_true_eq] at h1 h2;have hb:=fL t;have hlen:(body t).length≤bH (body t):=by
   cases hn:aH t
   ·simp[hn] at hb h2;omega
   ·have:=kO hn;simp[hn] at hb h2;omega
  have hpos:0<(body t).length:=by have:=qY (body t);omega
  have hne:byt (body t) 0≠48:=by
   intro e
   match hbt:body t,hpos with
   |c::r,_ =>
    rw[hbt] at e h48;rw[eG] at e;have:c=48:=UInt8.toNat_inj.1 e;subst this;simp at h48
  exact⟨⟨nW hlen,hpos,fun e=>absurd e hne⟩,fun _=>hne⟩
 ·have hr:=eH (sg:=true) rfl h48;cases hn:aH t
  ·rw[hr] at h1 h2;simp[hn] at h1 h2;simp[hn] at h48;rw[gV hn]
   match t,h2,h48 with
   |[c],_,h48 =>
    simp at h48;subst h48;refine⟨⟨fun j hj => ?_,by simp,fun _=>rfl⟩,fun h=>by cases h⟩
    match j,hj with
    |0,_=>rw[eG];decide
  ·rw[hr] at h1;simp[hn] at h1
theorem jr {t:List UInt8} (h:∀j,j<t.length→48≤byt t j∧byt t j≤57):0≤aG t∧aG t<10^t.length:=by
 have:∀n,n≤t.length→0≤aG (t.take n)∧aG (t.take n)<10^n:=by
  intro n;induction n with
  |zero=>intro _;simp[aG]
  |succ n ih =>
   intro hn;have h1:=ih (by omega);have h2:=h n (by omega);rw[jH (by omega),Int.pow_succ];omega
 have:=this t.length (Nat.le_refl _)
 rwa[List.take_of_length_le (Nat.le_refl _)] at this
theorem BJ (n:Nat):(10:Nat)^n≤2^(4*n):=by
 rw[Nat.pow_mul];exact Nat.pow_le_pow_left (by omega) n
theorem BK {t:List UInt8} (h:∀j,j<t.length→48≤byt t j∧byt t j≤57):Bt (aG t) (4*t.length):=by
 have h1:=jr h;have h2:=BJ t.length;have e:(10:Int)^t.length=((10^t.length:Nat):Int):=by rw[Int.natCast_pow];rfl
 rw[e] at h1;unfold Bt;omega
theorem BL {n:Bool}{z:Int}{k:Nat} (h:Bt z k):Bt (sg n z) k:=h.le (by rw[fx];exact Nat.le_refl _)
theorem nX {t:List UInt8} (h:bT t=true):Bt (dz t) (4*(body t).length):=BL (BK (jq h).1.digs)
theorem cp (t:List UInt8):Bt (parseZ t) 4000:=by
 unfold parseZ;split
 ·rename_i h;split
  ·rename_i hl;exact (nX h).mono (by omega)
  ·exact fw _
 ·exact fw _
def BM (w:World) (z c p:Int) (e:Ending) (w':World):Prop:=
 ∃x:IV,e = .returned (.tuple #[.agg #[.bool x.n,.slice x.s.a x.s.len x.s.cap],.agg #[.int .i64 c,.int .i64 p]])∧IsI w' x z∧Ext w w'
theorem BN (t:List UInt8) (w:World) (hs:t.length≤9223372036854775807) :
  Calls Try.prog 33 #[.string (bs t)] w (BM w (parseZ t) (cA t) (dP t)):=by
 have hle:=i4 true t;have he0:=((Ext.rf w).al (Obj.cells #[Value.bool false,Value.slice none 0 0] 62)).al (Obj.cells #[Value.int .i64 0,Value.int .i64 0] 28);by_cases h1:(ar true t).2=true
 ·by_cases h2:(ar true t).1<t.length
  ·have hok:bT t=false:=by simp[bT];intro _;omega
   have HZ:Hd (parseZ t=0):=hd_ (by simp[parseZ,hok]);have HC:Hd (cA t=1):=hd_ (by simp[cA,hok]);have HP:Hd (dP t=(ar true t).1):=hd_ (by simp[dP,hok]);clear hok;go_enter Try.func33,Try.ntmps33;go_wp2_with (go_at_call 31;((with_reducible refine (iZ _ _ _ hs).mono ?_);rintro e w1 ⟨rfl,hx⟩;obtain⟨hc1,hf1⟩:=cU hx));have k0:w1.cell? ⟨w.heap.size,0,none⟩=some (Value.bool false):=cell_later hx (by simp[go_sem]);have k1:w1.cell? ⟨w.heap.size,1,none⟩=some (Value.slice none 0 0):=cell_later hx (by simp[go_sem]);have k2:w1.cell? ⟨w.heap.size+1,0,none⟩=some (Value.int .i64 0):=cell_later hx (by simp[go_sem]);have k3:w1.cell? ⟨w.heap.size+1,1,none⟩=some (Value.int .i64 0):=cell_later hx (by simp[go_sem]);refine bodyPost_ret (v:=.tuple #[.agg #[.bool false,.slice none 0 0],.agg #[.int .i64 1,.int .i64 ((ar true t).1:Int)]]) (by simp[results,Try.results33,go_sem,k0,k1,k2,k3]) rfl ?_;rw[HC.out,HP.out,HZ.out];exact⟨⟨false,⟨none,0,0⟩⟩,rfl,jn _,(((he0.tr hx).st2 (by simp) _ _).st2 (by simp) _ _)⟩
  ·have hok:bT t=true:=by simp[bT,h1];omega
   have hcan:=(jq hok).1;have hbl:=fL t;by_cases h3:(body t).length≤1000
   ·have HZ:Hd (parseZ t=dz t):=hd_ (by simp[parseZ,hok,h3]);have HC:Hd (cA t=0):=hd_ (by simp[cA,hok,h3]);have HP:Hd (dP t=0):=hd_ (by simp[dP,hok]);have HS:Hd (Sm (dz t)):=hd_ ((nX hok).sm (by omega));have hlb:Hd ((decide ((body t).length<t.length))=aH t):=hd_ (by
     cases hn:aH t
     ·rw[hn] at hbl;simp at hbl;simp;omega
     ·have:=kO hn;rw[hn] at hbl;simp at hbl;simp;omega)
    replace hcan:=hd_ hcan;clear hok hbl;go_enter Try.func33,Try.ntmps33;go_wp2_with (first
     |(go_at_call 31;((with_reducible refine (iZ _ _ _ hs).mono ?_);rintro e w1 ⟨rfl,hx⟩;obtain⟨hc1,hf1⟩:=cU hx))
     |(go_at_call 32;((with_reducible refine (mw _ _ hs).mono ?_);rintro e w2 ⟨rfl,rfl⟩))
     |(go_at_call 45;((with_reducible refine (M2 _ _ (by omega) hcan.out.digs).mono ?_);rintro e w2 ⟨s2,l2,rfl,hl2,hv2,hx2⟩)))
    have hE:sg (decide ((body t).length<t.length)) (valL l2)=dz t:=by rw[hlb.out,hv2];rfl
    refine (made_any _ s2 l2 _ hl2 (by rw[hE];exact HS.out)).mono ?_;rintro e w3 ⟨y,rfl,hy,hx3⟩;rw[hE] at hy;clear hE hc1 hf1;replace hx:=(hx.tr hx2).tr hx3;clear hx2 hx3 hl2;obtain⟨hc1,hf1⟩:=cU hx;obtain⟨w1,rfl⟩:∃w1,w1=w3:=⟨_,rfl⟩
    have k0:w1.cell? ⟨w.heap.size,0,none⟩=some (Value.bool false):=cell_later hx (by simp[go_sem]);have k1:w1.cell? ⟨w.heap.size,1,none⟩=some (Value.slice none 0 0):=cell_later hx (by simp[go_sem]);have k2:w1.cell? ⟨w.heap.size+1,0,none⟩=some (Value.int .i64 0):=cell_later hx (by simp[go_sem]);have k3:w1.cell? ⟨w.heap.size+1,1,none⟩=some (Value.int .i64 0):=cell_later hx (by simp[go_sem]);go_wp2;refine bodyPost_ret (v:=.tuple #[.agg #[.bool y.n,.slice y.s.a y.s.len y.s.cap],.agg #[.int .i64 0,.int .i64 0]]) (by simp[results,Try.results33,go_sem,k0,k1,k2,k3]) rfl ?_;rw[HC.out,HP.out,HZ.out];exact⟨y,rfl,hy.kept ((((aZ.rf _ _).st2 (T':=62) (Ty.keep ((Ty.new' (by simp)).al _) hx) (by decide) _ _)).st2 (T':=28) (((Ty.keep (Ty.new' (by simp)) hx).st _ _).st _ _) (by decide) _ _),(((he0.tr hx).st2 (by simp) _ _).st2 (by simp) _ _)⟩
   ·have HZ:Hd (parseZ t=0):=hd_ (by simp[parseZ,hok,h3]);have HC:Hd (cA t=2):=hd_ (by simp[cA,hok,h3]);have HP:Hd (dP t=0):=hd_ (by simp[dP,hok]);clear hok hcan hbl;go_enter Try.func33,Try.ntmps33;go_wp2_with (first
     |(go_at_call 31;((with_reducible refine (iZ _ _ _ hs).mono ?_);rintro e w1 ⟨rfl,hx⟩;obtain⟨hc1,hf1⟩:=cU hx))
     |(go_at_call 32;((with_reducible refine (mw _ _ hs).mono ?_);rintro e w2 ⟨rfl,rfl⟩)))
    have k0:w1.cell? ⟨w.heap.size,0,none⟩=some (Value.bool false):=cell_later hx (by simp[go_sem]);have k1:w1.cell? ⟨w.heap.size,1,none⟩=some (Value.slice none 0 0):=cell_later hx (by simp[go_sem]);have k2:w1.cell? ⟨w.heap.size+1,0,none⟩=some (Value.int .i64 0):=cell_later hx (by simp[go_sem]);have k3:w1.cell? ⟨w.heap.size+1,1,none⟩=some (Value.int .i64 0):=cell_later hx (by simp[go_sem]);refine bodyPost_ret (v:=.tuple #[.agg #[.bool false,.slice none 0 0],.agg #[.int .i64 2,.int .i64 0]]) (by simp[results,Try.results33,go_sem,k0,k1,k2,k3]) rfl ?_;rw[HC.out,HP.out,HZ.out];exact⟨⟨false,⟨none,0,0⟩⟩,rfl,jn _,(((he0.tr hx).st2 (by simp) _ _).st2 (by simp) _ _)⟩
 ·have hok:bT t=false:=by simp[bT,h1]
  have HZ:Hd (parseZ t=0):=hd_ (by simp[parseZ,hok]);have HC:Hd (cA t=1):=hd_ (by simp[cA,hok]);have HP:Hd (dP t=(ar true t).1):=hd_ (by simp[dP,hok]);replace h1:(ar true t).2=false:=by simpa using h1
  clear hok;go_enter Try.func33,Try.ntmps33;go_wp2_with (go_at_call 31;((with_reducible refine (iZ _ _ _ hs).mono ?_);rintro e w1 ⟨rfl,hx⟩;obtain⟨hc1,hf1⟩:=cU hx));have k0:w1.cell? ⟨w.heap.size,0,none⟩=some (Value.bool false):=cell_later hx (by simp[go_sem]);have k1:w1.cell? ⟨w.heap.size,1,none⟩=some (Value.slice none 0 0):=cell_later hx (by simp[go_sem]);have k2:w1.cell? ⟨w.heap.size+1,0,none⟩=some (Value.int .i64 0):=cell_later hx (by simp[go_sem]);have k3:w1.cell? ⟨w.heap.size+1,1,none⟩=some (Value.int .i64 0):=cell_later hx (by simp[go_sem]);refine bodyPost_ret (v:=.tuple #[.agg #[.bool false,.slice none 0 0],.agg #[.int .i64 1,.int .i64 ((ar true t).1:Int)]]) (by simp[results,Try.results33,go_sem,k0,k1,k2,k3]) rfl ?_;rw[HC.out,HP.out,HZ.out];exact⟨⟨false,⟨none,0,0⟩⟩,rfl,jn _,(((he0.tr hx).st2 (by simp) _ _).st2 (by simp) _ _)⟩
structure Only (b:Nat) (w w':World):Prop where
 os:w'.os=w.os
 tape:w'.tape=w.tape
 output:w'.output=w.output
 size:w.heap.size≤w'.heap.size
 block:∀k,k≠b→k<w.heap.size→w'.heap[k]? = w.heap[k]?
theorem Only.rf (b:Nat) (w:World):Only b w w:=⟨rfl,rfl,rfl,Nat.le_refl _,fun _ _ _=>rfl⟩
theorem Only.st {b:Nat}{w w':World} (h:Only b w w') (i:Nat) (u:Value):Only b w (w'.setCell ⟨b,i,none⟩ u):=by
 refine⟨h.os,h.tape,h.output,?_,fun k hk hl=>(Below.heap_setCell w' _ u k hk).trans (h.block k hk hl)⟩;have:=h.size;simpa[World.setCell] using this
theorem Only.ext {b:Nat}{a w w':World} (h:Only b w w') (e:Ext a w) (hb:a.heap.size≤b):Ext a w':=
 ⟨h.os.trans e.os,h.tape.trans e.tape,h.output.trans e.output,Nat.le_trans e.size h.size,fun k hk=>(h.block k (by omega) (Nat.lt_of_lt_of_le hk e.size)).trans (e.block k hk)⟩
theorem Own.only {b c:Nat}{w w':World}{T:TypeId}{k:IntKind}{l:List Int} (h:Own w b T k l) (e:Only c w w') (hne:b≠c):Own w' b T k l:=(e.block b hne h.lt).trans h
theorem OG {x:Int} (h:0≤x∧x≤18446744073709551615):bits BinOp.and IntKind.u64 x 4294967295=x % 4294967296:=by
 rw[u64_and _ _ (by omega) (by omega) (by omega) (by omega)];obtain⟨n,rfl⟩:=Int.eq_ofNat_of_zero_le h.1;have e:((n:Int).toNat &&& (4294967295:Int).toNat)=n % 4294967296:=Nat.and_two_pow_sub_one_eq_mod n 32;rw[e];omega
theorem OH {u c b:Int} (hu:0≤u∧u≤4294967295) (hc:0≤c∧c≤18446744073709551615) (hb:0≤b∧b≤1) :
  IntKind.u64.wrap (IntKind.u64.wrap (u-bits BinOp.and IntKind.u64 c 4294967295)-b) % 4294967296=(u-c % 4294967296-b) % 4294967296 ∧
  IntKind.u64.wrap (IntKind.u64.wrap (u-bits BinOp.and IntKind.u64 c 4294967295)-b) / 9223372036854775808=bor u (c % 4294967296) b:=by
 rw[OG hc];have h:0≤c % 4294967296∧c % 4294967296≤4294967295:=by omega
 generalize c % 4294967296=d at *;rw[IntKind.wrap_u64,IntKind.wrap_u64];unfold bor;split<;>omega
theorem pW {u d b:Int} (hu:0≤u∧u≤4294967295) (hd:0≤d∧d≤4294967295) (hb:0≤b∧b≤1):(u-d-b) % 4294967296=u-d-b+4294967296*bor u d b:=by
 unfold bor;split<;>omega
theorem OI {V L0 u cc bb bo v g bj bk W d:Int} (h:V=L0+bj*(bk*(cc+bb)-g*W)) (hd:d=u-(cc+v*g) % 4294967296-bb+4294967296*bo) :
  V+(d-u)*(bj*bk)=L0+bj*(bk*4294967296*((cc+v*g) / 4294967296+bo)-g*(W+v*bk)):=by
 have h1:=Int.mul_ediv_add_emod (cc+v*g) 4294967296;generalize (cc+v*g) / 4294967296=q at *;generalize (cc+v*g) % 4294967296=s at *;subst h;subst hd;have e:s=cc+v*g-4294967296*q:=by omega
 subst e;grind
theorem OJ {V L0 u cc bb bo g bj bk W d:Int} (h:V=L0+bj*(bk*(cc+bb)-g*W)) (hd:d=u-cc-bb+4294967296*bo) :
  V+(d-u)*(bj*bk)=L0-bj*(g*W)+bj*(bk*4294967296)*bo:=by
 subst h;subst hd;grind
theorem OK {u c b:Int} (hu:0≤u∧u≤4294967295) (hc:0≤c∧c≤4294967295) (hb:0≤b∧b≤1) :
  IntKind.u64.wrap (IntKind.u64.wrap (u-c)-b) % 4294967296=(u-c-b) % 4294967296 ∧
  IntKind.u64.wrap (IntKind.u64.wrap (u-c)-b) / 9223372036854775808=bor u c b:=by
 rw[IntKind.wrap_u64,IntKind.wrap_u64];unfold bor;split<;>omega
theorem OL (u d b:Int):bor u d b=0∨bor u d b=1:=by unfold bor;split<;>simp
def OM (w:World) (b j n:Nat) (L:List Int) (z top:Int) (e:Ending) (w':World):Prop:=
 ∃(L':List Int) (c:Int),e = .returned (.bool (decide (0<c)))∧(c=0∨c=1)∧Own w' b 100 .u32 L'∧L'.length=L.length∧Dig L'∧(∀i,j+n<i→at_ L' i=at_ L i)∧valL L'=z+top*c∧Only b w w'
theorem lV (b j n bv cu cv:Nat) (L lv:List Int) (g:Int) (w:World) (hu:Own w b 100 .u32 L) (hdu:Dig L) (hj:j+n<L.length) (_hL:L.length≤1099511627776) (hcu:n+1≤cu)
  (hcm:cu≤9223372036854775807) (hv:Own w bv 100 .u32 lv) (hdv:Dig lv) (hn:n≤lv.length) (hne:bv≠b) (hg:0≤g∧g≤4294967295) :
  Calls Try.prog 73 #[.slice (some ⟨b,j,none⟩) (n+1) cu,.slice (some ⟨bv,0,none⟩) n cv,.int .u32 g] w
   (OM w b j n L (valL L-4294967296^j*(g*valL (lv.take n))) (4294967296^j*4294967296^(n+1))):=by
 go_enter Try.func73,Try.ntmps73;go_wp2;go_loopw [7,8,15] (fun bo ca i wr => ∃(k:Nat) (bb cc:Int) (o:List Int),bo = .int .u64 bb∧ca = .int .u64 cc∧i = .int .i64 k∧k≤n∧(0≤bb∧bb≤1)∧(0≤cc∧cc≤4294967295)∧Own wr b 100 .u32 o∧o.length=L.length∧Dig o ∧
   valL o=valL L+4294967296^j*(4294967296^k*(cc+bb)-g*valL (lv.take k))∧(∀i,j+k≤i→at_ o i=at_ L i)∧Only b w wr) (fun _ _ i _=>n-(intOf i).toNat)
 case atStart=>exact⟨0,0,0,L,rfl,rfl,rfl,Nat.zero_le _,by omega,by omega,hu,rfl,hdu,by simp[valL],fun _ _=>rfl,Only.rf _ _⟩
 case round =>
  obtain⟨k,bb,cc,o,rfl,rfl,rfl,hk,hbb,hcc,hown,hol,hdo,hval,hsame,hx⟩:=hrel;replace hval:=hd_ hval;replace hol:=hd_ hol;replace hsame:=hd_ hsame;by_cases hlt:k<n
  ·have gv:=(hv.only hx hne).cell (i:=k) (by omega);have fv:=hdv.at_ k;have go:=hown.cell (i:=j+k) (by have:=hol.out;omega);have gf:=hown.frozen (j+k);have fo:=hdo.at_ (j+k);have fm:=mul_bound fv hg;go_wp2;have hcc2:0≤cc+at_ lv k*g∧cc+at_ lv k*g≤18446744069414584320:=by omega
   obtain⟨c1,c2⟩:=OH (u:=at_ o (j+k)) (c:=cc+at_ lv k*g) (b:=bb) fo (by omega) hbb;have c3:=pW (u:=at_ o (j+k)) (d:=(cc+at_ lv k*g) % 4294967296) (b:=bb) fo (by omega) hbb;rw[c1,c2];go_roundw
   case rel =>
    refine⟨k+1,_,_,o.set (j+k) _,rfl,rfl,rfl,by omega,lk _ _ _,by omega,hown.set _ _,by rw[List.length_set];exact hol.out,hdo.set _ (by omega),?_,fun i hi => ?_,hx.st _ _⟩
    ·rw[valL_set_full (by have:=hol.out;omega),valL_take_succ,f6,Int.pow_succ];exact OI hval.out c3
    ·rw[co (by omega)];exact hsame.out i (by omega)
   case measure=>first | (simp[intOf];done) | (simp[intOf];omega)
  ·obtain rfl:k=n:=by omega
   have go:=hown.cell (i:=j+k) (by have:=hol.out;omega);have gf:=hown.frozen (j+k);have fo:=hdo.at_ (j+k);go_wp2;obtain⟨c1,c2⟩:=OK (u:=at_ o (j+k)) (c:=cc) (b:=bb) fo hcc hbb;have c3:=pW (u:=at_ o (j+k)) (d:=cc) (b:=bb) fo hcc hbb;rw[c1,c2];go_ret;refine⟨o.set (j+k) _,bor (at_ o (j+k)) cc bb,rfl,OL _ _ _,hown.set _ _,by rw[List.length_set];exact hol.out,hdo.set _ (by omega),fun i hi => ?_,?_,hx.st _ _⟩
   ·rw[co (by omega)];exact hsame.out i (by omega)
   ·rw[valL_set_full (by have:=hol.out;omega),f6,Int.pow_succ];exact OJ hval.out c3
theorem ON {V L0 u v c bj bk W d d':Int} (h:V=L0+bj*(W-bk*c)) (hd:d=(u+v+c) % 4294967296) (hd':d'=(u+v+c) / 4294967296) :
  V+(d-u)*(bj*bk)=L0+bj*(W+v*bk-bk*4294967296*d'):=by
 have h1:=Int.mul_ediv_add_emod (u+v+c) 4294967296;rw[←hd,←hd'] at h1;have e:d=u+v+c-4294967296*d':=by omega
 subst h;subst e;grind
theorem OO {V L0 u c bj bk W d d':Int} (h:V=L0+bj*(W-bk*c)) (hd:d=(u+c) % 4294967296) (hd':d'=(u+c) / 4294967296) :
  V+(d-u)*(bj*bk)=L0+bj*W-bj*(bk*4294967296)*d':=by
 have h1:=Int.mul_ediv_add_emod (u+c) 4294967296;rw[←hd,←hd'] at h1;have e:d=u+c-4294967296*d':=by omega
 subst h;subst e;grind
def OP (w:World) (b j n:Nat) (L:List Int) (z top:Int) (e:Ending) (w':World):Prop:=
 ∃(L':List Int) (c:Int),e = .returned (.tuple #[])∧(c=0∨c=1)∧Own w' b 100 .u32 L'∧L'.length=L.length∧Dig L'∧(∀i,j+n<i→at_ L' i=at_ L i)∧valL L'=z-top*c∧Only b w w'
theorem lW (b j n bv cu cv:Nat) (L lv:List Int) (w:World) (hu:Own w b 100 .u32 L) (hdu:Dig L) (hj:j+n<L.length) (_hL:L.length≤1099511627776) (hcu:n+1≤cu)
  (hcm:cu≤9223372036854775807) (hv:Own w bv 100 .u32 lv) (hdv:Dig lv) (hn:n≤lv.length) (hne:bv≠b) :
  Calls Try.prog 74 #[.slice (some ⟨b,j,none⟩) (n+1) cu,.slice (some ⟨bv,0,none⟩) n cv] w
   (OP w b j n L (valL L+4294967296^j*valL (lv.take n)) (4294967296^j*4294967296^(n+1))):=by
 go_enter Try.func74,Try.ntmps74;go_wp2;go_loopw [4,9] (fun ca i wr => ∃(k:Nat) (cc:Int) (o:List Int),ca = .int .u32 cc∧i = .int .i64 k∧k≤n∧(0≤cc∧cc≤1)∧Own wr b 100 .u32 o∧o.length=L.length∧Dig o ∧
   valL o=valL L+4294967296^j*(valL (lv.take k)-4294967296^k*cc)∧(∀i,j+k≤i→at_ o i=at_ L i)∧Only b w wr) (fun _ i _=>n-(intOf i).toNat)
 case atStart=>exact⟨0,0,L,rfl,rfl,Nat.zero_le _,by omega,hu,rfl,hdu,by simp[valL],fun _ _=>rfl,Only.rf _ _⟩
 case round =>
  obtain⟨k,cc,o,rfl,rfl,hk,hcc,hown,hol,hdo,hval,hsame,hx⟩:=hrel;replace hval:=hd_ hval;replace hol:=hd_ hol;replace hsame:=hd_ hsame;by_cases hlt:k<n
  ·have gv:=(hv.only hx hne).cell (i:=k) (by omega);have fv:=hdv.at_ k;have go:=hown.cell (i:=j+k) (by have:=hol.out;omega);have gf:=hown.frozen (j+k);have fo:=hdo.at_ (j+k);go_wp2_with (go_at_call 86;refine (iD _ _ _ _ fo fv hcc).mono ?_;rintro e w' ⟨rfl,rfl⟩);go_roundw
   case rel =>
    refine⟨k+1,_,o.set (j+k) _,rfl,rfl,by omega,by omega,hown.set _ _,by rw[List.length_set];exact hol.out,hdo.set _ (by omega),?_,fun i hi => ?_,hx.st _ _⟩
    ·rw[valL_set_full (by have:=hol.out;omega),valL_take_succ,f6,Int.pow_succ];exact ON hval.out rfl rfl
    ·rw[co (by omega)];exact hsame.out i (by omega)
   case measure=>first | (simp[intOf];done) | (simp[intOf];omega)
  ·obtain rfl:k=n:=by omega
   have go:=hown.cell (i:=j+k) (by have:=hol.out;omega);have gf:=hown.frozen (j+k);have fo:=hdo.at_ (j+k);go_wp2;go_end0;refine⟨o.set (j+k) _,(at_ o (j+k)+cc) / 4294967296,rfl,by omega,hown.set _ _,by rw[List.length_set];exact hol.out,hdo.set _ (by omega),fun i hi => ?_,?_,hx.st _ _⟩
   ·rw[co (by omega)];exact hsame.out i (by omega)
   ·rw[valL_set_full (by have:=hol.out;omega),f6,Int.pow_succ,Int.mul_assoc];have:=OO (d:=(at_ o (j+k)+cc) % 4294967296) hval.out rfl rfl;rw[Int.mul_assoc] at this;exact this
end Go.Proofs.Ytdchbabgopglcaa
