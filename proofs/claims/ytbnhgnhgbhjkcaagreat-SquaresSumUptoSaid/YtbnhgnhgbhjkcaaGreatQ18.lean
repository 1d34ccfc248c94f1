/- Lemmas. -/
import Derived.Test.YtbnhgnhgbhjkcaaGreatQ17
import Derived.Test.YtbnhgnhgbhjkcaaGreatQ16
namespace Go.Proofs.YtbnhgnhgbhjkcaaGreat.M
set_option linter.unusedSimpArgs false
open Go.RowKit
def AOp.isCopy:AOp→Bool
 |.copyS .. => true
 |_=>false
def AOp.isCopyF:AOp→Bool
 |.copyF .. => true
 |_=>false
def AOp.isLent:AOp→Bool
 |.callL .. => true
 |_=>false
def i6 (ap:List (Nat×Nat)) (c1 c2:COp):Bool:=
 (c1.op.kind≤1&&c2.op.kind≤3)||((c1.op.kind == 2||c1.op.kind == 3)&&c2.op.kind == 0)||(c1.op.kind == 2&&(c2.op.kind == 2&&(c1.dst.isSome&&c2.dst.isSome)))||(c1.op.kind == 0&&c2.op.kind == 4)||(c1.op.kind == 4&&c2.op.kind == 0) ||
  (
   match c1.op,c2.op with
   |.load _ _ (.t x),.store _ (.t y) _=>ap.contains (x,y)
   |_,_=>false)||(c1.op.kind == 6&&c2.op.kind≤1)||(c1.op.kind≤1&&c2.op.kind == 6)||(c1.op.kind == 6&&(c2.op.isCopyF&&(c1.dst.isSome&&c2.dst.isSome)))||(c1.op.isCopy&&(c2.op.kind == 2&&(c1.dst.isSome&&c2.dst.isSome)))
def gX (ap:List (Nat×Nat)) (c1 c2:COp):Bool:=
 (match c1.dst with | some t => !c2.reads.contains t&&c2.dst != some t | none=>true) &&
 (match c2.dst with | some t => !c1.reads.contains t | none=>true) &&
 (i6 ap c1 c2||(c1.op.kind == 0&&c2.op.isLent))
def COp.alc (c:COp):Bool:=c.guard.isNone&&match c.op with
 |.alloc .. => true
 |.box .. => true
 |_=>false
def eu (ap:List (Nat×Nat)) (c:COp):Bool:=ap.isEmpty||(c.op.kind != 5)&&match c.dst with
 |some t=>ap.all fun p=>p.1 != t&&(p.2 != t||c.alc)
 |none=>true
def ez (ap:List (Nat×Nat)) (r:Nat→AV):Bool:=ap.all fun p=>d6 (r p.1) (r p.2)
section
variable {G:FuncId→List D→D→Prop}{c c1 c2:COp}{K K':St→Prop}{s:St}{r r':Nat→AV}{m m':Mem}{v:AV}{ap:List (Nat×Nat)}
theorem cI.cases_ (h:cI G c r m v m'):Out G c r m v m'∧(∀m2 v2 m2',Out G c r m2 v2 m2'→cI G c r m2 v2 m2')∨(v = .p (.tup [])∧m'=m∧∀m2,cI G c r m2 (.p (.tup [])) m2):=by
 unfold cI at h ⊢;cases hg:c.guard with
 |none=>rw[hg] at h;exact .inl ⟨h,fun _ _ _ h=>h⟩
 |some x =>
  obtain⟨g,want⟩:=x;rw[hg] at h;simp only at h ⊢;rcases h with⟨b,hb,h1 | h1⟩ | ⟨hb,h1,h2⟩
  ·exact .inl ⟨h1.2,fun m2 v2 m2' ho => .inl ⟨b,hb,.inl ⟨h1.1,ho⟩⟩⟩
  ·exact .inr ⟨h1.2.1,h1.2.2,fun m2 => .inl ⟨b,hb,.inr (by simp[h1.1])⟩⟩
  ·exact .inr ⟨h1,h2,fun m2 => .inr ⟨hb,by simp⟩⟩
theorem Out.le1 (hk:c.op.kind≤1) (h:Out G c r m v m'):m'=m∧∀m2,(∀i o,m i=some o→m2 i=some o)→Out G c r m2 v m2:=by
 rcases (by omega:c.op.kind=0∨c.op.kind=1) with h0 | h1
 ·exact⟨(h.pure h0).1,fun m2 _=>(h.pure h0).2 m2⟩
 ·exact h.read h1
theorem j6 {m:Mem}{i:Nat}{o:AObj} (h:m i=none):∀j q,m j=some q→upd m i (some o) j=some q:=by
 intro j q hq;rw[aC];exact hq;rintro rfl;rw[h] at hq;cases hq
theorem Out.copied (hc:c.op.isCopy=true) (h:Out G c r m v m'):m (c.dst.getD 0)=none∧∃ob,m'=upd m (c.dst.getD 0) (some ob)∧∀m2:Mem,m2 (c.dst.getD 0)=none→(∀i o,m i=some o→m2 i=some o)→Out G c r m2 v (upd m2 (c.dst.getD 0) (some ob)):=by
 unfold Out at *;cases hop:c.op<;>simp only[hop,AOp.isCopy,reduceCtorEq] at hc h ⊢
 case copyS T sz b y =>
  obtain⟨t,h1,rfl⟩:=cj h;simp only[ev] at h1 ⊢;split at h1
  case h_2=>cases h1
  rename_i ys hid hys;simp only[z99,z97] at h1;obtain⟨h2,rfl,rfl⟩:=h1;refine⟨hid,_,rfl,fun m2 hm2 hmore => ?_⟩;have he:bO sz m2 (y.ev r)=some ys:=by
   revert hys
   unfold bO;split
   ·rename_i j off n _;split
    ·rename_i T' sz' l fr hm;rw[hmore _ _ hm];exact id
    ·intro h;cases h
   ·exact id
   ·exact id
   ·exact id
  rw[hm2,he];simp only;rw[h2];rfl
theorem Out.wide (hk:c.op.kind=6) (h:Out G c r m v m'):m'=m∧∀m2:Mem,(∀i o,m i=some o→m2 i=some o)→(∀i o,m2 i=some o→o.frz=true∨m i=some o)→Out G c r m2 v m2:=by
 unfold Out at *;cases hop:c.op<;>simp only[hop,AOp.kind,reduceCtorEq] at hk h ⊢<;>try omega
 obtain⟨ds,d,h1,h2,h3,h4,rfl⟩:=h;refine⟨rfl,fun m2 hm hf=>⟨ds,d,kx hm _ _ h1,fun i o ho => ?_,h3,by first | exact h4 | exact⟨h4,rfl⟩ | exact⟨h4,trivial⟩⟩⟩;rcases hf i o ho with e | e
 ·exact .inl e
 ·exact h2 i o e
theorem Out.copiedF (hc:c.op.isCopyF=true) (h:Out G c r m v m'):m (c.dst.getD 0)=none∧∃ob:AObj,m'=upd m (c.dst.getD 0) (some ob)∧ob.frz=true∧True:=by
 unfold Out at *;cases hop:c.op<;>simp only[hop,AOp.isCopyF,reduceCtorEq] at hc h ⊢
 case copyF T sz b y =>
  obtain⟨t,h1,rfl⟩:=cj h;simp only[ev] at h1;split at h1
  ·cases h1
  split at h1
  case h_2=>cases h1
  rename_i ys hid hys;simp only[z99,z97] at h1;obtain⟨h2,rfl,rfl⟩:=h1;exact⟨hid,_,rfl,rfl,trivial⟩
theorem wS {m1 m2:Mem}{v1 v2:AV} (hd1:∀t,c1.dst=some t→c2.dst≠some t) (hs:i6 ap c1 c2=true) (ha:ez ap r=true) (h1:cI G c1 r m v1 m1) (h2:cI G c2 r m1 v2 m2):∃m',cI G c2 r m v2 m'∧cI G c1 r m' v1 m2:=by
 rcases h1.cases_ with⟨o1,g1⟩ | ⟨rfl,rfl,g1⟩
 case inr=>exact⟨m2,h2,g1 m2⟩
 rcases h2.cases_ with⟨o2,g2⟩ | ⟨rfl,rfl,g2⟩
 case inr=>exact⟨m,g2 m,h1⟩
 simp only[i6,z9S,z83,z8T,beq_iff_eq] at hs;obtain ((((((((hk | hk) | hk) | hk) | hk) | hk) | hk) | hk) | hk) | hk:=hs
 ·-- nothing is changed by the first
  obtain⟨rfl,q1⟩:=o1.le1 hk.1;rcases (by omega:c2.op.kind≤1∨c2.op.kind=2∨c2.op.kind=3) with hk2 | hk2 | hk2
  ·obtain⟨rfl,q2⟩:=o2.le1 hk2;exact⟨_,h2,h1⟩
  ·obtain⟨e,ob,rfl,-⟩:=o2.made hk2;exact⟨_,h2,g1 _ _ _ (q1 _ (j6 e))⟩
  ·obtain⟨e,ob,rfl⟩:=o2.built hk2;exact⟨_,h2,g1 _ _ _ (q1 _ (j6 e))⟩
 ·obtain⟨rfl,q2⟩:=o2.pure hk.2;exact⟨m,g2 _ _ _ (q2 m),h1⟩
 ·obtain⟨hk1,hk2,s1,s2⟩:=hk;obtain⟨e2,ob2,rfl,q2⟩:=o2.made hk2;have hne:c1.dst.getD 0≠c2.dst.getD 0:=by
   obtain⟨t1,h1'⟩:=z81.1 s1;obtain⟨t2,h2'⟩:=z81.1 s2;rw[h1',h2'];rintro e;simp only[Option.getD_some] at e;subst e;exact hd1 _ h1' h2'
  obtain⟨e1,ob1,rfl,q1⟩:=o1.made hk1;rw[aC _ _ hne.symm] at e2;refine⟨_,g2 _ _ _ (q2 m e2),?_⟩;rw[lh _ _ _ hne];exact g1 _ _ _ (q1 _ (by rw[aC _ _ hne];exact e1))
 ·obtain⟨rfl,q1⟩:=o1.pure hk.1;exact⟨m2,h2,g1 _ _ _ (q1 m2)⟩
 ·obtain⟨rfl,q2⟩:=o2.pure hk.2;exact⟨m,g2 _ _ _ (q2 m),h1⟩
 ·split at hk
  ·rename_i ag sz x sz2 y z e1 e2;have hap:d6 (r x) (r y)=true:=by
    simp only[ez,z9C] at ha;exact ha (x,y) (by simpa using hk)
   obtain⟨rfl,-⟩:=o1.le1 (by rw[e1];simp[AOp.kind]);exact⟨m2,h2,g1 _ _ _ (Out.load_store e1 e2 hap o1 o2)⟩
  ·cases hk
 ·obtain⟨rfl,q1⟩:=o1.wide hk.1;obtain⟨rfl,q2⟩:=o2.le1 hk.2;exact⟨_,h2,h1⟩
 ·obtain⟨rfl,q1⟩:=o1.le1 hk.1;obtain⟨rfl,q2⟩:=o2.wide hk.2;exact⟨_,h2,h1⟩
 ·obtain⟨hk1,hk2,s1,s2⟩:=hk;obtain⟨rfl,q1⟩:=o1.wide hk1;obtain⟨e2,ob2,rfl,hf,q2⟩:=o2.copiedF hk2;refine⟨_,h2,g1 _ _ _ (q1 _ (fun i o ho => ?_) fun i o ho => ?_)⟩
  ·exact j6 e2 i o ho
  ·by_cases hi:i=c2.dst.getD 0
   ·subst hi;rw[aD] at ho;cases ho;exact .inl hf
   ·rw[aC _ _ hi] at ho;exact .inr ho
 ·obtain⟨hk1,hk2,s1,s2⟩:=hk;have hne:c1.dst.getD 0≠c2.dst.getD 0:=by
   obtain⟨t1,h1'⟩:=z81.1 s1;obtain⟨t2,h2'⟩:=z81.1 s2;rw[h1',h2'];rintro e;simp only[Option.getD_some] at e;subst e;exact hd1 _ h1' h2'
  obtain⟨e2,ob2,rfl,q2⟩:=o2.made hk2;obtain⟨e1,ob1,rfl,q1⟩:=o1.copied hk1;rw[aC _ _ hne.symm] at e2;refine⟨_,g2 _ _ _ (q2 m e2),?_⟩;rw[lh _ _ _ hne];exact g1 _ _ _ (q1 _ (by rw[aC _ _ hne];exact e1) (j6 e2))
theorem gY {t:Option Nat}{n:Nat} (h:∀k,t=some k→k≠n) (r:Nat→AV) (v:AV):bH r t v n=r n:=by
 cases t with
 |none=>rfl
 |some k=>exact aC _ _ (h k rfl).symm
theorem pX (hs:i6 ap c1 c2=true):c1.op.kind≠5∧c2.op.kind≠5:=by
 simp only[i6,z9S,z83,z8T,beq_iff_eq] at hs;obtain ((((((((hk | hk) | hk) | hk) | hk) | hk) | hk) | hk) | hk) | hk:=hs
 ·exact⟨by omega,by omega⟩
 ·exact⟨by omega,by omega⟩
 ·exact⟨by omega,by omega⟩
 ·exact⟨by omega,by omega⟩
 ·exact⟨by omega,by omega⟩
 ·split at hk
  ·rename_i e1 e2;rw[e1,e2];exact⟨by simp[AOp.kind],by simp[AOp.kind]⟩
  ·cases hk
 ·exact⟨by omega,by omega⟩
 ·exact⟨by omega,by omega⟩
 ·refine⟨by omega,?_⟩;have:=hk.2.1;cases hc:c2.op<;>rw[hc] at this<;>simp[AOp.isCopyF,AOp.kind] at this ⊢
 ·refine⟨?_,by omega⟩;have:=hk.1;cases hc:c1.op<;>rw[hc] at this<;>simp[AOp.isCopy,AOp.kind] at this ⊢
theorem pY {d:D}:∀(k:Nat) (l:List Opd),(∀x∈l,x.ev r=x.ev r')→dv ⟨r,m⟩ d k l=dv ⟨r',m⟩ d k l
 |_,[],_=>by cases ‹Nat›<;>rfl
 |0,x::l,h=>by
  have:=gQ (m:=m) l (fun y hy=>h y (by simp[hy]));simp only[dv,this]
 |k+1,x::l,h=>by
  have h1:=h x (by simp);have:=pY (d:=d) k l (fun y hy=>h y (by simp[hy]));simp only[dv,h1,this]
theorem wT {t:Option Nat} (hl:c.op.isLent=true) (hr:∀k,t=some k→k ∉ c.reads∧c.dst≠some k) (h:bK G c K ⟨bH r t v,m⟩) :
  bK G c (fun s'=>(∃v2,s'.r=bH r c.dst v2)∧K ⟨bH s'.r t v,s'.m⟩) ⟨r,m⟩:=by
 have hr1:∀n∈c.reads,bH r t v n=r n:=fun n hn=>gY (fun k hk e=>by subst e;exact (hr k hk).1 hn) r v
 have hput:∀(m':Mem) (u:AV),K ((⟨bH r t v,m'⟩:St).put c.dst u)→(∃v2,((⟨r,m'⟩:St).put c.dst u).r=bH r c.dst v2)∧K ⟨bH ((⟨r,m'⟩:St).put c.dst u).r t v,((⟨r,m'⟩:St).put c.dst u).m⟩:=fun m' u hk=>by
  rw[dD] at hk ⊢;refine⟨⟨u,rfl⟩,?_⟩;have:bH (bH r c.dst u) t v=bH (bH r t v) c.dst u:=by
   cases ht:t with
   |none=>rfl
   |some a =>
    cases hc:c.dst with
    |none=>rfl
    |some b=>exact lh _ _ _ (fun e=>(hr a ht).2 (by rw[hc,e]))
  simp only;rw[this];exact hk
 have hstep:step G c K ⟨bH r t v,m⟩→step G c (fun s'=>(∃v2,s'.r=bH r c.dst v2)∧K ⟨bH s'.r t v,s'.m⟩) ⟨r,m⟩:=by
  intro h;cases hop:c.op<;>simp only[hop,AOp.isLent,reduceCtorEq] at hl
  rename_i f k args;have hev:∀x∈args,x.ev (bH r t v)=x.ev r:=lV args fun n hn=>hr1 n (by simp[COp.reads,hop,AOp.opds,hn])
  have hat:eF ⟨bH r t v,m⟩ k args=eF ⟨r,m⟩ k args:=by
   unfold eF;cases ha:args[k]? with
   |none=>rfl
   |some x=>exact hev x (z90 ha)
  simp only[step,hop,hat] at h ⊢;split at h
  case h_3=>exact h.elim
  case h_2 =>
   rw[gQ args hev] at h;split at h
   case h_2=>exact h.elim
   obtain⟨q,l',h2,h3⟩:=h;exact⟨q,l',h2,hput _ _ h3⟩
  split at h
  case h_2=>exact h.elim
  rename_i T sz l _;rw[pY (r':=r) k args hev] at h;split at h
  case h_2=>exact h.elim
  obtain⟨h1,q,l',h2,h3⟩:=h;exact⟨h1,q,l',h2,hput _ _ h3⟩
 unfold bK at h ⊢;split at h
 ·rename_i hg;exact hstep h
 ·rename_i g want hg;have hgr:bH r t v g=r g:=hr1 g (by simp[COp.reads,hg]);simp only[hgr] at h;split at h
  ·rename_i b hb;simp only[hb];split at h
   ·rename_i hbw;rw[if_pos hbw];exact hstep h
   ·rename_i hbw;rw[if_neg hbw];exact hput _ _ h
  ·rename_i hb;simp only[hb];exact hput _ _ h
  ·exact h.elim
theorem wU (hs:gX ap c1 c2=true) (ha:ez ap s.r=true) (h:bK G c1 (bK G c2 K) s):bK G c2 (bK G c1 K) s:=by
 obtain⟨r,m⟩:=s;simp only[gX,z9S,z83] at hs;obtain⟨⟨hd1,hd2⟩,hs | hs⟩:=hs
 case inr =>
  obtain⟨h0,hl⟩:=hs;simp only[beq_iff_eq] at h0;obtain⟨v1,m1,h1,h2⟩:=(fB (by omega)).1 h;obtain⟨rfl,hall⟩:m1=m∧∀m2,cI G c1 r m2 v1 m2:=by
   rcases h1.cases_ with⟨o1,g1⟩ | ⟨rfl,rfl,g1⟩
   ·obtain⟨rfl,q1⟩:=o1.pure h0;exact⟨rfl,fun m2=>g1 _ _ _ (q1 m2)⟩
   ·exact⟨rfl,g1⟩
  refine lU (wT hl (fun k hk => ?_) h2) fun t ht => ?_
  ·rw[hk] at hd1;simp at hd1;exact hd1
  ·obtain⟨⟨v2,e⟩,hK⟩:=ht;refine (fB (by omega)).2 ⟨v1,t.m,(hall t.m).congr fun n hn => ?_,hK⟩;rw[e];refine (gY (fun k hk e2 => ?_) r v2).symm;subst e2;rw[hk] at hd2;simp at hd2;exact hd2 hn
 have k1:=(pX hs).1;have k2:=(pX hs).2;obtain⟨v1,m1,h1,h2⟩:=(fB k1).1 h;obtain⟨v2,m2,h3,h4⟩:=(fB k2).1 h2;have e1:∀n∈c2.reads,bH r c1.dst v1 n=r n:=fun n hn=>gY (fun k hk e=>by
  subst e;rw[hk] at hd1;simp at hd1;exact hd1.1 hn) r v1
 have e2:∀n∈c1.reads,r n=bH r c2.dst v2 n:=fun n hn=>(gY (fun k hk e=>by
  subst e;rw[hk] at hd2;simp at hd2;exact hd2 hn) r v2).symm
 obtain⟨m',g1,g2⟩:=wS (fun t ht=>by rw[ht] at hd1;simp at hd1;exact hd1.2) hs ha h1 (h3.congr e1);refine (fB k2).2 ⟨v2,m',g1,(fB k1).2 ⟨v1,m2,g2.congr e2,?_⟩⟩;have:bH (bH r c2.dst v2) c1.dst v1=bH (bH r c1.dst v1) c2.dst v2:=by
  cases hc1:c1.dst with
  |none=>rfl
  |some t1 =>
   cases hc2:c2.dst with
   |none=>rfl
   |some t2 =>
    rw[hc1] at hd1;exact lh _ _ _ (fun e=>by subst e;simp[hc2] at hd1)
 rw[this];exact h4
def ApI (al:Nat→Prop) (ap:List (Nat×Nat)) (r:Nat→AV):Prop:=ez ap r=true∧∀p∈ap,al p.2→∀j o,r p.1≠.ptr p.2 j o
theorem wV (ha:c.alc=true) (h:cI G c r m v m'):v = .ptr (c.dst.getD 0) 0 0:=by
 simp only[COp.alc,z9S,Option.isNone_iff_eq_none] at ha;obtain⟨h1,h2⟩:=ha;unfold cI at h;rw[h1] at h;unfold Out at h;cases hc:c.op<;>rw[hc] at h h2<;>first | (simp at h2;done) | skip
 case alloc T sz z =>
  obtain⟨t,h3,-⟩:=cj h;simp only[ev] at h3;split at h3
  ·simp only[z99,z97,true_and] at h3;exact h3.1.symm
  ·cases h3
 case box T sz x =>
  obtain⟨t,h3,-⟩:=cj h;simp only[ev] at h3;split at h3
  ·split at h3
   ·simp only[z99,z97,true_and] at h3;exact h3.1.symm
   ·cases h3
  ·cases h3
theorem wW {a b:AV} (h:d6 a b=true):(∃i j o,a = .ptr i j o)∨∃d,a = .p (.ref d):=by
 unfold d6 at h;split at h
 ·exact .inl ⟨_,_,_,rfl⟩
 ·exact .inr ⟨_,rfl⟩
 ·exact .inl ⟨_,_,_,rfl⟩
 ·exact .inr ⟨_,rfl⟩
 ·cases h
theorem wX {al:Nat→Prop} (hf:eu ap c=true) (hal:c.alc=true→∀t,c.dst=some t→al t) (ha:ApI al ap r) (v:AV) (hv:c.alc=true→v = .ptr (c.dst.getD 0) 0 0):ApI al ap (bH r c.dst v):=by
 obtain⟨ha,hi⟩:=ha;simp only[ez,z9C] at ha;have hx:∀p∈ap,bH r c.dst v p.1=r p.1:=fun p hp=>gY (fun k hk e=>by
  subst e;have hne:ap.isEmpty=false:=by cases ap with
   |nil=>cases hp
   |cons=>rfl
  simp only[eu,hne,hk,Bool.false_or,z9S,z9C] at hf;have:=(hf.2 p hp).1;simp at this) r v
 refine⟨?_,fun p hp hal' j o=>by rw[hx p hp];exact hi p hp hal' j o⟩;simp only[ez,z9C];intro p hp;rw[hx p hp];have hne:ap.isEmpty=false:=by cases ap with
  |nil=>cases hp
  |cons=>rfl
 by_cases hd:c.dst=some p.2
 ·have hf':=hf;simp only[eu,hne,hd,Bool.false_or,z9S,z9C] at hf';have h2:=(hf'.2 p hp).2;simp only[bne_self_eq_false,Bool.false_or] at h2;have hv':=hv h2;rw[hd] at hv' ⊢;simp only[Option.getD_some] at hv';rw[hv'];show d6 (r p.1) (upd r p.2 _ p.2)=true
  rw[aD];rcases wW (ha p hp) with⟨i,j,o,e⟩ | ⟨d,e⟩
  ·have:=hi p hp (hal h2 _ hd);rw[e] at this ⊢;simp only[d6,bne_iff_ne,ne_eq];rintro rfl;exact this j o rfl
  ·rw[e];rfl
 ·rw[gY (fun k hk e=>hd (by rw[hk,e])) r v];exact ha p hp
theorem pZ {al:Nat→Prop} (hf:eu ap c=true) (hal:c.alc=true→∀t,c.dst=some t→al t) (ha:ApI al ap s.r) (h:bK G c K s):bK G c (fun t=>ApI al ap t.r∧K t) s:=by
 obtain⟨r,m⟩:=s;cases hap:ap with
 |nil=>exact lU h fun t ht=>⟨⟨rfl,by simp⟩,ht⟩
 |cons p q =>
  have k:c.op.kind≠5:=by
   simp only[eu,hap,List.isEmpty_cons,Bool.false_or,z9S,bne_iff_ne,ne_eq] at hf;exact hf.1
  obtain⟨v,m',h1,h2⟩:=(fB k).1 h;exact (fB k).2 ⟨v,m',h1,hap ▸ wX hf hal ha v (fun hc=>wV hc h1),h2⟩
theorem p5 {al:Nat→Prop}:∀(l1 l2:List COp) (s:St),(∀c'∈l1,gX ap c' c=true∧eu ap c'=true∧(c'.alc=true→∀t,c'.dst=some t→al t))→ApI al ap s.r→bC G (l1++c::l2) K s→bK G c (bC G (l1++l2) K) s
 |[],_,_,_,_,h=>h
 |c'::l1,l2,s,hl,ha,h=>by
  have hc':=hl c' (by simp);have h1:bK G c' (bC G (l1++c::l2) K) s:=h;have h2:bK G c' (bK G c (bC G (l1++l2) K)) s:=lU (pZ hc'.2.1 hc'.2.2 ha h1) fun t ht=>p5 l1 l2 t (fun q hq=>hl q (by simp[hq])) ht.1 ht.2
  exact wU hc'.1 ha.1 h2
theorem mw {i j:Nat}{o:AObj} (hi:m i≠none):upd m j (some o) i≠none:=by
 unfold upd;split<;>simp_all
theorem Out.dom (hk:c.op.kind≠5) (h:Out G c r m v m'){i:Nat} (hi:m i≠none):m' i≠none:=by
 rcases (by omega:c.op.kind≤1∨c.op.kind=2∨c.op.kind=3∨c.op.kind=4∨5<c.op.kind) with h0 | h0 | h0 | h0 | h0
 ·rw[(h.le1 h0).1];exact hi
 ·obtain⟨-,ob,rfl,-⟩:=h.made h0;exact mw hi
 ·obtain⟨-,ob,rfl⟩:=h.built h0;exact mw hi
 ·unfold Out at h;cases hc:c.op<;>rw[hc] at h h0<;>first | (simp[AOp.kind] at h0;done) | skip
  case store sz x z =>
   obtain⟨t,g1,rfl⟩:=cj h;simp only[ev] at g1;(repeat' split at g1)<;>first | (cases g1;done) | (simp only[z99,z97] at g1;obtain⟨-,-,rfl⟩:=g1;exact mw hi)
 ·have h6:c.op.kind=6:=by revert h0;cases c.op<;>simp[AOp.kind]
  rw[(h.wide h6).1];exact hi
theorem p6:∀(l:List COp) (s:St),(∀c∈l,c.op.kind≠5)→bC G l K s→∀c∈l,c.alc=true→∀t,c.dst=some t→s.m t=none
 |[],_,_,_,c,hc,_,_,_=>by cases hc
 |c'::l,⟨r,m⟩,hk,h,c,hc,ha,t,ht=>by
  have k:=hk c' (by simp);have h1:bK G c' (bC G l K) ⟨r,m⟩:=h;obtain⟨v,m',h2,h3⟩:=(fB k).1 h1;have hdom:∀i,m i≠none→m' i≠none:=fun i hi=>by
   rcases h2.cases_ with⟨o,-⟩ | ⟨-,rfl,-⟩
   ·exact o.dom k hi
   ·exact hi
  rcases z9L.1 hc with rfl | hc
  ·refine Classical.byContradiction fun hn => ?_
   have hg:c.guard=none:=by
    simp only[COp.alc,z9S,Option.isNone_iff_eq_none] at ha;exact ha.1
   have o:Out G c r m v m':=by unfold cI at h2;rwa[hg] at h2
   have k2:c.op.kind=2:=by
    simp only[COp.alc,z9S] at ha;have:=ha.2;cases hc:c.op<;>rw[hc] at this<;>first | rfl | (simp at this;done)
   have:=(o.made k2).1;rw[ht] at this;exact hn this
  ·refine Classical.byContradiction fun hn => ?_
   exact absurd (p6 l _ (fun q hq=>hk q (by simp[hq])) h3 c hc ha t ht) (hdom t hn)
end
end Go.Proofs.YtbnhgnhgbhjkcaaGreat.M
namespace Go.Proofs.YtbnhgnhgbhjkcaaGreat
set_option linter.unusedSimpArgs false
set_option maxRecDepth 100000
set_option maxHeartbeats 1000000
open Go.RowKit
def cE (t:List UInt8):Bool:=(ay true t).2&&decide (t.length≤(ay true t).1)
def el (t:List UInt8):Int:=sg (aK t) (aJ (body t))
def parseZ (t:List UInt8):Int:=if cE t then (if (body t).length≤1000 then el t else 0) else 0
def c6 (t:List UInt8):Int:=if cE t then (if (body t).length≤1000 then 0 else 2) else 1
def eR (t:List UInt8):Int:=if cE t then 0 else (ay true t).1
theorem gW (t:List UInt8):(body t).length=t.length-(if aK t then 1 else 0):=by
 unfold body;split<;>simp
theorem pS {t:List UInt8} (h:aK t=true):1≤t.length:=by
 rcases z9D t.length with h0 | h0
 ·rw[z9Z h0] at h;cases h
 ·exact h0
theorem wD {l:List UInt8} (h:l.length≤bP l):∀j,j<l.length→48≤byt l j∧byt l j≤57:=by
 induction l with
 |nil=>intro j hj;simp at hj
 |cons c t ih =>
  have hd:fH c=true:=by
   cases hc:fH c
   ·simp[bP,hc] at h
   ·rfl
  have ht:t.length≤bP t:=by simpa[bP,hd] using h
  intro j hj
  match j with
  |0=>rw[fI];unfold fH at hd;simpa using hd
  |j+1=>rw[mt];exact ih ht j (by simpa using hj)
structure Canon (l:List UInt8):Prop where
 digs:∀j,j<l.length→48≤byt l j∧byt l j≤57
 pos:0<l.length
 lead:byt l 0=48→l.length=1
theorem mp {t:List UInt8} (h:cE t=true):Canon (body t)∧(aK t=true→byt (body t) 0≠48):=by
 unfold cE at h;rw[z9S,z8T] at h;obtain⟨h1,h2⟩:=h;have hbd:∀f,(if true&&aK t then 1 else 0)=f→t.drop f=body t:=by
  intro f hf;subst hf;cases hn:aK t
  ·rw[iZ hn];simp
  ·rw[jV hn];simp
 cases h48:((t.drop (if true&&aK t then 1 else 0)).head? == some 48)
 ·have hr:=eo (sg:=true) rfl h48 rfl;rw[hr] at h1 h2;rw[hbd _ rfl] at h48 h1 h2;simp only[z8T] at h1 h2;have hb:=gW t;have hlen:(body t).length≤bP (body t):=by
   cases hn:aK t
   ·simp[hn] at hb h2;omega
   ·have:=pS hn;simp[hn] at hb h2;omega
  have hpos:0<(body t).length:=by have:=wJ (body t);omega
  have hne:byt (body t) 0≠48:=by
   intro e
   match hbt:body t,hpos with
   |c::r,_ =>
    rw[hbt] at e h48;rw[fI] at e;have:c=48:=UInt8.toNat_inj.1 e;subst this;simp at h48
  exact⟨⟨wD hlen,hpos,fun e=>absurd e hne⟩,fun _=>hne⟩
 ·have hr:=fJ (sg:=true) rfl h48;cases hn:aK t
  ·rw[hr] at h1 h2;simp[hn] at h1 h2;simp[hn] at h48;rw[iZ hn]
   match t,h2,h48 with
   |[c],_,h48 =>
    simp at h48;subst h48;refine⟨⟨fun j hj => ?_,by simp,fun _=>rfl⟩,fun h=>by cases h⟩
    match j,hj with
    |0,_=>rw[fI];decide
  ·rw[hr] at h1;simp[hn] at h1
theorem mq {t:List UInt8} (h:∀j,j<t.length→48≤byt t j∧byt t j≤57):0≤aJ t∧aJ t<10^t.length:=by
 have:∀n,n≤t.length→0≤aJ (t.take n)∧aJ (t.take n)<10^n:=by
  intro n;induction n with
  |zero=>intro _;simp[aJ]
  |succ n ih =>
   intro hn;have h1:=ih (by omega);have h2:=h n (by omega);rw[kN (by omega),z9H];omega
 have:=this t.length (z95 _)
 rwa[z93 (z95 _)] at this
theorem zhY (n:Nat):(10:Nat)^n≤2^(4*n):=by
 rw[Nat.pow_mul];exact Nat.pow_le_pow_left (by omega) n
theorem zhZ {t:List UInt8} (h:∀j,j<t.length→48≤byt t j∧byt t j≤57):Bt (aJ t) (4*t.length):=by
 have h1:=mq h;have h2:=zhY t.length;have e:(10:Int)^t.length=((10^t.length:Nat):Int):=by rw[Int.natCast_pow];rfl
 rw[e] at h1;unfold Bt;omega
theorem zh0 {n:Bool}{z:Int}{k:Nat} (h:Bt z k):Bt (sg n z) k:=h.le (by rw[gu];exact z95 _)
theorem wE {t:List UInt8} (h:cE t=true):Bt (el t) (4*(body t).length):=zh0 (zhZ (mp h).1.digs)
theorem cT (t:List UInt8):Bt (parseZ t) 4000:=by
 unfold parseZ;split
 ·rename_i h;split
  ·rename_i hl;exact (wE h).mono (by omega)
  ·exact gn _
 ·exact gn _
def zh1 (w:World) (z c p:Int) (e:Ending) (w':World):Prop:=
 ∃x:IV,e = .returned (.tuple #[.agg #[.bool x.n,.slice x.s.a x.s.len x.s.cap],.agg #[.int .i64 c,.int .i64 p]])∧IsI w' x z∧Ext w w'
theorem zh2 (t:List UInt8) (w:World) (hs:t.length≤9223372036854775807) :
  Calls Tryz.prog 81 #[.string (bs t)] w (zh1 w (parseZ t) (c6 t) (eR t)):=by
 have hle:=jY true t;have he0:=((Ext.rf w).al (Obj.cells #[Value.bool false,Value.slice none 0 0] 86)).al (Obj.cells #[Value.int .i64 0,Value.int .i64 0] 25);by_cases h1:(ay true t).2=true
 ·by_cases h2:(ay true t).1<t.length
  ·have hok:cE t=false:=by simp[cE];intro _;omega
   have HZ:Hd (parseZ t=0):=hd_ (by simp[parseZ,hok]);have HC:Hd (c6 t=1):=hd_ (by simp[c6,hok]);have HP:Hd (eR t=(ay true t).1):=hd_ (by simp[eR,hok]);clear hok;go_enter Tryz.func81,Tryz.ntmps81;go_wp2_with (go_at_call 79;((with_reducible refine (jX _ _ _ hs).mono ?_);rintro e w1 ⟨rfl,hx⟩;obtain⟨hc1,hf1⟩:=cS hx));have k0:w1.cell? ⟨w.heap.size,0,none⟩=some (Value.bool false):=cell_later hx (by simp[go_sem]);have k1:w1.cell? ⟨w.heap.size,1,none⟩=some (Value.slice none 0 0):=cell_later hx (by simp[go_sem]);have k2:w1.cell? ⟨w.heap.size+1,0,none⟩=some (Value.int .i64 0):=cell_later hx (by simp[go_sem]);have k3:w1.cell? ⟨w.heap.size+1,1,none⟩=some (Value.int .i64 0):=cell_later hx (by simp[go_sem]);refine bodyPost_ret (v:=.tuple #[.agg #[.bool false,.slice none 0 0],.agg #[.int .i64 1,.int .i64 ((ay true t).1:Int)]]) (by simp[results,Tryz.results81,go_sem,k0,k1,k2,k3]) rfl ?_;rw[HC.out,HP.out,HZ.out];exact⟨⟨false,⟨none,0,0⟩⟩,rfl,j9 _,(((he0.tr hx).st2 (by simp) _ _).st2 (by simp) _ _)⟩
  ·have hok:cE t=true:=by simp[cE,h1];omega
   have hcan:=(mp hok).1;have hbl:=gW t;by_cases h3:(body t).length≤1000
   ·have HZ:Hd (parseZ t=el t):=hd_ (by simp[parseZ,hok,h3]);have HC:Hd (c6 t=0):=hd_ (by simp[c6,hok,h3]);have HP:Hd (eR t=0):=hd_ (by simp[eR,hok]);have HS:Hd (Sm (el t)):=hd_ ((wE hok).sm (by omega));have hlb:Hd ((decide ((body t).length<t.length))=aK t):=hd_ (by
     cases hn:aK t
     ·rw[hn] at hbl;simp at hbl;simp;omega
     ·have:=pS hn;rw[hn] at hbl;simp at hbl;simp;omega)
    replace hcan:=hd_ hcan;clear hok hbl;go_enter Tryz.func81,Tryz.ntmps81;go_wp2_with (first
     |(go_at_call 79;((with_reducible refine (jX _ _ _ hs).mono ?_);rintro e w1 ⟨rfl,hx⟩;obtain⟨hc1,hf1⟩:=cS hx))
     |(go_at_call 80;((with_reducible refine (pW _ _ hs).mono ?_);rintro e w2 ⟨rfl,rfl⟩))
     |(go_at_call 104;((with_reducible refine (NZ _ _ (by omega) hcan.out.digs).mono ?_);rintro e w2 ⟨s2,l2,rfl,hl2,hv2,hx2⟩)))
    have hE:sg (decide ((body t).length<t.length)) (valL l2)=el t:=by rw[hlb.out,hv2];rfl
    refine (made_any _ s2 l2 _ hl2 (by rw[hE];exact HS.out)).mono ?_;rintro e w3 ⟨y,rfl,hy,hx3⟩;rw[hE] at hy;clear hE hc1 hf1;replace hx:=(hx.tr hx2).tr hx3;clear hx2 hx3 hl2;obtain⟨hc1,hf1⟩:=cS hx;obtain⟨w1,rfl⟩:∃w1,w1=w3:=⟨_,rfl⟩
    have k0:w1.cell? ⟨w.heap.size,0,none⟩=some (Value.bool false):=cell_later hx (by simp[go_sem]);have k1:w1.cell? ⟨w.heap.size,1,none⟩=some (Value.slice none 0 0):=cell_later hx (by simp[go_sem]);have k2:w1.cell? ⟨w.heap.size+1,0,none⟩=some (Value.int .i64 0):=cell_later hx (by simp[go_sem]);have k3:w1.cell? ⟨w.heap.size+1,1,none⟩=some (Value.int .i64 0):=cell_later hx (by simp[go_sem]);go_wp2;refine bodyPost_ret (v:=.tuple #[.agg #[.bool y.n,.slice y.s.a y.s.len y.s.cap],.agg #[.int .i64 0,.int .i64 0]]) (by simp[results,Tryz.results81,go_sem,k0,k1,k2,k3]) rfl ?_;rw[HC.out,HP.out,HZ.out];exact⟨y,rfl,hy.kept ((((bn.rf _ _).st2 (T':=86) (Ty.keep ((Ty.new' (by simp)).al _) hx) (by decide) _ _)).st2 (T':=25) (((Ty.keep (Ty.new' (by simp)) hx).st _ _).st _ _) (by decide) _ _),(((he0.tr hx).st2 (by simp) _ _).st2 (by simp) _ _)⟩
   ·have HZ:Hd (parseZ t=0):=hd_ (by simp[parseZ,hok,h3]);have HC:Hd (c6 t=2):=hd_ (by simp[c6,hok,h3]);have HP:Hd (eR t=0):=hd_ (by simp[eR,hok]);clear hok hcan hbl;go_enter Tryz.func81,Tryz.ntmps81;go_wp2_with (first
     |(go_at_call 79;((with_reducible refine (jX _ _ _ hs).mono ?_);rintro e w1 ⟨rfl,hx⟩;obtain⟨hc1,hf1⟩:=cS hx))
     |(go_at_call 80;((with_reducible refine (pW _ _ hs).mono ?_);rintro e w2 ⟨rfl,rfl⟩)))
    have k0:w1.cell? ⟨w.heap.size,0,none⟩=some (Value.bool false):=cell_later hx (by simp[go_sem]);have k1:w1.cell? ⟨w.heap.size,1,none⟩=some (Value.slice none 0 0):=cell_later hx (by simp[go_sem]);have k2:w1.cell? ⟨w.heap.size+1,0,none⟩=some (Value.int .i64 0):=cell_later hx (by simp[go_sem]);have k3:w1.cell? ⟨w.heap.size+1,1,none⟩=some (Value.int .i64 0):=cell_later hx (by simp[go_sem]);refine bodyPost_ret (v:=.tuple #[.agg #[.bool false,.slice none 0 0],.agg #[.int .i64 2,.int .i64 0]]) (by simp[results,Tryz.results81,go_sem,k0,k1,k2,k3]) rfl ?_;rw[HC.out,HP.out,HZ.out];exact⟨⟨false,⟨none,0,0⟩⟩,rfl,j9 _,(((he0.tr hx).st2 (by simp) _ _).st2 (by simp) _ _)⟩
 ·have hok:cE t=false:=by simp[cE,h1]
  have HZ:Hd (parseZ t=0):=hd_ (by simp[parseZ,hok]);have HC:Hd (c6 t=1):=hd_ (by simp[c6,hok]);have HP:Hd (eR t=(ay true t).1):=hd_ (by simp[eR,hok]);replace h1:(ay true t).2=false:=by simpa using h1
  clear hok;go_enter Tryz.func81,Tryz.ntmps81;go_wp2_with (go_at_call 79;((with_reducible refine (jX _ _ _ hs).mono ?_);rintro e w1 ⟨rfl,hx⟩;obtain⟨hc1,hf1⟩:=cS hx));have k0:w1.cell? ⟨w.heap.size,0,none⟩=some (Value.bool false):=cell_later hx (by simp[go_sem]);have k1:w1.cell? ⟨w.heap.size,1,none⟩=some (Value.slice none 0 0):=cell_later hx (by simp[go_sem]);have k2:w1.cell? ⟨w.heap.size+1,0,none⟩=some (Value.int .i64 0):=cell_later hx (by simp[go_sem]);have k3:w1.cell? ⟨w.heap.size+1,1,none⟩=some (Value.int .i64 0):=cell_later hx (by simp[go_sem]);refine bodyPost_ret (v:=.tuple #[.agg #[.bool false,.slice none 0 0],.agg #[.int .i64 1,.int .i64 ((ay true t).1:Int)]]) (by simp[results,Tryz.results81,go_sem,k0,k1,k2,k3]) rfl ?_;rw[HC.out,HP.out,HZ.out];exact⟨⟨false,⟨none,0,0⟩⟩,rfl,j9 _,(((he0.tr hx).st2 (by simp) _ _).st2 (by simp) _ _)⟩
set_option linter.unusedSimpArgs false
set_option maxRecDepth 100000
set_option maxHeartbeats 1000000
open Go.RowKit
structure Only (b:Nat) (w w':World):Prop where
 os:w'.os=w.os
 tape:w'.tape=w.tape
 output:w'.output=w.output
 size:w.heap.size≤w'.heap.size
 block:∀k,k≠b→k<w.heap.size→w'.heap[k]? = w.heap[k]?
theorem Only.rf (b:Nat) (w:World):Only b w w:=⟨rfl,rfl,rfl,z95 _,fun _ _ _=>rfl⟩
theorem Only.st {b:Nat}{w w':World} (h:Only b w w') (i:Nat) (u:Value):Only b w (w'.setCell ⟨b,i,none⟩ u):=by
 refine⟨h.os,h.tape,h.output,?_,fun k hk hl=>(Below.heap_setCell w' _ u k hk).trans (h.block k hk hl)⟩;have:=h.size;simpa[World.setCell] using this
theorem Only.ext {b:Nat}{a w w':World} (h:Only b w w') (e:Ext a w) (hb:a.heap.size≤b):Ext a w':=
 ⟨h.os.trans e.os,h.tape.trans e.tape,h.output.trans e.output,z9E e.size h.size,fun k hk=>(h.block k (by omega) (z9n hk e.size)).trans (e.block k hk)⟩
theorem Own.only {b c:Nat}{w w':World}{T:TypeId}{k:IntKind}{l:List Int} (h:Own w b T k l) (e:Only c w w') (hne:b≠c):Own w' b T k l:=(e.block b hne h.lt).trans h
theorem WO {x:Int} (h:0≤x∧x≤18446744073709551615):bits BinOp.and IntKind.u64 x 4294967295=x % 4294967296:=by
 rw[u64_and _ _ (by omega) (by omega) (by omega) (by omega)];obtain⟨n,rfl⟩:=z9W h.1;have e:((n:Int).toNat &&& (4294967295:Int).toNat)=n % 4294967296:=Nat.and_two_pow_sub_one_eq_mod n 32;rw[e];omega
theorem WP {u c b:Int} (hu:0≤u∧u≤4294967295) (hc:0≤c∧c≤18446744073709551615) (hb:0≤b∧b≤1) :
  IntKind.u64.wrap (IntKind.u64.wrap (u-bits BinOp.and IntKind.u64 c 4294967295)-b) % 4294967296=(u-c % 4294967296-b) % 4294967296 ∧
  IntKind.u64.wrap (IntKind.u64.wrap (u-bits BinOp.and IntKind.u64 c 4294967295)-b) / 9223372036854775808=bor u (c % 4294967296) b:=by
 rw[WO hc];have h:0≤c % 4294967296∧c % 4294967296≤4294967295:=by omega
 generalize c % 4294967296=d at *;rw[IntKind.wrap_u64,IntKind.wrap_u64];unfold bor;split<;>omega
theorem tx {u d b:Int} (hu:0≤u∧u≤4294967295) (hd:0≤d∧d≤4294967295) (hb:0≤b∧b≤1):(u-d-b) % 4294967296=u-d-b+4294967296*bor u d b:=by
 unfold bor;split<;>omega
theorem WQ {V L0 u cc bb bo v g bj bk W d:Int} (h:V=L0+bj*(bk*(cc+bb)-g*W)) (hd:d=u-(cc+v*g) % 4294967296-bb+4294967296*bo) :
  V+(d-u)*(bj*bk)=L0+bj*(bk*4294967296*((cc+v*g) / 4294967296+bo)-g*(W+v*bk)):=by
 have h1:=z9i (cc+v*g) 4294967296;generalize (cc+v*g) / 4294967296=q at *;generalize (cc+v*g) % 4294967296=s at *;subst h;subst hd;have e:s=cc+v*g-4294967296*q:=by omega
 subst e;grind
theorem WS {V L0 u cc bb bo g bj bk W d:Int} (h:V=L0+bj*(bk*(cc+bb)-g*W)) (hd:d=u-cc-bb+4294967296*bo) :
  V+(d-u)*(bj*bk)=L0-bj*(g*W)+bj*(bk*4294967296)*bo:=by
 subst h;subst hd;grind
theorem WT {u c b:Int} (hu:0≤u∧u≤4294967295) (hc:0≤c∧c≤4294967295) (hb:0≤b∧b≤1) :
  IntKind.u64.wrap (IntKind.u64.wrap (u-c)-b) % 4294967296=(u-c-b) % 4294967296 ∧
  IntKind.u64.wrap (IntKind.u64.wrap (u-c)-b) / 9223372036854775808=bor u c b:=by
 rw[IntKind.wrap_u64,IntKind.wrap_u64];unfold bor;split<;>omega
theorem WU (u d b:Int):bor u d b=0∨bor u d b=1:=by unfold bor;split<;>simp
def WV (w:World) (b j n:Nat) (L:List Int) (z top:Int) (e:Ending) (w':World):Prop:=
 ∃(L':List Int) (c:Int),e = .returned (.bool (decide (0<c)))∧(c=0∨c=1)∧Own w' b 173 .u32 L'∧L'.length=L.length∧Dig L'∧(∀i,j+n<i→at_ L' i=at_ L i)∧valL L'=z+top*c∧Only b w w'
theorem n7 (b j n bv cu cv:Nat) (L lv:List Int) (g:Int) (w:World) (hu:Own w b 173 .u32 L) (hdu:Dig L) (hj:j+n<L.length) (_hL:L.length≤1099511627776) (hcu:n+1≤cu)
  (hcm:cu≤9223372036854775807) (hv:Own w bv 173 .u32 lv) (hdv:Dig lv) (hn:n≤lv.length) (hne:bv≠b) (hg:0≤g∧g≤4294967295) :
  Calls Tryz.prog 143 #[.slice (some ⟨b,j,none⟩) (n+1) cu,.slice (some ⟨bv,0,none⟩) n cv,.int .u32 g] w
   (WV w b j n L (valL L-4294967296^j*(g*valL (lv.take n))) (4294967296^j*4294967296^(n+1))):=by
 go_enter Tryz.func143,Tryz.ntmps143;go_wp2;go_loopw [7,8,15] (fun bo ca i wr => ∃(k:Nat) (bb cc:Int) (o:List Int),bo = .int .u64 bb∧ca = .int .u64 cc∧i = .int .i64 k∧k≤n∧(0≤bb∧bb≤1)∧(0≤cc∧cc≤4294967295)∧Own wr b 173 .u32 o∧o.length=L.length∧Dig o ∧
   valL o=valL L+4294967296^j*(4294967296^k*(cc+bb)-g*valL (lv.take k))∧(∀i,j+k≤i→at_ o i=at_ L i)∧Only b w wr) (fun _ _ i _=>n-(intOf i).toNat)
 case atStart=>exact⟨0,0,0,L,rfl,rfl,rfl,z9O _,by omega,by omega,hu,rfl,hdu,by simp[valL],fun _ _=>rfl,Only.rf _ _⟩
 case round =>
  obtain⟨k,bb,cc,o,rfl,rfl,rfl,hk,hbb,hcc,hown,hol,hdo,hval,hsame,hx⟩:=hrel;replace hval:=hd_ hval;replace hol:=hd_ hol;replace hsame:=hd_ hsame;by_cases hlt:k<n
  ·have gv:=(hv.only hx hne).cell (i:=k) (by omega);have fv:=hdv.at_ k;have go:=hown.cell (i:=j+k) (by have:=hol.out;omega);have gf:=hown.frozen (j+k);have fo:=hdo.at_ (j+k);have fm:=mul_bound fv hg;go_wp2;have hcc2:0≤cc+at_ lv k*g∧cc+at_ lv k*g≤18446744069414584320:=by omega
   obtain⟨c1,c2⟩:=WP (u:=at_ o (j+k)) (c:=cc+at_ lv k*g) (b:=bb) fo (by omega) hbb;have c3:=tx (u:=at_ o (j+k)) (d:=(cc+at_ lv k*g) % 4294967296) (b:=bb) fo (by omega) hbb;rw[c1,c2];go_roundw
   case rel =>
    refine⟨k+1,_,_,o.set (j+k) _,rfl,rfl,rfl,by omega,o6 _ _ _,by omega,hown.set _ _,by rw[z9R];exact hol.out,hdo.set _ (by omega),?_,fun i hi => ?_,hx.st _ _⟩
    ·rw[valL_set_full (by have:=hol.out;omega),valL_take_succ,pow_add',z9H];exact WQ hval.out c3
    ·rw[cC (by omega)];exact hsame.out i (by omega)
   case measure=>first | (simp[intOf];done) | (simp[intOf];omega)
  ·obtain rfl:k=n:=by omega
   have go:=hown.cell (i:=j+k) (by have:=hol.out;omega);have gf:=hown.frozen (j+k);have fo:=hdo.at_ (j+k);go_wp2;obtain⟨c1,c2⟩:=WT (u:=at_ o (j+k)) (c:=cc) (b:=bb) fo hcc hbb;have c3:=tx (u:=at_ o (j+k)) (d:=cc) (b:=bb) fo hcc hbb;rw[c1,c2];go_ret;refine⟨o.set (j+k) _,bor (at_ o (j+k)) cc bb,rfl,WU _ _ _,hown.set _ _,by rw[z9R];exact hol.out,hdo.set _ (by omega),fun i hi => ?_,?_,hx.st _ _⟩
   ·rw[cC (by omega)];exact hsame.out i (by omega)
   ·rw[valL_set_full (by have:=hol.out;omega),pow_add',z9H];exact WS hval.out c3
theorem WW {V L0 u v c bj bk W d d':Int} (h:V=L0+bj*(W-bk*c)) (hd:d=(u+v+c) % 4294967296) (hd':d'=(u+v+c) / 4294967296) :
  V+(d-u)*(bj*bk)=L0+bj*(W+v*bk-bk*4294967296*d'):=by
 have h1:=z9i (u+v+c) 4294967296;rw[←hd,←hd'] at h1;have e:d=u+v+c-4294967296*d':=by omega
 subst h;subst e;grind
theorem WX {V L0 u c bj bk W d d':Int} (h:V=L0+bj*(W-bk*c)) (hd:d=(u+c) % 4294967296) (hd':d'=(u+c) / 4294967296) :
  V+(d-u)*(bj*bk)=L0+bj*W-bj*(bk*4294967296)*d':=by
 have h1:=z9i (u+c) 4294967296;rw[←hd,←hd'] at h1;have e:d=u+c-4294967296*d':=by omega
 subst h;subst e;grind
def WY (w:World) (b j n:Nat) (L:List Int) (z top:Int) (e:Ending) (w':World):Prop:=
 ∃(L':List Int) (c:Int),e = .returned (.tuple #[])∧(c=0∨c=1)∧Own w' b 173 .u32 L'∧L'.length=L.length∧Dig L'∧(∀i,j+n<i→at_ L' i=at_ L i)∧valL L'=z-top*c∧Only b w w'
theorem od (b j n bv cu cv:Nat) (L lv:List Int) (w:World) (hu:Own w b 173 .u32 L) (hdu:Dig L) (hj:j+n<L.length) (_hL:L.length≤1099511627776) (hcu:n+1≤cu)
  (hcm:cu≤9223372036854775807) (hv:Own w bv 173 .u32 lv) (hdv:Dig lv) (hn:n≤lv.length) (hne:bv≠b) :
  Calls Tryz.prog 144 #[.slice (some ⟨b,j,none⟩) (n+1) cu,.slice (some ⟨bv,0,none⟩) n cv] w
   (WY w b j n L (valL L+4294967296^j*valL (lv.take n)) (4294967296^j*4294967296^(n+1))):=by
 go_enter Tryz.func144,Tryz.ntmps144;go_wp2;go_loopw [4,9] (fun ca i wr => ∃(k:Nat) (cc:Int) (o:List Int),ca = .int .u32 cc∧i = .int .i64 k∧k≤n∧(0≤cc∧cc≤1)∧Own wr b 173 .u32 o∧o.length=L.length∧Dig o ∧
   valL o=valL L+4294967296^j*(valL (lv.take k)-4294967296^k*cc)∧(∀i,j+k≤i→at_ o i=at_ L i)∧Only b w wr) (fun _ i _=>n-(intOf i).toNat)
 case atStart=>exact⟨0,0,L,rfl,rfl,z9O _,by omega,hu,rfl,hdu,by simp[valL],fun _ _=>rfl,Only.rf _ _⟩
 case round =>
  obtain⟨k,cc,o,rfl,rfl,hk,hcc,hown,hol,hdo,hval,hsame,hx⟩:=hrel;replace hval:=hd_ hval;replace hol:=hd_ hol;replace hsame:=hd_ hsame;by_cases hlt:k<n
  ·have gv:=(hv.only hx hne).cell (i:=k) (by omega);have fv:=hdv.at_ k;have go:=hown.cell (i:=j+k) (by have:=hol.out;omega);have gf:=hown.frozen (j+k);have fo:=hdo.at_ (j+k);go_wp2_with (go_at_call 150;refine (jk _ _ _ _ fo fv hcc).mono ?_;rintro e w' ⟨rfl,rfl⟩);go_roundw
   case rel =>
    refine⟨k+1,_,o.set (j+k) _,rfl,rfl,by omega,by omega,hown.set _ _,by rw[z9R];exact hol.out,hdo.set _ (by omega),?_,fun i hi => ?_,hx.st _ _⟩
    ·rw[valL_set_full (by have:=hol.out;omega),valL_take_succ,pow_add',z9H];exact WW hval.out rfl rfl
    ·rw[cC (by omega)];exact hsame.out i (by omega)
   case measure=>first | (simp[intOf];done) | (simp[intOf];omega)
  ·obtain rfl:k=n:=by omega
   have go:=hown.cell (i:=j+k) (by have:=hol.out;omega);have gf:=hown.frozen (j+k);have fo:=hdo.at_ (j+k);go_wp2;go_end0;refine⟨o.set (j+k) _,(at_ o (j+k)+cc) / 4294967296,rfl,by omega,hown.set _ _,by rw[z9R];exact hol.out,hdo.set _ (by omega),fun i hi => ?_,?_,hx.st _ _⟩
   ·rw[cC (by omega)];exact hsame.out i (by omega)
   ·rw[valL_set_full (by have:=hol.out;omega),pow_add',z9H,Int.mul_assoc];have:=WX (d:=(at_ o (j+k)+cc) % 4294967296) hval.out rfl rfl;rw[Int.mul_assoc] at this;exact this
end Go.Proofs.YtbnhgnhgbhjkcaaGreat
