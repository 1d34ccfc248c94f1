/- Lemmas. -/
import Derived.Test.YtdchbabgopglcaaC14
namespace Go.Proofs.Ytdchbabgopglcaa.M
open Go.RowKit
section
variable {G:FuncId→List D→D→Prop}{c c1 c2:COp}{K K':St→Prop}{s:St}{r r':Nat→AV}{m m':Mem}{v:AV}
theorem bP {x:Option (Bool×AV×St)}{p:Bool}{v:AV}{m:Mem} (h:cW x=some (p,v,m)):∃t,x=some (p,v,t)∧t.m=m:=by
 cases x with
 |none=>simp[cW] at h
 |some x=>obtain⟨p',v',t⟩:=x;simp only[cW,Option.some.injEq,Prod.mk.injEq] at h;obtain⟨rfl,rfl,rfl⟩:=h;exact⟨t,rfl,rfl⟩
theorem RR {o:AOp}{id:Nat} (hk:o.kind=0) (m m2:Mem):cW (ev o id ⟨r,m⟩)=(cW (ev o id ⟨r,m2⟩)).map (fun x=>(x.1,x.2.1,m)):=by
 cases o<;>simp only[AOp.kind,reduceCtorEq] at hk<;>try omega
 case extract x i=>simp only[ev];(split<;>(try rfl))<;>(rename_i l _;cases l[i]?<;>rfl)
 all_goals (simp only[ev];(repeat' split)<;>rfl)
theorem Out.pure (hk:c.op.kind=0) (h:Out G c r m v m'):m'=m∧∀m2,Out G c r m2 v m2:=by
 have hn:∀f args,c.op≠.call f args:=by intro f args e;rw[e] at hk;simp[AOp.kind] at hk
 have hn2:∀fs x args,c.op≠.callv fs x args:=by intro fs x args e;rw[e] at hk;simp[AOp.kind] at hk
 have hn3:∀f T args,c.op≠.callN f T args:=by intro f T args e;rw[e] at hk;simp[AOp.kind] at hk
 have hn4:∀f T args,c.op≠.callW f T args:=by intro f T args e;rw[e] at hk;simp[AOp.kind] at hk
 have ho:∀m v m',Out G c r m v m'=(cW (ev c.op (c.dst.getD 0) ⟨r,m⟩)=some (true,v,m')):=by
  intro m v m';unfold Out;cases hc:c.op<;>first | (exact absurd hc (hn _ _)) | (exact absurd hc (hn2 _ _ _)) | (exact absurd hc (hn3 _ _ _)) | (exact absurd hc (hn4 _ _ _)) | rfl
 rw[ho] at h;have key:∀m2,cW (ev c.op (c.dst.getD 0) ⟨r,m2⟩)=some (true,v,m2):=by
  intro m2;rw[RR hk m2 m,h];rfl
 have:=key m;rw[h] at this;simp only[Option.some.injEq,Prod.mk.injEq,true_and] at this;exact⟨this,fun m2=>by rw[ho];exact key m2⟩
theorem mB {any:Bool}{M M':Mem} (h:∀i o,M i=some o→M' i=some o):∀(n:Nat),(∀(x:AV) (d:D),x.toD any M n=some d→x.toD any M' n=some d)∧(∀(l:List AV) (ds:List D),cK any M n l=some ds→cK any M' n l=some ds):=by
 intro n;induction n with
 |zero=>exact⟨fun x d hd=>by simp[AV.toD] at hd,fun l ds hd=>by simp[cK] at hd⟩
 |succ n ih =>
  refine⟨fun x d hd => ?_,fun l ds hd => ?_⟩
  ·cases x with
   |und=>simp[AV.toD] at hd
   |cell=>simp[AV.toD] at hd
   |p e=>simpa[AV.toD] using hd
   |nils T sz=>simpa[AV.toD] using hd
   |agg l =>
    simp only[AV.toD,Option.map_eq_some_iff] at hd ⊢;obtain⟨ds,h1,h2⟩:=hd;exact⟨ds,ih.2 l ds h1,h2⟩
   |tup l =>
    simp only[AV.toD,Option.map_eq_some_iff] at hd ⊢;obtain⟨ds,h1,h2⟩:=hd;exact⟨ds,ih.2 l ds h1,h2⟩
   |slice i off len =>
    simp only[AV.toD] at hd ⊢;split at hd
    case h_2=>cases hd
    rename_i o ho;rw[h i o ho];exact hd
   |arr i off len =>
    simp only[AV.toD] at hd ⊢;split at hd
    case h_2=>cases hd
    rename_i o ho;rw[h i o ho];exact hd
   |ptr i j off =>
    simp only[AV.toD] at hd ⊢;split at hd
    case isFalse=>cases hd
    rename_i hij;rw[if_pos hij];split at hd
    case h_2=>cases hd
    rename_i o ho;rw[h i o ho];simp only;split at hd
    case h_2=>cases hd
    rename_i u hu;(try rw[hu]);(try simp only);split at hd
    case isFalse=>cases hd
    rename_i hf;rw[if_pos hf];simp only[Option.map_eq_some_iff] at hd ⊢;obtain⟨e,h1,h2⟩:=hd;exact⟨e,ih.1 u e h1,h2⟩
  ·cases l with
   |nil=>simpa[cK] using hd
   |cons x l =>
    simp only[cK] at hd ⊢;split at hd
    case h_2=>cases hd
    rename_i d ds' h1 h2;rw[ih.1 x d h1,ih.2 l ds' h2];exact hd
theorem kt {M M':Mem} (h:∀i o,M i=some o→M' i=some o):∀(l:List Opd) (ds:List D),aV ⟨r,M⟩ l=some ds→aV ⟨r,M'⟩ l=some ds
 |[],ds,hd=>by simpa[aV] using hd
 |x::l,ds,hd=>by
  simp only[aV] at hd ⊢;split at hd
  case h_2=>cases hd
  rename_i d ds' h1 h2;rw[(mB h 20).1 _ _ h1,kt h l ds' h2];exact hd
theorem mC {M M':Mem} (h:∀i o,M i=some o→M' i=some o):∀(l:List Opd) (ds:List D),ck r M l=some ds→ck r M' l=some ds
 |[],ds,hd=>by simpa[ck] using hd
 |x::l,ds,hd=>by
  simp only[ck] at hd ⊢;split at hd
  case h_2=>cases hd
  rename_i d ds' h1 h2;rw[(mB h 20).1 _ _ h1,mC h l ds' h2];exact hd
theorem RS {sz:Nat}{m m2:Mem}{v:AV}{ys:List D} (hm:∀i o,m i=some o→m2 i=some o) (h:bx sz m v=some ys):bx sz m2 v=some ys:=by
 unfold bx at h ⊢;split at h
 ·split at h
  case h_2=>cases h
  rename_i h1;simp only[hm _ _ h1];exact h
 ·exact h
 ·exact h
 ·cases h
theorem Out.read (hk:c.op.kind=1) (h:Out G c r m v m'):m'=m∧∀m2,(∀i o,m i=some o→m2 i=some o)→Out G c r m2 v m2:=by
 unfold Out at *;cases hc:c.op<;>simp only[hc,AOp.kind,reduceCtorEq] at hk h ⊢<;>try omega
 case call f args =>
  obtain⟨ds,d,h1,h2,h3,rfl⟩:=h;exact⟨rfl,fun m2 hm=>⟨ds,d,kt hm _ _ h1,h2,h3,(by first | rfl | trivial)⟩⟩
 case callv fs x args =>
  obtain⟨f,a,b,ds,d,h0,h1,h2,h3,h4,rfl⟩:=h;exact⟨rfl,fun m2 hm=>⟨f,a,b,ds,d,(mB hm 20).1 _ _ h0,kt hm _ _ h1,h2,h3,h4,(by first | rfl | trivial)⟩⟩
 case strB x =>
  obtain⟨t,h1,rfl⟩:=bP h;simp only[ev] at h1 ⊢;split at h1
  case h_2=>cases h1
  rename_i ys hys;split at h1
  case h_2=>cases h1
  rename_i b hb;simp only[Option.some.injEq,Prod.mk.injEq,true_and] at h1;obtain⟨rfl,rfl⟩:=h1;exact⟨rfl,fun m2 hm2=>by rw[RS hm2 hys];simp only[hb];rfl⟩
 case fnv fn x y =>
  obtain⟨t,h1,rfl⟩:=bP h;simp only[ev] at h1 ⊢;split at h1
  case h_2=>cases h1
  rename_i l k hl hk';simp only[Option.some.injEq,Prod.mk.injEq,true_and] at h1;obtain⟨rfl,rfl⟩:=h1;exact⟨rfl,fun m2 hm2=>by rw[mC hm2 _ _ hl,mC hm2 _ _ hk'];rfl⟩
 case load ag sz x =>
  obtain⟨t,h1,rfl⟩:=bP h;simp only[ev] at h1 ⊢;split at h1
  ·rename_i i j off hx;(try rw[hx]);(try simp only);split at h1
   ·rename_i T osz l frz hm;split at h1
    case h_2=>cases h1
    rename_i u hu;simp only[Option.some.injEq,Prod.mk.injEq] at h1;obtain⟨h2,rfl,rfl⟩:=h1;refine⟨rfl,fun m2 hm2 => ?_⟩;rw[hm2 _ _ hm];simp only[hu,h2];rfl
   ·rename_i T osz u frz hm;split at h1
    case isFalse=>cases h1
    rename_i hj;split at h1
    case h_2=>cases h1
    rename_i z hz;simp only[Option.some.injEq,Prod.mk.injEq,true_and] at h1;obtain⟨rfl,rfl⟩:=h1;refine⟨rfl,fun m2 hm2 => ?_⟩;rw[hm2 _ _ hm];simp only[hz,hj,if_true];rfl
   ·cases h1
  ·rename_i e hx;(try rw[hx]);(try simp only);split at h1
   case isFalse=>cases h1
   rename_i hag;simp only[Option.some.injEq,Prod.mk.injEq] at h1;obtain⟨h2,rfl,rfl⟩:=h1;refine⟨rfl,fun m2 hm2 => ?_⟩;rw[if_pos hag,h2];rfl
  ·cases h1
 case slice sz x lo hi mx =>
  obtain⟨t,h1,rfl⟩:=bP h;simp only[ev] at h1 ⊢;split at h1
  ·rename_i T sz' l hx;(try rw[hx]);(try simp only);split at h1
   case isFalse=>cases h1
   rename_i hs;split at h1
   case h_2=>cases h1
   rename_i cc a b hb;simp only[Option.some.injEq,Prod.mk.injEq] at h1;obtain⟨h2,rfl,rfl⟩:=h1;exact⟨rfl,fun m2 hm2=>by (try simp only[hs,if_true]);(try simp only[hb]);(try simp only[h2]);rfl⟩
  ·rename_i i off len hx;(try rw[hx]);(try simp only);split at h1
   case h_2=>cases h1
   rename_i ob hob;split at h1
   case isFalse=>cases h1
   rename_i hs;split at h1
   case h_2=>cases h1
   rename_i cc a b hb;simp only[Option.some.injEq,Prod.mk.injEq] at h1;obtain⟨h2,rfl,rfl⟩:=h1;exact⟨rfl,fun m2 hm2=>by rw[hm2 _ _ hob];(try simp only[hs,if_true]);(try simp only[hb]);(try simp only[h2]);rfl⟩
  ·rename_i T sz' hx;(try rw[hx]);(try simp only);split at h1
   case h_2=>cases h1
   rename_i cc a b hb;simp only[Option.some.injEq,Prod.mk.injEq] at h1;obtain⟨h2,rfl,rfl⟩:=h1;exact⟨rfl,fun m2 hm2=>by (try simp only[hb]);(try simp only[h2]);rfl⟩
  ·rename_i T sz' hx;(try rw[hx]);(try simp only);split at h1
   case h_2=>cases h1
   rename_i cc a b hb;simp only[Option.some.injEq,Prod.mk.injEq] at h1;obtain⟨h2,rfl,rfl⟩:=h1;exact⟨rfl,fun m2 hm2=>by (try simp only[hb]);(try simp only[h2]);rfl⟩
  ·rename_i i off len hx;(try rw[hx]);(try simp only);split at h1
   case isFalse=>cases h1
   rename_i hs;split at h1
   case h_2=>cases h1
   rename_i cc a b hb;simp only[Option.some.injEq,Prod.mk.injEq] at h1;obtain⟨h2,rfl,rfl⟩:=h1;exact⟨rfl,fun m2 hm2=>by (try simp only[hs,if_true]);(try simp only[hb]);(try simp only[h2]);rfl⟩
  ·cases h1
 case sliceA n x lo hi mx =>
  obtain⟨t,h1,rfl⟩:=bP h;simp only[ev] at h1 ⊢;split at h1
  case h_2=>cases h1
  rename_i i off hx;(try rw[hx]);(try simp only);split at h1
  case h_2=>cases h1
  rename_i T osz u frz hob;split at h1
  case isFalse=>cases h1
  rename_i hs;split at h1
  case h_2=>cases h1
  rename_i cc a b hb;simp only[Option.some.injEq,Prod.mk.injEq] at h1;obtain⟨h2,rfl,rfl⟩:=h1;exact⟨rfl,fun m2 hm2=>by rw[hm2 _ _ hob];simp only[if_pos hs];(try simp only[hb]);(try simp only[h2]);rfl⟩
 case indexAddr sz x i =>
  obtain⟨t,h1,rfl⟩:=bP h;simp only[ev] at h1 ⊢;split at h1
  ·rename_i T sz' l n hx hi;(try rw[hx,hi]);(try simp only);split at h1
   case isFalse=>cases h1
   rename_i hs;simp only[Option.some.injEq,Prod.mk.injEq] at h1;obtain⟨h2,rfl,rfl⟩:=h1;exact⟨rfl,fun m2 hm2=>by (try simp only[hs,if_true]);(try simp only[h2]);rfl⟩
  ·rename_i j off len n hx hi;(try rw[hx,hi]);(try simp only);split at h1
   case h_2=>cases h1
   rename_i ob hob;split at h1
   case isFalse=>cases h1
   rename_i hs;simp only[Option.some.injEq,Prod.mk.injEq] at h1;obtain⟨h2,rfl,rfl⟩:=h1;exact⟨rfl,fun m2 hm2=>by rw[hm2 _ _ hob];(try simp only[hs,if_true]);(try simp only[h2]);rfl⟩
  ·rename_i j off len n hx hi;(try rw[hx,hi]);(try simp only);split at h1
   case isFalse=>cases h1
   rename_i hs;simp only[Option.some.injEq,Prod.mk.injEq] at h1;obtain⟨h2,rfl,rfl⟩:=h1;exact⟨rfl,fun m2 hm2=>by (try simp only[hs,if_true]);(try simp only[h2]);rfl⟩
  ·cases h1
theorem Out.made (hk:c.op.kind=2) (h:Out G c r m v m'):m (c.dst.getD 0)=none∧∃ob,m'=upd m (c.dst.getD 0) (some ob)∧∀m2:Mem,m2 (c.dst.getD 0)=none→Out G c r m2 v (upd m2 (c.dst.getD 0) (some ob)):=by
 unfold Out at *;cases hc:c.op<;>simp only[hc,AOp.kind,reduceCtorEq] at hk h ⊢<;>try omega
 case alloc T sz z =>
  obtain⟨t,h1,rfl⟩:=bP h;simp only[ev] at h1 ⊢;split at h1
  case h_2=>cases h1
  rename_i hid;simp only[Option.some.injEq,Prod.mk.injEq,true_and] at h1;obtain⟨rfl,rfl⟩:=h1;exact⟨hid,_,rfl,fun m2 hm2=>by rw[hm2];rfl⟩
 case box T sz x =>
  obtain⟨t,h1,rfl⟩:=bP h;simp only[ev] at h1 ⊢;split at h1
  case h_2=>cases h1
  rename_i hid;split at h1
  case isFalse=>cases h1
  rename_i hcc;simp only[Option.some.injEq,Prod.mk.injEq,true_and] at h1;obtain⟨rfl,rfl⟩:=h1;exact⟨hid,_,rfl,fun m2 hm2=>by rw[hm2];simp only;rw[if_pos hcc];rfl⟩
 case bytS T x =>
  obtain⟨t,h1,rfl⟩:=bP h;simp only[ev] at h1 ⊢;split at h1
  case h_2=>cases h1
  rename_i hid;split at h1
  case h_2=>cases h1
  rename_i q hq;simp only[Option.some.injEq,Prod.mk.injEq] at h1;obtain⟨h2,rfl,rfl⟩:=h1;exact⟨hid,_,rfl,fun m2 hm2=>by rw[hm2];(try simp only[h2]);rfl⟩
 case makeSlice T sz b z l cc =>
  obtain⟨t,h1,rfl⟩:=bP h;simp only[ev] at h1 ⊢;split at h1
  case h_2=>cases h1
  rename_i hid;split at h1
  case h_2=>cases h1
  rename_i n k hn hk;simp only[Option.some.injEq,Prod.mk.injEq] at h1;obtain⟨h2,rfl,rfl⟩:=h1;exact⟨hid,_,rfl,fun m2 hm2=>by rw[hm2];(try simp only[h2]);rfl⟩
 case appZ T sz b z x n =>
  obtain⟨t,h1,rfl⟩:=bP h;simp only[ev] at h1 ⊢;split at h1
  case h_2=>cases h1
  rename_i hid;split at h1
  case h_2=>cases h1
  rename_i T' sz' k hx hk;split at h1
  case isFalse=>cases h1
  rename_i hcc;simp only[Option.some.injEq,Prod.mk.injEq] at h1;obtain⟨h2,rfl,rfl⟩:=h1;exact⟨hid,_,rfl,fun m2 hm2=>by rw[hm2];(try simp only);rw[if_pos hcc,h2];rfl⟩
 case buildSliceP T sz z n ps =>
  obtain⟨t,h1,rfl⟩:=bP h;simp only[ev] at h1 ⊢;split at h1
  case h_2=>cases h1
  rename_i hid;split at h1
  case h_2=>cases h1
  rename_i q hq;simp only[Option.some.injEq,Prod.mk.injEq,true_and] at h1;obtain⟨rfl,rfl⟩:=h1;exact⟨hid,_,rfl,fun m2 hm2=>by rw[hm2];rfl⟩
theorem Out.built (hk:c.op.kind=3) (h:Out G c r m v m'):m (c.dst.getD 0)=none∧∃ob,m'=upd m (c.dst.getD 0) (some ob):=by
 unfold Out at *;cases hc:c.op<;>simp only[hc,AOp.kind,reduceCtorEq] at hk h ⊢<;>try omega
 case buildSlice T sz z n ps =>
  obtain⟨t,h1,rfl⟩:=bP h;simp only[ev] at h1;split at h1
  case h_2=>cases h1
  rename_i hid;split at h1
  case h_2=>cases h1
  simp only[Option.some.injEq,Prod.mk.injEq,true_and] at h1;obtain⟨rfl,rfl⟩:=h1;exact⟨hid,_,rfl⟩
 case buildSliceF T sz z n ps =>
  obtain⟨t,h1,rfl⟩:=bP h;simp only[ev] at h1;split at h1
  case isTrue=>cases h1
  split at h1
  case h_2=>cases h1
  rename_i hid;split at h1
  case h_2=>cases h1
  simp only[Option.some.injEq,Prod.mk.injEq,true_and] at h1;obtain⟨rfl,rfl⟩:=h1;exact⟨hid,_,rfl⟩
 case copyS T sz b y =>
  obtain⟨t,h1,rfl⟩:=bP h;simp only[ev] at h1;split at h1
  case h_2=>cases h1
  rename_i ys hid hys;simp only[Option.some.injEq,Prod.mk.injEq] at h1;obtain⟨-,rfl,rfl⟩:=h1;exact⟨hid,_,rfl⟩
 case copyF T sz b y =>
  obtain⟨t,h1,rfl⟩:=bP h;simp only[ev] at h1;split at h1
  case isTrue=>cases h1
  split at h1
  case h_2=>cases h1
  rename_i ys hid hys;simp only[Option.some.injEq,Prod.mk.injEq] at h1;obtain⟨-,rfl,rfl⟩:=h1;exact⟨hid,_,rfl⟩
 case callN f T args =>
  obtain⟨ds,sz,l,h1,h2,h3,rfl,rfl⟩:=h;exact⟨h2,_,rfl⟩
def dJ:AV→AV→Bool
 |.ptr i _ _,.ptr j _ _=>i != j
 |.p (.ref _),.ptr _ _ _=>true
 |.ptr _ _ _,.und=>true
 |.p (.ref _),.und=>true
 |_,_=>false
theorem Out.load_store {ag:Bool}{sz sz2:Nat}{x y z:Opd}{v2:AV}{m2:Mem} (h1:c1.op = .load ag sz x) (h2:c2.op = .store sz2 y z) (ha:dJ (x.ev r) (y.ev r)=true) (ho1:Out G c1 r m v m') (ho2:Out G c2 r m v2 m2):Out G c1 r m2 v m2:=by
 have hm2:∃(j:Nat) (o:Nat×Nat) (o':Option AObj),y.ev r = .ptr j o.1 o.2∧m2=upd m j o':=by
  unfold Out at ho2;rw[h2] at ho2;simp only at ho2;obtain⟨t,g1,rfl⟩:=bP ho2;simp only[ev] at g1;split at g1
  case h_2=>cases g1
  rename_i i j off hy;split at g1
  ·split at g1
   case h_2=>cases g1
   split at g1
   case isFalse=>cases g1
   split at g1
   ·simp only[Option.some.injEq,Prod.mk.injEq] at g1;obtain⟨-,-,rfl⟩:=g1;exact⟨i,(j,off),_,hy,rfl⟩
   ·split at g1<;>simp only[Option.some.injEq,Prod.mk.injEq,reduceCtorEq] at g1
    obtain⟨-,-,rfl⟩:=g1;exact⟨i,(j,off),_,hy,rfl⟩
  ·split at g1
   case isFalse=>cases g1
   split at g1
   ·simp only[Option.some.injEq,Prod.mk.injEq] at g1;obtain⟨-,-,rfl⟩:=g1;exact⟨i,(j,off),_,hy,rfl⟩
   ·split at g1<;>simp only[Option.some.injEq,Prod.mk.injEq,reduceCtorEq] at g1
    obtain⟨-,-,rfl⟩:=g1;exact⟨i,(j,off),_,hy,rfl⟩
  ·split at g1
   case isFalse=>cases g1
   split at g1<;>simp only[Option.some.injEq,Prod.mk.injEq,reduceCtorEq] at g1
   obtain⟨-,-,rfl⟩:=g1;exact⟨i,(j,off),_,hy,rfl⟩
  ·cases g1
 obtain⟨j,o,o',hy,rfl⟩:=hm2;unfold Out at ho1 ⊢;rw[h1] at ho1 ⊢;simp only at ho1 ⊢;obtain⟨t,g1,rfl⟩:=bP ho1;simp only[ev] at g1 ⊢;cases hx:x.ev r with
 |ptr i k off =>
  rw[hx,hy] at ha;simp only[dJ,bne_iff_ne,ne_eq] at ha;rw[hx] at g1;simp only at g1 ⊢;rw[aA _ _ ha];split at g1
  ·rename_i T osz l frz hm;split at g1
   case h_2=>cases g1
   rename_i u hu;simp only[Option.some.injEq,Prod.mk.injEq] at g1;obtain⟨h3,rfl,rfl⟩:=g1;(try simp only[hu]);(try simp only[h3]);rfl
  ·rename_i T osz u frz hm;split at g1
   case isFalse=>cases g1
   rename_i hj;split at g1
   case h_2=>cases g1
   rename_i q hq;simp only[Option.some.injEq,Prod.mk.injEq,true_and] at g1;obtain⟨rfl,rfl⟩:=g1;(try simp only[hj,if_true]);(try simp only[hq]);rfl
  ·cases g1
 |p d =>
  rw[hx] at g1;cases d with
  |ref e =>
   simp only at g1 ⊢;split at g1
   case isFalse=>cases g1
   rename_i hag;simp only[Option.some.injEq,Prod.mk.injEq] at g1;obtain⟨h3,rfl,rfl⟩:=g1;(try simp only[hag,if_true]);(try simp only[h3]);rfl
  |_=>simp at g1
 |_=>rw[hx] at g1;simp at g1
end
end Go.Proofs.Ytdchbabgopglcaa.M
namespace Go.Proofs.Ytdchbabgopglcaa
open Go.RowKit
set_option maxRecDepth 100000
set_option maxHeartbeats 1000000
def kL (w:World) (n:Nat) (p z:Int) (e:Ending) (w':World):Prop:=
 ∃(s:SV) (l:List Int) (b:Bool),e = .returned (.tuple #[.slice s.a s.len s.cap,.bool b])∧IsL w' s .u32 l∧l.length=n∧p*valL l=z∧Ext w w'
theorem kM {r:Nat}{x:Int} (hr:r<32) (hx:0≤x∧x≤4294967295):0≤x / 2^r∧x / 2^r≤4294967295:=by
 have h2:=dK hr;refine⟨Int.ediv_nonneg hx.1 (by omega),?_⟩;have:=Int.ediv_le_self (2^r) hx.1;omega
theorem yT {r:Nat}{x y:Int} (hr:r<32) (hr0:0<r) (hx:0≤x∧x≤4294967295) (_hy:0≤y∧y≤4294967295) :
  bits BinOp.or IntKind.u32 (x / 2^r) (y*2^(32-r) % 4294967296)=x / 2^r+(y % 2^r)*2^(32-r)∧0≤x / 2^r+(y % 2^r)*2^(32-r)∧x / 2^r+(y % 2^r)*2^(32-r)≤4294967295:=by
 have h2:=dK hr;have h3:=dK (r:=32-r) (by omega);have e:y*2^(32-r) % 4294967296=(y % 2^r)*2^(32-r):=by
  rw[h2.2.2,Int.mul_comm y,Int.mul_comm (2^r) (2^(32-r)),Int.mul_emod_mul_of_pos _ _ (by omega),Int.mul_comm]
 have hl:0≤y*2^(32-r) % 4294967296∧y*2^(32-r) % 4294967296≤4294967295:=by omega
 rw[e] at hl ⊢;have hc:0≤x / 2^r∧x / 2^r<2^(32-r):=⟨(kM hr hx).1,Int.ediv_lt_of_lt_mul (by omega) (by rw[Int.mul_comm,←h2.2.2];omega)⟩
 have hj:=rE (r:=32-r) (by omega) hc hl (Int.mul_emod_left _ _);exact⟨hj.1,by omega,hj.2.2⟩
theorem yU {V A c a p bk:Int} (h:p*V=A-c+(a % p)*bk):p*(V+a / p*bk)=A+a*bk-c:=by
 have h1:=Int.mul_ediv_add_emod a p;generalize a / p=q at *;generalize a % p=s at *;subst h1;rw[Int.mul_add,h];grind
theorem yV {V A c a s2 p p' bk:Int} (h:p*V=A-c+(a % p)*bk) (hp:p*p'=4294967296):p*(V+(a / p+s2*p')*bk)=A+a*bk-c+s2*(bk*4294967296):=by
 have h1:=Int.mul_ediv_add_emod a p;generalize a / p=q at *;generalize a % p=s at *;subst h1;rw[Int.mul_add,h,←hp];grind
theorem yW (s:SV) (a:List Int) (r:Nat) (w:World) (ha:IsL w s .u32 a) (hla:a.length≤1099511627776) (h0:0<a.length) (hr:r<32) (hr0:0<r) :
  Calls Try.prog 75 #[.slice s.a s.len s.cap,.int .i64 r] w (kL w a.length (2^r) (valL a-at_ a 0 % 2^r)):=by
 have da:Dig a:=ha.2;obtain⟨ao,ca,rfl,hca,hcam,hopa⟩:=ha.open_;obtain⟨ba,oa,rfl,hba,ga⟩:=hopa h0;have g0:=ga 0 h0;simp only[Nat.add_zero] at g0;have hbl:=hba.lt;have hne:¬ a=[]:=by rintro rfl;simp at h0
 have e1:(r:Int) / 32=0:=by omega
 have e2:(r:Int) % 32=r:=by omega
 go_enter Try.func75,Try.ntmps75;go_wp2;all_goals
  go_loop [6,39] (fun b i=>(∃B:Bool,b = .bool B)∧i = .int .i64 0) (fun _ _=>0)
  case atStart=>exact⟨⟨_,rfl⟩,rfl⟩
  case round =>
   obtain⟨⟨B,rfl⟩,rfl⟩:=hrel;go_wp2_with (at_make;refine fg _ rfl _ _ 60 rfl 100 .u32 4 Try.underlying60 dZ _ _ _ _ a.length rfl rfl (by omega) (by omega) (by omega) (by omega) ?_;intro w1 hown1 hx1 hlt1);go_loopw [57] (fun i wr => ∃(k:Nat) (o:List Int),i = .int .i64 k∧k≤a.length∧Own wr w.heap.size 100 .u32 o∧o.length=a.length∧Dig o ∧
     2^r*valL (o.take k)=valL (a.take k)-at_ a 0 % 2^r+(at_ a k % 2^r)*4294967296^k∧Ext w wr) (fun i _=>a.length-(intOf i).toNat)
   case atStart=>exact⟨0,_,rfl,Nat.zero_le _,hown1,by simp,eU _,by rw[List.take_zero,List.take_zero,Int.pow_zero,Int.mul_one];generalize at_ a 0 % 2^r=c;simp only[valL,Int.mul_zero];omega,hx1⟩
   case round =>
    obtain⟨k,o,rfl,hk,hown,hol,hdo,hval,hx⟩:=hrel;clear hown1;replace hval:=hd_ hval;replace hol:=hd_ hol;by_cases hlt:k<a.length
    ·have gc:=(hx.cell (p:=⟨ba,oa+k,none⟩) hbl).trans (ga k hlt);have fa:=da.at_ k;have go:=hown.cell (i:=k) (by have:=hol.out;omega);have gf:=hown.frozen k;by_cases hlt2:k+1<a.length
     ·have gc2:=(hx.cell (p:=⟨ba,oa+(k+1),none⟩) hbl).trans (ga (k+1) hlt2);have fa2:=da.at_ (k+1);obtain⟨c1,c2,c3⟩:=yT hr hr0 fa fa2;go_wp2;have hos:=hown.set k (at_ a k / 2^r);have gos:=hos.cell (i:=k) (by rw[List.length_set];have:=hol.out;omega);rw[fu (by have:=hol.out;omega)] at gos;have gfs:=hos.frozen k;have gcs:(wr.setCell ⟨w.heap.size,k,none⟩ (.int .u32 (at_ a k / 2^r))).cell? ⟨ba,oa+(k+1),none⟩=some (.int .u32 (at_ a (k+1))):=by
       rw[World.cell?_setCell_other _ _ _ _ (by simp)];exact gc2
      go_region;go_wp2;go_roundw
      case rel =>
       refine⟨k+1,(o.set k _).set k _,rfl,by omega,(hos.set k _).dr,by rw[List.length_set,List.length_set];exact hol.out,(hdo.set k (kM hr fa)).set k ⟨c2,c3⟩,?_,((hx.st (Nat.le_refl _) _).st (Nat.le_refl _) _).dr⟩;rw[List.set_set,valL_set (by have:=hol.out;omega),valL_take_succ,Int.pow_succ];exact yV hval.out (dK hr).2.2.symm
      case measure=>first | (simp[intOf];done) | (simp[intOf];omega)
     ·go_wp2;go_roundw
      case rel =>
       have hz:at_ a (k+1)=0:=a8 (by omega);refine⟨k+1,o.set k _,rfl,by omega,hown.set k _,by rw[List.length_set];exact hol.out,hdo.set k (kM hr fa),?_,hx.st (Nat.le_refl _) _⟩;rw[valL_set (by have:=hol.out;omega),valL_take_succ,hz,Int.zero_emod,Int.zero_mul,Int.add_zero];exact yU hval.out
      case measure=>first | (simp[intOf];done) | (simp[intOf];omega)
    ·obtain rfl:k=a.length:=by omega
     go_wp2;go_ret2;have h1:=hval.out;rw[a8 (l:=a) (i:=a.length) (by omega),List.take_of_length_le (by have:=hol.out;omega),List.take_of_length_le (Nat.le_refl _)] at h1;refine⟨⟨some ⟨w.heap.size,0,none⟩,a.length,a.length⟩,o,_,rfl,?_,hol.out,by simpa using h1,hx⟩;have:=hown.isL (by have:=hol.out;omega) hdo;rw[hol.out] at this;exact this
theorem yX (s:SV) (a:List Int) (w:World) (ha:IsL w s .u32 a) (hla:a.length≤1099511627776) (h0:0<a.length) :
  Calls Try.prog 75 #[.slice s.a s.len s.cap,.int .i64 0] w (kL w a.length 1 (valL a)):=by
 have da:Dig a:=ha.2;obtain⟨ao,ca,rfl,hca,hcam,hopa⟩:=ha.open_;obtain⟨ba,oa,rfl,hba,ga⟩:=hopa h0;have g0:=ga 0 h0;simp only[Nat.add_zero] at g0;have hbl:=hba.lt;have hne:¬ a=[]:=by rintro rfl;simp at h0
 go_enter Try.func75,Try.ntmps75;go_wp2;all_goals
  go_loop [6,39] (fun b i=>(∃B:Bool,b = .bool B)∧i = .int .i64 0) (fun _ _=>0)
  case atStart=>exact⟨⟨_,rfl⟩,rfl⟩
  case round =>
   obtain⟨⟨B,rfl⟩,rfl⟩:=hrel;go_wp2_with (at_make;refine fg _ rfl _ _ 60 rfl 100 .u32 4 Try.underlying60 dZ _ _ _ _ a.length rfl rfl (by omega) (by omega) (by omega) (by omega) ?_;intro w1 hown1 hx1 hlt1);go_loopw [57] (fun i wr => ∃(k:Nat) (o:List Int),i = .int .i64 k∧k≤a.length∧Own wr w.heap.size 100 .u32 o∧o.length=a.length∧Dig o ∧
     valL (o.take k)=valL (a.take k)∧Ext w wr) (fun i _=>a.length-(intOf i).toNat)
   case atStart=>exact⟨0,_,rfl,Nat.zero_le _,hown1,by simp,eU _,by simp,hx1⟩
   case round =>
    obtain⟨k,o,rfl,hk,hown,hol,hdo,hval,hx⟩:=hrel;clear hown1;replace hval:=hd_ hval;replace hol:=hd_ hol;by_cases hlt:k<a.length
    ·have gc:=(hx.cell (p:=⟨ba,oa+k,none⟩) hbl).trans (ga k hlt);have fa:=da.at_ k;have go:=hown.cell (i:=k) (by have:=hol.out;omega);have gf:=hown.frozen k;by_cases hlt2:k+1<a.length
     all_goals
      go_wp2;go_roundw
      case rel =>
       refine⟨k+1,o.set k _,rfl,by omega,hown.set k _,by rw[List.length_set];exact hol.out,hdo.set k fa,?_,hx.st (Nat.le_refl _) _⟩;rw[valL_set (by have:=hol.out;omega),valL_take_succ,hval.out]
      case measure=>first | (simp[intOf];done) | (simp[intOf];omega)
    ·obtain rfl:k=a.length:=by omega
     go_wp2;go_ret2;have h1:=hval.out;rw[List.take_of_length_le (by have:=hol.out;omega),List.take_of_length_le (Nat.le_refl _)] at h1;refine⟨⟨some ⟨w.heap.size,0,none⟩,a.length,a.length⟩,o,_,rfl,?_,hol.out,by rw[Int.one_mul];exact h1,hx⟩;have:=hown.isL (by have:=hol.out;omega) hdo;rw[hol.out] at this;exact this
theorem yY (s:SV) (a:List Int) (r:Nat) (w:World) (ha:IsL w s .u32 a) (hla:a.length≤1099511627776) (h0:0<a.length) (hr:r<32) :
  Calls Try.prog 75 #[.slice s.a s.len s.cap,.int .i64 r] w (kL w a.length (2^r) (valL a-at_ a 0 % 2^r)):=by
 rcases Nat.eq_zero_or_pos r with h | h
 ·subst h;have:=yX s a w ha hla h0;rw[Int.pow_zero,Int.emod_one,Int.sub_zero];exact this
 ·exact yW s a r w ha hla h0 hr h
end Go.Proofs.Ytdchbabgopglcaa
