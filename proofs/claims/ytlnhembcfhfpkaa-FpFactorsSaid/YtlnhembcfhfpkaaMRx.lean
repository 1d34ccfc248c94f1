/- The small machine: operations change places. -/
import Derived.Test.YtlnhembcfhfpkaaMQx
namespace Go.Proofs.Ytlnhembcfhfpkaa.M
open Go.RowKit
section
variable {G:FuncId→List D→D→Prop} {c c1 c2:COp} {K K':St→Prop} {s:St} {r r':Nat→AV} {m m':Mem} {v:AV}
theorem outM_some {x:Option (Bool × AV × St)} {p:Bool} {v:AV} {m:Mem} (h:outM x=some (p,v,m)):∃ t,x=some (p,v,t)∧t.m=m:=by
 cases x with
 | none=>simp[outM] at h
 | some x=>obtain⟨p',v',t⟩:=x;simp only[outM,Option.some.injEq,Prod.mk.injEq] at h;obtain⟨rfl,rfl,rfl⟩:=h;exact⟨t,rfl,rfl⟩
theorem ev_pure {o:AOp} {id:Nat} (hk:o.kind=0) (m m2:Mem):outM (ev o id ⟨r,m⟩)=(outM (ev o id ⟨r,m2⟩)).map (fun x=>(x.1,x.2.1,m)):=by
 cases o<;>simp only[AOp.kind,reduceCtorEq] at hk<;>try omega
 case extract x i=>simp only[ev];(split<;>(try rfl))<;>(rename_i l _;cases l[i]?<;>rfl)
 all_goals (simp only[ev];(repeat' split)<;>rfl)
theorem Out.pure (hk:c.op.kind=0) (h:Out G c r m v m'):m'=m∧∀ m2,Out G c r m2 v m2:=by
 have hn:∀ f args,c.op≠.call f args:=by intro f args e;rw[e] at hk;simp[AOp.kind] at hk
 have hn2:∀ fs x args,c.op≠.callv fs x args:=by intro fs x args e;rw[e] at hk;simp[AOp.kind] at hk
 have hn3:∀ f T args,c.op≠.callN f T args:=by intro f T args e;rw[e] at hk;simp[AOp.kind] at hk
 have ho:∀ m v m',Out G c r m v m'=(outM (ev c.op (c.dst.getD 0) ⟨r,m⟩)=some (true,v,m')):=by
  intro m v m'
  unfold Out
  cases hc:c.op<;>first | (exact absurd hc (hn _ _)) | (exact absurd hc (hn2 _ _ _)) | (exact absurd hc (hn3 _ _ _)) | rfl
 rw[ho] at h
 have key:∀ m2,outM (ev c.op (c.dst.getD 0) ⟨r,m2⟩)=some (true,v,m2):=by
  intro m2
  rw[ev_pure hk m2 m,h]
  rfl
 have:=key m
 rw[h] at this
 simp only[Option.some.injEq,Prod.mk.injEq,true_and] at this
 exact⟨this,fun m2=>by rw[ho];exact key m2⟩
theorem toD_more {any:Bool} {M M':Mem} (h:∀ i o,M i=some o→M' i=some o):∀ (n:Nat),(∀ (x:AV) (d:D),x.toD any M n=some d→x.toD any M' n=some d)∧(∀ (l:List AV) (ds:List D),toDL any M n l=some ds→toDL any M' n l=some ds):=by
 intro n
 induction n with
 | zero=>exact⟨fun x d hd=>by simp[AV.toD] at hd,fun l ds hd=>by simp[toDL] at hd⟩
 | succ n ih =>
  refine⟨fun x d hd => ?_,fun l ds hd => ?_⟩
  ·cases x with
   | und=>simp[AV.toD] at hd
   | p e=>simpa[AV.toD] using hd
   | nils T sz=>simpa[AV.toD] using hd
   | agg l =>
    simp only[AV.toD,Option.map_eq_some_iff] at hd ⊢
    obtain⟨ds,h1,h2⟩:=hd
    exact⟨ds,ih.2 l ds h1,h2⟩
   | tup l =>
    simp only[AV.toD,Option.map_eq_some_iff] at hd ⊢
    obtain⟨ds,h1,h2⟩:=hd
    exact⟨ds,ih.2 l ds h1,h2⟩
   | slice i off len =>
    simp only[AV.toD] at hd ⊢
    split at hd
    case h_2=>cases hd
    rename_i o ho
    rw[h i o ho]
    exact hd
   | arr i off len =>
    simp only[AV.toD] at hd ⊢
    split at hd
    case h_2=>cases hd
    rename_i o ho
    rw[h i o ho]
    exact hd
   | ptr i j off =>
    simp only[AV.toD] at hd ⊢
    split at hd
    case isFalse=>cases hd
    rename_i hij
    rw[if_pos hij]
    split at hd
    case h_2=>cases hd
    rename_i o ho
    rw[h i o ho]
    simp only
    split at hd
    case h_2=>cases hd
    rename_i u hu
    (try rw[hu])
    (try simp only)
    split at hd
    case isFalse=>cases hd
    rename_i hf
    rw[if_pos hf]
    simp only[Option.map_eq_some_iff] at hd ⊢
    obtain⟨e,h1,h2⟩:=hd
    exact⟨e,ih.1 u e h1,h2⟩
  ·cases l with
   | nil=>simpa[toDL] using hd
   | cons x l =>
    simp only[toDL] at hd ⊢
    split at hd
    case h_2=>cases hd
    rename_i d ds' h1 h2
    rw[ih.1 x d h1,ih.2 l ds' h2]
    exact hd
theorem argsD_more {M M':Mem} (h:∀ i o,M i=some o→M' i=some o):∀ (l:List Opd) (ds:List D),argsD ⟨r,M⟩ l=some ds→argsD ⟨r,M'⟩ l=some ds
 | [],ds,hd=>by simpa[argsD] using hd
 | x::l,ds,hd=>by
  simp only[argsD] at hd ⊢
  split at hd
  case h_2=>cases hd
  rename_i d ds' h1 h2
  rw[(toD_more h 20).1 _ _ h1,argsD_more h l ds' h2]
  exact hd
theorem opdsD_more {M M':Mem} (h:∀ i o,M i=some o→M' i=some o):∀ (l:List Opd) (ds:List D),opdsD r M l=some ds→opdsD r M' l=some ds
 | [],ds,hd=>by simpa[opdsD] using hd
 | x::l,ds,hd=>by
  simp only[opdsD] at hd ⊢
  split at hd
  case h_2=>cases hd
  rename_i d ds' h1 h2
  rw[(toD_more h 20).1 _ _ h1,opdsD_more h l ds' h2]
  exact hd
theorem elemsOf_more {sz:Nat} {m m2:Mem} {v:AV} {ys:List D} (hm:∀ i o,m i=some o→m2 i=some o) (h:elemsOf sz m v=some ys):elemsOf sz m2 v=some ys:=by
 unfold elemsOf at h ⊢
 split at h
 ·split at h
  case h_2=>cases h
  rename_i h1
  simp only[hm _ _ h1]
  exact h
 ·exact h
 ·exact h
 ·cases h
theorem Out.read (hk:c.op.kind=1) (h:Out G c r m v m'):m'=m∧∀ m2,(∀ i o,m i=some o→m2 i=some o)→Out G c r m2 v m2:=by
 unfold Out at *
 cases hc:c.op<;>simp only[hc,AOp.kind,reduceCtorEq] at hk h ⊢<;>try omega
 case call f args =>
  obtain⟨ds,d,h1,h2,h3,rfl⟩:=h
  exact⟨rfl,fun m2 hm=>⟨ds,d,argsD_more hm _ _ h1,h2,h3,(by first | rfl | trivial)⟩⟩
 case callv fs x args =>
  obtain⟨f,a,b,ds,d,h0,h1,h2,h3,h4,rfl⟩:=h
  exact⟨rfl,fun m2 hm=>⟨f,a,b,ds,d,(toD_more hm 20).1 _ _ h0,argsD_more hm _ _ h1,h2,h3,h4,(by first | rfl | trivial)⟩⟩
 case strB x =>
  obtain⟨t,h1,rfl⟩:=outM_some h
  simp only[ev] at h1 ⊢
  split at h1
  case h_2=>cases h1
  rename_i ys hys
  split at h1
  case h_2=>cases h1
  rename_i b hb
  simp only[Option.some.injEq,Prod.mk.injEq,true_and] at h1
  obtain⟨rfl,rfl⟩:=h1
  exact⟨rfl,fun m2 hm2=>by rw[elemsOf_more hm2 hys];simp only[hb];rfl⟩
 case fnv fn x y =>
  obtain⟨t,h1,rfl⟩:=outM_some h
  simp only[ev] at h1 ⊢
  split at h1
  case h_2=>cases h1
  rename_i l k hl hk'
  simp only[Option.some.injEq,Prod.mk.injEq,true_and] at h1
  obtain⟨rfl,rfl⟩:=h1
  exact⟨rfl,fun m2 hm2=>by rw[opdsD_more hm2 _ _ hl,opdsD_more hm2 _ _ hk'];rfl⟩
 case load ag sz x =>
  obtain⟨t,h1,rfl⟩:=outM_some h
  simp only[ev] at h1 ⊢
  split at h1
  ·rename_i i j off hx
   (try rw[hx])
   (try simp only)
   split at h1
   ·rename_i T osz l frz hm
    split at h1
    case h_2=>cases h1
    rename_i u hu
    simp only[Option.some.injEq,Prod.mk.injEq] at h1
    obtain⟨h2,rfl,rfl⟩:=h1
    refine⟨rfl,fun m2 hm2 => ?_⟩
    rw[hm2 _ _ hm]
    simp only[hu,h2]
    rfl
   ·rename_i T osz u frz hm
    split at h1
    case isFalse=>cases h1
    rename_i hj
    split at h1
    case h_2=>cases h1
    rename_i z hz
    simp only[Option.some.injEq,Prod.mk.injEq,true_and] at h1
    obtain⟨rfl,rfl⟩:=h1
    refine⟨rfl,fun m2 hm2 => ?_⟩
    rw[hm2 _ _ hm]
    simp only[hz,hj,if_true]
    rfl
   ·cases h1
  ·rename_i e hx
   (try rw[hx])
   (try simp only)
   split at h1
   case isFalse=>cases h1
   rename_i hag
   simp only[Option.some.injEq,Prod.mk.injEq] at h1
   obtain⟨h2,rfl,rfl⟩:=h1
   refine⟨rfl,fun m2 hm2 => ?_⟩
   rw[if_pos hag,h2]
   rfl
  ·cases h1
 case slice sz x lo hi mx =>
  obtain⟨t,h1,rfl⟩:=outM_some h
  simp only[ev] at h1 ⊢
  split at h1
  ·rename_i T sz' l hx
   (try rw[hx])
   (try simp only)
   split at h1
   case isFalse=>cases h1
   rename_i hs
   split at h1
   case h_2=>cases h1
   rename_i cc a b hb
   simp only[Option.some.injEq,Prod.mk.injEq] at h1
   obtain⟨h2,rfl,rfl⟩:=h1
   exact⟨rfl,fun m2 hm2=>by (try simp only[hs,if_true]);(try simp only[hb]);(try simp only[h2]);rfl⟩
  ·rename_i i off len hx
   (try rw[hx])
   (try simp only)
   split at h1
   case h_2=>cases h1
   rename_i ob hob
   split at h1
   case isFalse=>cases h1
   rename_i hs
   split at h1
   case h_2=>cases h1
   rename_i cc a b hb
   simp only[Option.some.injEq,Prod.mk.injEq] at h1
   obtain⟨h2,rfl,rfl⟩:=h1
   exact⟨rfl,fun m2 hm2=>by rw[hm2 _ _ hob];(try simp only[hs,if_true]);(try simp only[hb]);(try simp only[h2]);rfl⟩
  ·rename_i T sz' hx
   (try rw[hx])
   (try simp only)
   split at h1
   case h_2=>cases h1
   rename_i cc a b hb
   simp only[Option.some.injEq,Prod.mk.injEq] at h1
   obtain⟨h2,rfl,rfl⟩:=h1
   exact⟨rfl,fun m2 hm2=>by (try simp only[hb]);(try simp only[h2]);rfl⟩
  ·rename_i i off len hx
   (try rw[hx])
   (try simp only)
   split at h1
   case isFalse=>cases h1
   rename_i hs
   split at h1
   case h_2=>cases h1
   rename_i cc a b hb
   simp only[Option.some.injEq,Prod.mk.injEq] at h1
   obtain⟨h2,rfl,rfl⟩:=h1
   exact⟨rfl,fun m2 hm2=>by (try simp only[hs,if_true]);(try simp only[hb]);(try simp only[h2]);rfl⟩
  ·cases h1
 case sliceA n x lo hi mx =>
  obtain⟨t,h1,rfl⟩:=outM_some h
  simp only[ev] at h1 ⊢
  split at h1
  case h_2=>cases h1
  rename_i i off hx
  (try rw[hx])
  (try simp only)
  split at h1
  case h_2=>cases h1
  rename_i T osz u frz hob
  split at h1
  case isFalse=>cases h1
  rename_i hs
  split at h1
  case h_2=>cases h1
  rename_i cc a b hb
  simp only[Option.some.injEq,Prod.mk.injEq] at h1
  obtain⟨h2,rfl,rfl⟩:=h1
  exact⟨rfl,fun m2 hm2=>by rw[hm2 _ _ hob];simp only[if_pos hs];(try simp only[hb]);(try simp only[h2]);rfl⟩
 case indexAddr sz x i =>
  obtain⟨t,h1,rfl⟩:=outM_some h
  simp only[ev] at h1 ⊢
  split at h1
  ·rename_i T sz' l n hx hi
   (try rw[hx,hi])
   (try simp only)
   split at h1
   case isFalse=>cases h1
   rename_i hs
   simp only[Option.some.injEq,Prod.mk.injEq] at h1
   obtain⟨h2,rfl,rfl⟩:=h1
   exact⟨rfl,fun m2 hm2=>by (try simp only[hs,if_true]);(try simp only[h2]);rfl⟩
  ·rename_i j off len n hx hi
   (try rw[hx,hi])
   (try simp only)
   split at h1
   case h_2=>cases h1
   rename_i ob hob
   split at h1
   case isFalse=>cases h1
   rename_i hs
   simp only[Option.some.injEq,Prod.mk.injEq] at h1
   obtain⟨h2,rfl,rfl⟩:=h1
   exact⟨rfl,fun m2 hm2=>by rw[hm2 _ _ hob];(try simp only[hs,if_true]);(try simp only[h2]);rfl⟩
  ·rename_i j off len n hx hi
   (try rw[hx,hi])
   (try simp only)
   split at h1
   case isFalse=>cases h1
   rename_i hs
   simp only[Option.some.injEq,Prod.mk.injEq] at h1
   obtain⟨h2,rfl,rfl⟩:=h1
   exact⟨rfl,fun m2 hm2=>by (try simp only[hs,if_true]);(try simp only[h2]);rfl⟩
  ·cases h1
theorem Out.made (hk:c.op.kind=2) (h:Out G c r m v m'):m (c.dst.getD 0)=none∧∃ ob,m'=upd m (c.dst.getD 0) (some ob)∧∀ m2:Mem,m2 (c.dst.getD 0)=none→Out G c r m2 v (upd m2 (c.dst.getD 0) (some ob)):=by
 unfold Out at *
 cases hc:c.op<;>simp only[hc,AOp.kind,reduceCtorEq] at hk h ⊢<;>try omega
 case alloc T sz z =>
  obtain⟨t,h1,rfl⟩:=outM_some h
  simp only[ev] at h1 ⊢
  split at h1
  case h_2=>cases h1
  rename_i hid
  simp only[Option.some.injEq,Prod.mk.injEq,true_and] at h1
  obtain⟨rfl,rfl⟩:=h1
  exact⟨hid,_,rfl,fun m2 hm2=>by rw[hm2];rfl⟩
 case box T sz x =>
  obtain⟨t,h1,rfl⟩:=outM_some h
  simp only[ev] at h1 ⊢
  split at h1
  case h_2=>cases h1
  rename_i hid
  split at h1
  case isFalse=>cases h1
  rename_i hcc
  simp only[Option.some.injEq,Prod.mk.injEq,true_and] at h1
  obtain⟨rfl,rfl⟩:=h1
  exact⟨hid,_,rfl,fun m2 hm2=>by rw[hm2];simp only;rw[if_pos hcc];rfl⟩
 case bytS T x =>
  obtain⟨t,h1,rfl⟩:=outM_some h
  simp only[ev] at h1 ⊢
  split at h1
  case h_2=>cases h1
  rename_i hid
  split at h1
  case h_2=>cases h1
  rename_i q hq
  simp only[Option.some.injEq,Prod.mk.injEq] at h1
  obtain⟨h2,rfl,rfl⟩:=h1
  exact⟨hid,_,rfl,fun m2 hm2=>by rw[hm2];(try simp only[h2]);rfl⟩
 case makeSlice T sz b z l cc =>
  obtain⟨t,h1,rfl⟩:=outM_some h
  simp only[ev] at h1 ⊢
  split at h1
  case h_2=>cases h1
  rename_i hid
  split at h1
  case h_2=>cases h1
  rename_i n k hn hk
  simp only[Option.some.injEq,Prod.mk.injEq] at h1
  obtain⟨h2,rfl,rfl⟩:=h1
  exact⟨hid,_,rfl,fun m2 hm2=>by rw[hm2];(try simp only[h2]);rfl⟩
theorem Out.built (hk:c.op.kind=3) (h:Out G c r m v m'):m (c.dst.getD 0)=none∧∃ ob,m'=upd m (c.dst.getD 0) (some ob):=by
 unfold Out at *
 cases hc:c.op<;>simp only[hc,AOp.kind,reduceCtorEq] at hk h ⊢<;>try omega
 case buildSlice T sz z n ps =>
  obtain⟨t,h1,rfl⟩:=outM_some h
  simp only[ev] at h1
  split at h1
  case h_2=>cases h1
  rename_i hid
  split at h1
  case h_2=>cases h1
  simp only[Option.some.injEq,Prod.mk.injEq,true_and] at h1
  obtain⟨rfl,rfl⟩:=h1
  exact⟨hid,_,rfl⟩
 case buildSliceF T sz z n ps =>
  obtain⟨t,h1,rfl⟩:=outM_some h
  simp only[ev] at h1
  split at h1
  case isTrue=>cases h1
  split at h1
  case h_2=>cases h1
  rename_i hid
  split at h1
  case h_2=>cases h1
  simp only[Option.some.injEq,Prod.mk.injEq,true_and] at h1
  obtain⟨rfl,rfl⟩:=h1
  exact⟨hid,_,rfl⟩
 case copyS T sz b y =>
  obtain⟨t,h1,rfl⟩:=outM_some h
  simp only[ev] at h1
  split at h1
  case h_2=>cases h1
  rename_i ys hid hys
  simp only[Option.some.injEq,Prod.mk.injEq] at h1
  obtain⟨-,rfl,rfl⟩:=h1
  exact⟨hid,_,rfl⟩
 case copyF T sz b y =>
  obtain⟨t,h1,rfl⟩:=outM_some h
  simp only[ev] at h1
  split at h1
  case isTrue=>cases h1
  split at h1
  case h_2=>cases h1
  rename_i ys hid hys
  simp only[Option.some.injEq,Prod.mk.injEq] at h1
  obtain⟨-,rfl,rfl⟩:=h1
  exact⟨hid,_,rfl⟩
 case callN f T args =>
  obtain⟨ds,sz,l,h1,h2,h3,rfl,rfl⟩:=h
  exact⟨h2,_,rfl⟩
def apartV:AV→AV→Bool
 | .ptr i _ _,.ptr j _ _=>i != j
 | .p (.ref _),.ptr _ _ _=>true
 | .ptr _ _ _,.und=>true
 | .p (.ref _),.und=>true
 | _,_=>false
theorem Out.load_store {ag:Bool} {sz sz2:Nat} {x y z:Opd} {v2:AV} {m2:Mem} (h1:c1.op = .load ag sz x) (h2:c2.op = .store sz2 y z) (ha:apartV (x.ev r) (y.ev r)=true) (ho1:Out G c1 r m v m') (ho2:Out G c2 r m v2 m2):Out G c1 r m2 v m2:=by
 have hm2:∃ (j:Nat) (o:Nat × Nat) (o':Option AObj),y.ev r = .ptr j o.1 o.2∧m2=upd m j o':=by
  unfold Out at ho2
  rw[h2] at ho2
  simp only at ho2
  obtain⟨t,g1,rfl⟩:=outM_some ho2
  simp only[ev] at g1
  split at g1
  case h_2=>cases g1
  rename_i i j off hy
  split at g1
  ·split at g1
   case h_2=>cases g1
   split at g1
   case isFalse=>cases g1
   split at g1<;>simp only[Option.some.injEq,Prod.mk.injEq,reduceCtorEq] at g1
   obtain⟨-,-,rfl⟩:=g1
   exact⟨i,(j,off),_,hy,rfl⟩
  ·split at g1
   case isFalse=>cases g1
   split at g1
   ·simp only[Option.some.injEq,Prod.mk.injEq] at g1
    obtain⟨-,-,rfl⟩:=g1
    exact⟨i,(j,off),_,hy,rfl⟩
   ·split at g1<;>simp only[Option.some.injEq,Prod.mk.injEq,reduceCtorEq] at g1
    obtain⟨-,-,rfl⟩:=g1
    exact⟨i,(j,off),_,hy,rfl⟩
  ·split at g1
   case isFalse=>cases g1
   split at g1<;>simp only[Option.some.injEq,Prod.mk.injEq,reduceCtorEq] at g1
   obtain⟨-,-,rfl⟩:=g1
   exact⟨i,(j,off),_,hy,rfl⟩
  ·cases g1
 obtain⟨j,o,o',hy,rfl⟩:=hm2
 unfold Out at ho1 ⊢
 rw[h1] at ho1 ⊢
 simp only at ho1 ⊢
 obtain⟨t,g1,rfl⟩:=outM_some ho1
 simp only[ev] at g1 ⊢
 cases hx:x.ev r with
 | ptr i k off =>
  rw[hx,hy] at ha
  simp only[apartV,bne_iff_ne,ne_eq] at ha
  rw[hx] at g1
  simp only at g1 ⊢
  rw[upd_ne _ _ ha]
  split at g1
  ·rename_i T osz l frz hm
   split at g1
   case h_2=>cases g1
   rename_i u hu
   simp only[Option.some.injEq,Prod.mk.injEq] at g1
   obtain⟨h3,rfl,rfl⟩:=g1
   (try simp only[hu])
   (try simp only[h3])
   rfl
  ·rename_i T osz u frz hm
   split at g1
   case isFalse=>cases g1
   rename_i hj
   split at g1
   case h_2=>cases g1
   rename_i q hq
   simp only[Option.some.injEq,Prod.mk.injEq,true_and] at g1
   obtain⟨rfl,rfl⟩:=g1
   (try simp only[hj,if_true])
   (try simp only[hq])
   rfl
  ·cases g1
 | p d =>
  rw[hx] at g1
  cases d with
  | ref e =>
   simp only at g1 ⊢
   split at g1
   case isFalse=>cases g1
   rename_i hag
   simp only[Option.some.injEq,Prod.mk.injEq] at g1
   obtain⟨h3,rfl,rfl⟩:=g1
   (try simp only[hag,if_true])
   (try simp only[h3])
   rfl
  | _=>simp at g1
 | _=>rw[hx] at g1;simp at g1
end
end Go.Proofs.Ytlnhembcfhfpkaa.M
