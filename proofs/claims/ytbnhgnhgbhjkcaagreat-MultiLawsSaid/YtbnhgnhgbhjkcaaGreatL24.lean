/- Lemmas. -/
import Derived.Test.YtbnhgnhgbhjkcaaGreatL23
set_option linter.defProp false
namespace Go.Proofs.YtbnhgnhgbhjkcaaGreat.M
open Go.RowKit
def bR (k T sz:Nat) (l:List D) (ds:List D):St:=⟨fun t=>if t=k then .slice aS 0 l.length else match ds[t]? with
 |some d => .p d
 |none => .und,fun i=>if i=aS then some ⟨T,sz,.row l,false⟩ else none⟩
def eo (s:St):St:=⟨s.r,fun i=>if i=aS then none else s.m i⟩
inductive ResLt (s:St) (rs:List (Nat×Option (Bool×Nat))):D→Prop
 |plain {r:D}:ai (eo s) rs=some r→(∀m,r≠.tup [.int .i64 m])→ResLt s rs r
 |pre {m:Int}{t:Nat}:rs=[(t,none)]→s.r t = .slice aS 0 m.toNat→ResLt s rs (.tup [.int .i64 m])
def gU (T sz:Nat) (l':List D) (r:D) (rs:List (Nat×Option (Bool×Nat))):AExit→St→Prop
 |.exit _,_=>False
 |_,s=>s.m aS=some ⟨T,sz,.row l',false⟩∧ResLt s rs r
theorem tO {w:World}{N:Nat→Prop}{b o sz n:Nat}{v:Value}{r:D} (h:∀m,r≠.tup [.int .i64 m]) (hv:V w N v r):jr w N b o sz n v r:=by
 unfold jr;split
 ·exact absurd rfl (h _)
 ·exact hv
theorem aA.conL {P:Program}{A OT:List TypeId}{f:FuncId}{cc:CC}{rs:List (Nat×Option (Bool×Nat))}{nt k:Nat}{ds:List D}{T sz:Nat}{l l':List D}{r:D} (h:aA P f OT cc rs nt) (hA':OT.all (fun T => !A.contains T&&(decide (T<70000000)||decide (80000000≤T)))=true) (hn:ds.length≤nt) (hT:OT.contains T=true) (hk:k<ds.length)
  (hcw:cw OT (ConX P A) cc (gU T sz l' r rs) (bR k T sz l ds)):dD P A f k ds T sz l r l':=by
 have hA:=(iq hA').1;have hW:=(iq hA').2;obtain⟨fn,H,hf,hbd,hm,hc,hr,rfl⟩:=h;obtain⟨code,hb⟩:=Option.isSome_iff_exists.1 hbd;rw[hb] at hc;simp only[Option.getD_some] at hc;intro own w vs b o cap c fr h1 h2 h3 h4 hob hargk hheap hcap hcap2 hroom hfr hcont;have hblt:b<w.heap.size:=nP hheap;have hnb:∀x,(x<w.heap.size∧¬ own x)→NB ⟨own,some ⟨b,o,c.size,sz,false⟩⟩ (bR k T sz l ds).m (fun i=>if i=aS then some ⟨b,o,c.size,sz,false⟩ else none) w x:=fun x hx=>⟨hx.1,hx.2,by
  rintro⟨id,ob,L,g1,g2,g3,g4,g5⟩;dsimp only[bR] at g1 g3;by_cases e:id=aS
  ·subst e;rw[if_pos rfl] at g3;cases g3;exact hx.2 (g5 ▸ hob)
  ·rw[if_neg e] at g1;cases g1⟩
 have hbody:=nd (C:=⟨P,A,OT,fn.ntmps,w,⟨own,some ⟨b,o,c.size,sz,false⟩⟩⟩) ⟨h2,fun T hT=>by
  rw[List.all_eq_true] at hA;have:=hA T hT;simpa using this,fun b hb c T fr hc hT=>by rw[hW] at hT;cases hT⟩ hm H code cc _ (bR k T sz l ds) { tmps:=vs++Array.replicate (fn.ntmps-vs.size) undef,defers:=[] } w hc hcw ⟨⟨fun i=>if i=aS then some ⟨b,o,c.size,sz,false⟩ else none,ExtL.rf _ w,rfl,by simp;omega,h1,fun id hid => ?_,fun t => ?_,fun id ob ho => ?_,fun id id' ob ob' L L' g1 g2 _ _ _ _ _ _ => ?_,fun L hL => ?_⟩,fun id ob ho => ?_⟩
 ·refine calls_of_wp hf hb (wp_mono hbody ?_);intro e a' w' hq;have fin:(∃t,Is ⟨P,A,OT,fn.ntmps,w,⟨own,some ⟨b,o,c.size,sz,false⟩⟩⟩ t a' w'∧t.m aS=some ⟨T,sz,.row l',false⟩∧ResLt t rs r)→a'.defers=[]∧∃v,(results fn a'.tmps).run P w' = .ok v w'∧∃v' c',Ending.returned v=Ending.returned v'∧ExtL ⟨own,some ⟨b,o,c.size,sz,false⟩⟩ w w'∧w'.heap[b]? = some (.cells c' T fr)∧c'.size=c.size ∧
   bL w' (fun b=>b<w'.heap.size∧¬ own b) (fun _=>none) c' o sz (.row l')∧jr w' (fun b=>b<w'.heap.size∧¬ own b) b o sz c.size v' r:=by
   rintro⟨t,ht,hlm,hres⟩;obtain⟨loc,hrel⟩:=ht.1;refine⟨hrel.defers,?_⟩;obtain⟨L,hL,hok⟩:=hrel.objs aS _ hlm;obtain⟨y1,y2,y3,-⟩:=hrel.keepL _ rfl;rw[hL] at y1;cases y1;obtain⟨c1,fr1,k1,k2,k3,k4,-⟩:=hok.at_ rfl;obtain⟨c2,z1,z2⟩:=hrel.ext.lentB b c T fr hheap;dsimp only at k1 k2 z2;rw[z2] at k1;simp only[Option.some.injEq,Obj.cells.injEq,true_and] at k1;obtain⟨rfl,rfl⟩:=k1;have hcont':bL w' (fun b=>b<w'.heap.size∧¬ own b) (fun _=>none) c2 o sz (.row l'):=⟨k3.1,k3.2.1,fun i e j d q1 q2=>⟨(k3.2.2 i e j d q1 q2).1,(k3.2.2 i e j d q1 q2).2.mono (fun _ _=>rfl) fun b hb=>⟨hb.1,hb.2.1⟩⟩⟩
   have hresults:∀vs:List Value,(fn.results.toList.mapM (dQ a'.tmps)).run P w' = .ok vs w'→(results fn a'.tmps).run P w' = .ok (if h:vs.toArray.size=1 then vs.toArray[0] else .tuple vs.toArray) w':=by
    intro vs hv;have hv':(fn.results.mapM (dQ a'.tmps)).run P w' = .ok vs.toArray w':=by
     rw[Array.mapM_eq_mapM_toList];simp[hv]
    rw[mJ];simp only[Sem.run_bind,hv',Result.andThen];rfl
   cases hres with
   |plain hres hne =>
    have key:∀ds',ah (eo t) rs=some ds'→∃vs:List Value,(fn.results.toList.mapM (dQ a'.tmps)).run P w' = .ok vs w'∧vs.length=ds'.length∧∀(i:Nat) (d:D),ds'[i]? = some d→V w' (fun b=>b<w'.heap.size∧¬ own b) (vs.getD i undef) d:=by
     intro ds' hds;exact mL (M':=(eo t).m) (fun i x hx=>by
      dsimp only[eo] at hx;split at hx
      ·cases hx
      ·exact hx) (.inr (by simp[eo])) hrel _ _ _ hr hds
    unfold ai at hres;split at hres
    ·rename_i d' hd';simp only[Option.some.injEq] at hres;subst hres;obtain⟨vs,q1,q2,q3⟩:=key _ hd'
     match vs,q2 with
     |[v],_ =>
      refine⟨v,by rw[hresults _ q1];simp,v,c2,rfl,hrel.ext,z2,z1,hcont',tO hne ?_⟩;have:=q3 0 d' rfl;simpa using this
    ·rename_i ds' hne1 hd';simp only[Option.some.injEq] at hres;subst hres;obtain⟨vs,q1,q2,q3⟩:=key _ hd';have hne2:vs.length≠1:=by
      intro h1;rw[q2] at h1
      match ds',h1 with
      |[d'],_=>exact hne1 d' rfl
     exact⟨.tuple vs.toArray,by rw[hresults _ q1,dif_neg (by simpa using hne2)],_,c2,rfl,hrel.ext,z2,z1,hcont',tO hne (.tup _ _ (by simpa using q2) (fun i e he=>by simpa using q3 i e he))⟩
    ·cases hres
   |pre hrs hst =>
    rename_i m tt;subst hrs;cases hfr:fn.results.toList with
    |nil=>rw[hfr] at hr;simp[ck] at hr
    |cons x rest =>
     rw[hfr] at hr;obtain⟨y,rs',g1,g2,g3⟩:=mK hrel x rest _ hr;obtain⟨rfl,rfl⟩:=List.cons.inj g1;obtain⟨v,q1,q2⟩:=g3 t.m _ (fun _ _ h=>h) rfl;have hrest:rest=[]:=by
      cases rest with
      |nil=>rfl
      |cons y ys =>
       cases y<;>simp only[ck] at g2
       ·simp[Option.map_eq_some_iff] at g2
       ·split at g2
        ·split at g2
         ·simp[Option.map_eq_some_iff] at g2
         ·cases g2
        ·cases g2
     subst hrest;refine⟨v,by rw[hresults [v] (by rw[hfr];simp[List.mapM_cons,q1])];simp,v,c2,rfl,hrel.ext,z2,z1,hcont',?_⟩;rw[hst] at q2;show (∃cap,v = .slice (some ⟨b,o,none⟩) m.toNat cap∧m.toNat≤cap∧cap≤9223372036854775807∧o+cap*sz≤c.size)∨(m.toNat=0∧∃p,v = .slice p 0 0)
     generalize m.toNat=mm at q2 ⊢;cases q2 with
     |slice L id off len cap' e1 e2 e3 e4 e5 =>
      rw[hL] at e1;cases e1;refine .inl ⟨cap',?_,e3,e4,?_⟩
      ·simp
      ·simpa using e5
     |sliceEmp L id off p e1 =>
      exact .inr ⟨rfl,p,rfl⟩
  cases e with
  |normal=>obtain⟨t,ht,hres⟩:=hq;exact fin ⟨t,ht,hres⟩
  |ret=>obtain⟨t,ht,hres⟩:=hq;exact fin ⟨t,ht,hres⟩
  |exit id=>obtain⟨t,ht,hbad⟩:=hq;exact hbad.elim
  |_=>exact hq.elim
 ·dsimp only[bR] at hid;split at hid
  ·cases hid
  ·rename_i e;rw[if_neg e]
 ·by_cases htk:t=k
  ·subst htk;have hr':(bR t T sz l ds).r t = .slice aS 0 l.length:=by simp[bR]
   rw[hr'];have hg:(vs++Array.replicate (fn.ntmps-vs.size) undef).getD t undef=vs.getD t undef:=by
    simp only[Array.getD_eq_getD_getElem?];rw[Array.getElem?_append_left (by omega)]
   simp only[hg];rw[hargk];have:=RV.slice (w:=w) (N:=NB ⟨own,some ⟨b,o,c.size,sz,false⟩⟩ (bR t T sz l ds).m (fun i=>if i=aS then some ⟨b,o,c.size,sz,false⟩ else none) w) (loc:=fun i=>if i=aS then some ⟨b,o,c.size,sz,false⟩ else none) ⟨b,o,c.size,sz,false⟩ aS 0 l.length cap (if_pos rfl) rfl hcap hcap2 (by simpa using hroom);simpa using this
  ·by_cases ht:t<vs.size
   ·have hd:∃d,ds[t]? = some d:=⟨ds[t]'(by omega),by simp⟩
    obtain⟨d',hd⟩:=hd;have hr':(bR k T sz l ds).r t = .p d':=by simp[bR,hd,htk]
    rw[hr'];have hg:(vs++Array.replicate (fn.ntmps-vs.size) undef).getD t undef=vs.getD t undef:=by
     simp only[Array.getD_eq_getD_getElem?];rw[Array.getElem?_append_left ht]
    simp only[hg];exact .p _ _ ((h4 t d' htk hd).mono (fun _ _=>rfl) hnb)
   ·have hr':(bR k T sz l ds).r t = .und:=by
     have:ds[t]? = none:=List.getElem?_eq_none (by omega);simp[bR,this,htk]
    rw[hr'];exact .und _
 ·dsimp only[bR] at ho;split at ho
  case isFalse=>cases ho
  rename_i e;subst e;cases ho;refine⟨⟨b,o,c.size,sz,false⟩,if_pos rfl,rfl,fun hh=>(by cases hh),fun _=>⟨c,fr,hheap,rfl,⟨hcont.1,hcont.2.1,fun i e j d q1 q2=>⟨(hcont.2.2 i e j d q1 q2).1,(hcont.2.2 i e j d q1 q2).2.mono (fun _ _=>rfl) hnb⟩⟩,fun _=>⟨.inr ⟨_,rfl,rfl⟩,hfr⟩,fun hh=>(by cases hh)⟩⟩
 ·dsimp only[bR] at g1 g2;split at g1
  case isFalse=>cases g1
  split at g2
  case isFalse=>cases g2
  rename_i e1 e2;rw[e1,e2]
 ·cases hL;exact⟨if_pos rfl,hob,rfl,⟨T,sz,.row l,false⟩,by simp[bR],rfl⟩
 ·dsimp only[bR] at ho;split at ho
  case isFalse=>cases ho
  cases ho;simpa using hT
inductive ResNew (s:St) (rs:List (Nat×Option (Bool×Nat))) (T sz:Nat):List D→Prop
 |row {l:List D}{y:Nat×Option (Bool×Nat)}{i:Nat}:rs=[y]→af s y=some (.slice i 0 l.length)→s.m i=some ⟨T,sz,.row l,false⟩→ResNew s rs T sz l
 |nil {y:Nat×Option (Bool×Nat)}:rs=[y]→af s y=some (.nils T sz)→ResNew s rs T sz []
def ln (T sz:Nat) (l:List D) (rs:List (Nat×Option (Bool×Nat))):AExit→St→Prop
 |.exit _,_=>False
 |_,s=>ResNew s rs T sz l
theorem Wu {P:Program}{x:ResultVar}{rest:List ResultVar}{y:Nat×Option (Bool×Nat)} (h:ck P (x::rest)=some [y]):rest=[]:=by
 cases rest with
 |nil=>rfl
 |cons z zs =>
  have h2:∀q,ck P (z::zs)≠some []∧ck P (z::zs)=q→q≠some []:=by rintro q ⟨h1,rfl⟩;exact h1
  have h3:ck P (z::zs)≠some []:=by
   cases z<;>simp only[ck]
   ·cases ck P zs<;>simp
   ·split
    ·split
     ·cases ck P zs<;>simp
     ·simp
    ·simp
  exfalso
  cases x<;>simp only[ck] at h
  ·simp only[Option.map_eq_some_iff,List.cons.injEq] at h;obtain⟨q,h4,h5,rfl⟩:=h;exact h3 h4
  ·split at h
   ·split at h
    ·simp only[Option.map_eq_some_iff,List.cons.injEq] at h;obtain⟨q,h4,h5,rfl⟩:=h;exact h3 h4
    ·cases h
   ·cases h
theorem aA.conN {P:Program}{A OT:List TypeId}{f:FuncId}{cc:CC}{rs:List (Nat×Option (Bool×Nat))}{nt:Nat}{ds:List D}{T sz:Nat}{l:List D} (h:aA P f OT cc rs nt) (hA':OT.all (fun T => !A.contains T&&(decide (T<70000000)||decide (80000000≤T)))=true) (hn:ds.length≤nt)
  (hcw:cw OT (ConX P A) cc (ln T sz l rs) (bx ds)):gN P A f ds T sz l:=by
 have hA:=(iq hA').1;have hW:=(iq hA').2;obtain⟨fn,H,hf,hbd,hm,hc,hr,rfl⟩:=h;obtain⟨code,hb⟩:=Option.isSome_iff_exists.1 hbd;rw[hb] at hc;simp only[Option.getD_some] at hc;intro own w vs h1 h2 h3 h4;have hbody:=nd (C:=⟨P,A,OT,fn.ntmps,w,⟨own,none⟩⟩) ⟨h2,fun T hT=>by
  rw[List.all_eq_true] at hA;have:=hA T hT;simpa using this,fun b hb c T fr hc hT=>by rw[hW] at hT;cases hT⟩ hm H code cc _ (bx ds) { tmps:=vs++Array.replicate (fn.ntmps-vs.size) undef,defers:=[] } w hc hcw ⟨⟨fun _=>none,ExtL.rf _ w,rfl,by simp;omega,h1,fun _ _=>rfl,fun t => ?_,fun id o ho=>by simp[bx] at ho,fun id _ o _ _ _ ho=>by simp[bx] at ho,dm.none_ rfl _ _⟩,fun id o ho=>by simp[bx] at ho⟩
 ·refine calls_of_wp hf hb (wp_mono hbody ?_);intro e a' w' hq;have fin:(∃t,Is ⟨P,A,OT,fn.ntmps,w,⟨own,none⟩⟩ t a' w'∧ResNew t rs T sz l)→a'.defers=[]∧∃v,(results fn a'.tmps).run P w' = .ok v w'∧∃v' L,Ending.returned v=Ending.returned v'∧Ext w w'∧NewOk w w' own T sz l v' L:=by
   rintro⟨t,ht,hres⟩;obtain⟨loc,hrel⟩:=ht.1;refine⟨hrel.defers,?_⟩;have hresults:∀vs:List Value,(fn.results.toList.mapM (dQ a'.tmps)).run P w' = .ok vs w'→(results fn a'.tmps).run P w' = .ok (if h:vs.toArray.size=1 then vs.toArray[0] else .tuple vs.toArray) w':=by
    intro vs hv;have hv':(fn.results.mapM (dQ a'.tmps)).run P w' = .ok vs.toArray w':=by
     rw[Array.mapM_eq_mapM_toList];simp[hv]
    rw[mJ];simp only[Sem.run_bind,hv',Result.andThen];rfl
   have one:∀y u,rs=[y]→af t y=some u→∃v,(results fn a'.tmps).run P w' = .ok v w'∧RV w' (NB ⟨own,none⟩ t.m loc w') loc v u:=by
    rintro y u rfl hu;cases hfr:fn.results.toList with
    |nil=>rw[hfr] at hr;simp[ck] at hr
    |cons x rest =>
     rw[hfr] at hr;have hrest:=Wu hr;obtain⟨y',rs',g1,g2,g3⟩:=mK hrel x rest _ hr;obtain⟨rfl,rfl⟩:=List.cons.inj g1;obtain⟨v,q1,q2⟩:=g3 t.m u (fun _ _ h=>h) hu;subst hrest;exact⟨v,by rw[hresults [v] (by rw[hfr];simp[List.mapM_cons,q1])];simp,q2⟩
   cases hres with
   |nil h1 h2 =>
    obtain⟨v,g1,g2⟩:=one _ _ h1 h2;cases g2;exact⟨_,g1,_,⟨0,0,0,sz,true⟩,rfl,hrel.ext.ext rfl,⟨rfl,fun _=>rfl,fun hh=>(by cases hh),.inl ⟨rfl,_,rfl⟩⟩⟩
   |row h1 h2 h5 =>
    rename_i y i;obtain⟨v,g1,g2⟩:=one _ _ h1 h2;obtain⟨L,hL,hok⟩:=hrel.objs i _ h5;refine⟨v,g1,v,L,rfl,hrel.ext.ext rfl,hok.sz,fun hh=>by simpa using hok.nil hh,fun hh => ?_,?_⟩
    ·obtain⟨c,fr,k1,k2,k3,k4,-⟩:=hok.at_ hh;have k5:=k4 rfl;refine⟨?_,c,fr,k1,k2,⟨k3.1,k3.2.1,fun p0 e0 j0 d0 q1 q2=>⟨(k3.2.2 p0 e0 j0 d0 q1 q2).1,(k3.2.2 p0 e0 j0 d0 q1 q2).2.mono (fun _ _=>rfl) fun b hb=>⟨⟨hb.1,hb.2.1⟩,fun e=>hb.2.2 ⟨i,_,L,h5,rfl,hL,hh,e.symm⟩⟩⟩⟩,k5.2⟩;rcases k5.1 with g | ⟨L',hL',-⟩
     ·exact g
     ·cases hL'
    ·generalize hlen:l.length=n at g2 ⊢;cases g2 with
     |slice L' _ _ _ cap e1 e2 e3 e4 e5 =>
      rw[hL] at e1;cases e1;refine .inr ⟨e2,cap,by simp,e3,e4,?_⟩;have:=hok.sz;dsimp only at this;rw[this] at e5;simpa using e5
     |sliceEmp L' _ _ p e1=>exact .inl ⟨List.eq_nil_of_length_eq_zero hlen,p,rfl⟩
  cases e with
  |normal=>obtain⟨t,ht,hres⟩:=hq;exact fin ⟨t,ht,hres⟩
  |ret=>obtain⟨t,ht,hres⟩:=hq;exact fin ⟨t,ht,hres⟩
  |exit id=>obtain⟨t,ht,hbad⟩:=hq;exact hbad.elim
  |_=>exact hq.elim
 ·by_cases ht:t<vs.size
  ·have hd:∃d,ds[t]? = some d:=⟨ds[t]'(by omega),by simp⟩
   obtain⟨d',hd⟩:=hd;have hr':(bx ds).r t = .p d':=by simp[bx,hd]
   rw[hr'];have hg:(vs++Array.replicate (fn.ntmps-vs.size) undef).getD t undef=vs.getD t undef:=by
    simp only[Array.getD_eq_getD_getElem?];rw[Array.getElem?_append_left ht]
   simp only[hg];exact .p _ _ ((h4 t d' hd).mono (fun _ _=>rfl) fun b hb=>⟨hb.1,hb.2,by rintro⟨id,o,L,ho,_⟩;simp[bx] at ho⟩)
  ·have hr':(bx ds).r t = .und:=by
    have:ds[t]? = none:=List.getElem?_eq_none (by omega);simp[bx,this]
   rw[hr'];exact .und _
theorem RS (G:FuncId→List D→D→Prop) (dd:Option Nat) (f:FuncId) (k:Nat) (args:List Opd) (g:Option (Nat×Bool)) (K:St→Prop) (s:St):step G ⟨dd,.callL f k args,g⟩ K s=(match ff s k args with
  |.slice i 0 n=>match s.m i with
   |some ⟨T,sz,.row l,false⟩=>match dE s (.list T sz l) k args with
    |some ds=>n=l.length∧∃r l',G (f+LB*(k+1)) ds (.tup [r,.list T sz l'])∧K ((⟨s.r,upd s.m i (some ⟨T,sz,.row l',false⟩)⟩:St).put dd (if l=[] then .p (ek T sz r) else fU i r))
    |none=>False
   |_=>False
  |.p (.list T sz [])=>match bf s args with
   |some ds => ∃r l',G (f+LB*(k+1)) ds (.tup [r,.list T sz l'])∧K (s.put dd (.p (ek T sz r)))
   |none=>False
  |_=>False):=rfl
theorem RT (G:FuncId→List D→D→Prop) (dd:Option Nat) (fs:List FuncId) (x:Opd) (args:List Opd) (g:Option (Nat×Bool)) (K:St→Prop) (s:St):step G ⟨dd,.callv fs x args,g⟩ K s=(match (x.ev s.r).toD false s.m 20,bf s args with
  |some (.fn (.func f) a b),some ds=>fs.contains f=true∧∃d,G f (a++ds++b) d∧K (s.put dd (.p d))
  |_,_=>False):=rfl
theorem RU (G:FuncId→List D→D→Prop) (dd:Option Nat) (f:FuncId) (T:TypeId) (args:List Opd) (g:Option (Nat×Bool)) (K:St→Prop) (s:St):step G ⟨dd,.callN f T args,g⟩ K s=(match bf s args with
  |some ds=>match s.m (dd.getD 0) with
   |none => ∃sz l,G (f+LB*(8+1)) ds (.list T sz l)∧K ((⟨s.r,upd s.m (dd.getD 0) (some ⟨T,sz,.row l,false⟩)⟩:St).put dd (.slice (dd.getD 0) 0 l.length))
   |some _=>False
  |none=>False):=rfl
theorem RW (G:FuncId→List D→D→Prop) (dd:Option Nat) (f:FuncId) (B:List TypeId) (args:List Opd) (g:Option (Nat×Bool)) (K:St→Prop) (s:St):step G ⟨dd,.callW f B args,g⟩ K s=(match bf s args with
  |some ds=>(∀id o,s.m id=some o→o.frz=true∨o.T ∉ B)∧∃d,G (f+LB*(9+1)) (.tup (B.map fun T => .int .i64 (T:Nat))::ds) d∧K (s.put dd (.p d))
  |none=>False):=rfl
theorem RX (s:St) (x:Opd) (l:List Opd):ff s 0 (x::l)=x.ev s.r:=rfl
theorem RY (s:St) (x y:Opd) (l:List Opd):ff s 1 (x::y::l)=y.ev s.r:=rfl
theorem RZ (s:St) (d:D) (x:Opd) (l:List Opd):dE s d 0 (x::l)=(match bf s l with
  |some ds=>some (d::ds)
  |none=>none):=rfl
theorem R0 (s:St) (d:D) (x y:Opd) (l:List Opd):dE s d 1 (x::y::l)=(match (x.ev s.r).toD false s.m 20,(match bf s l with
  |some ds=>some (d::ds)
  |none=>none) with
  |some e,some es=>some (e::es)
  |_,_=>none):=rfl
theorem rJ (i:Nat) (m:Int):fU i (.tup [.int .i64 m]) = .slice i 0 m.toNat:=rfl
theorem rK (i:Nat):fU i (.tup []) = .p (.tup []):=rfl
theorem rL (i:Nat) (k:IntKind) (m:Int):fU i (.int k m) = .p (.int k m):=rfl
theorem R1 (T sz:Nat) (m:Int):ek T sz (.tup [.int .i64 m]) = .list T sz []:=rfl
theorem R2 (T sz:Nat):ek T sz (.tup []) = .tup []:=rfl
theorem iA (T sz:Nat) (l:List D) (a b:D):bR 0 T sz l [a,b]=⟨ar [(0,.slice 999999 0 l.length),(1,.p b)],ay [(999999,⟨T,sz,.row l,false⟩)]⟩:=by
 unfold bR;congr 1;funext t
 match t with
 |0=>rfl
 |1=>rfl
 |k+2=>simp[ar]
theorem nA (T sz:Nat) (l:List D) (a b c:D):bR 0 T sz l [a,b,c]=⟨ar [(0,.slice 999999 0 l.length),(1,.p b),(2,.p c)],ay [(999999,⟨T,sz,.row l,false⟩)]⟩:=by
 unfold bR;congr 1;funext t
 match t with
 |0=>rfl
 |1=>rfl
 |2=>rfl
 |k+3=>simp[ar]
theorem rM (T sz:Nat) (l:List D) (a b c d:D):bR 0 T sz l [a,b,c,d]=⟨ar [(0,.slice 999999 0 l.length),(1,.p b),(2,.p c),(3,.p d)],ay [(999999,⟨T,sz,.row l,false⟩)]⟩:=by
 unfold bR;congr 1;funext t
 match t with
 |0=>rfl
 |1=>rfl
 |2=>rfl
 |3=>rfl
 |k+4=>simp[ar]
theorem fe (T sz:Nat) (l:List D) (a b c d e:D):bR 0 T sz l [a,b,c,d,e]=⟨ar [(0,.slice 999999 0 l.length),(1,.p b),(2,.p c),(3,.p d),(4,.p e)],ay [(999999,⟨T,sz,.row l,false⟩)]⟩:=by
 unfold bR;congr 1;funext t
 match t with
 |0=>rfl
 |1=>rfl
 |2=>rfl
 |3=>rfl
 |4=>rfl
 |k+5=>simp[ar]
theorem R3 (T sz:Nat) (l':List D) (r:D) (rs:List (Nat×Option (Bool×Nat))) (s:St):gU T sz l' r rs .ret s=(s.m 999999=some ⟨T,sz,.row l',false⟩∧ResLt s rs r):=rfl
theorem R4 (T sz:Nat) (l':List D) (r:D) (rs:List (Nat×Option (Bool×Nat))) (s:St):gU T sz l' r rs .normal s=(s.m 999999=some ⟨T,sz,.row l',false⟩∧ResLt s rs r):=rfl
theorem R5 (T sz:Nat) (l':List D) (r:D) (rs:List (Nat×Option (Bool×Nat))) (i:Nat) (s:St):gU T sz l' r rs (.exit i) s=False:=rfl
theorem R6 (G:FuncId→List D→D→Prop) (dd:Option Nat) (n esz:Nat) (ag:Bool) (x i:Opd) (g:Option (Nat×Bool)) (K:St→Prop) (s:St):step G ⟨dd,.indexAddrA n esz ag x i,g⟩ K s=fin dd K (ev (.indexAddrA n esz ag x i) (dd.getD 0) s):=rfl
theorem R7 (n esz:Nat) (ag:Bool) (x i:Opd) (id:Nat) (s:St):ev (.indexAddrA n esz ag x i) id s=(match x.ev s.r,asI (i.ev s.r) with
  |.ptr j k off,some q=>some (decide (0≤q∧q<n),.ptr j k (off+q.toNat*esz),s)
  |.p (.ref d),some q=>match d.part (q.toNat*esz) esz ag with
   |some e=>some (decide (0≤q∧q<n),.p (.ref e),s)
   |none=>none
  |_,_=>none):=rfl
theorem R8 (G:FuncId→List D→D→Prop) (dd:Option Nat) (n esz:Nat) (ag:Bool) (x i:Opd) (g:Option (Nat×Bool)) (K:St→Prop) (s:St):step G ⟨dd,.indexA n esz ag x i,g⟩ K s=fin dd K (ev (.indexA n esz ag x i) (dd.getD 0) s):=rfl
theorem R9 (n esz:Nat) (ag:Bool) (x i:Opd) (id:Nat) (s:St):ev (.indexA n esz ag x i) id s=(match asI (i.ev s.r) with
  |some q=>if (x.ev s.r).isAgg=some true then match (x.ev s.r).part (q.toNat*esz) esz ag with
   |some v=>some (decide (0≤q∧q<n),v,s)
   |none=>none else none
  |none=>none):=rfl
theorem Sa (G:FuncId→List D→D→Prop) (dd:Option Nat) (T sz bytes:Nat) (y:Opd) (g:Option (Nat×Bool)) (K:St→Prop) (s:St):step G ⟨dd,.copyS T sz bytes y,g⟩ K s=fin dd K (ev (.copyS T sz bytes y) (dd.getD 0) s):=rfl
theorem Sb (T sz bytes:Nat) (y:Opd) (id:Nat) (s:St):ev (.copyS T sz bytes y) id s=(match s.m id,bQ sz s.m (y.ev s.r) with
  |none,some ys=>some (decide (ys.length*bytes≤140737488355328∧ys.length≤9223372036854775807),.slice id 0 ys.length,⟨s.r,upd s.m id (some ⟨T,sz,.row ys,false⟩)⟩)
  |_,_=>none):=rfl
theorem Sc (G:FuncId→List D→D→Prop) (dd:Option Nat) (T sz bytes:Nat) (y:Opd) (g:Option (Nat×Bool)) (K:St→Prop) (s:St):step G ⟨dd,.copyF T sz bytes y,g⟩ K s=fin dd K (ev (.copyF T sz bytes y) (dd.getD 0) s):=rfl
theorem Sd (T sz bytes:Nat) (y:Opd) (id:Nat) (s:St):ev (.copyF T sz bytes y) id s=(if id=999999 then none else match s.m id,bQ sz s.m (y.ev s.r) with
  |none,some ys=>some (decide (ys.length*bytes≤140737488355328∧ys.length≤9223372036854775807),.slice id 0 ys.length,⟨s.r,upd s.m id (some ⟨T,sz,.row ys,true⟩)⟩)
  |_,_=>none):=rfl
theorem Se (G:FuncId→List D→D→Prop) (dd:Option Nat) (fn:Fn) (x y:List Opd) (g:Option (Nat×Bool)) (K:St→Prop) (s:St):step G ⟨dd,.fnv fn x y,g⟩ K s=fin dd K (ev (.fnv fn x y) (dd.getD 0) s):=rfl
theorem Sg (fn:Fn) (x y:List Opd) (id:Nat) (s:St):ev (.fnv fn x y) id s=(match cM s.r s.m x,cM s.r s.m y with
  |some l,some k=>some (true,.p (.fn fn l k),s)
  |_,_=>none):=rfl
theorem Sh (r:Nat→AV) (M:Mem):cM r M []=some []:=rfl
theorem Si (r:Nat→AV) (M:Mem) (x:Opd) (l:List Opd):cM r M (x::l)=(match (x.ev r).toD false M 20,cM r M l with
  |some d,some ds=>some (d::ds)
  |_,_=>none):=rfl
theorem Sj (any:Bool) (M:Mem) (id i off:Nat):AV.toD any M 20 (.ptr id i off)=(if i=0∧off=0 then match M id with
   |some o=>match o.cont with
    |.box v=>if o.frz||any then (AV.toD any M 19 v).map .ref else none
    |_=>none
   |none=>none else none):=rfl
theorem Sk (any:Bool) (M:Mem) (d:D):AV.toD any M 19 (.p d)=some d:=rfl
theorem Sn (G:FuncId→List D→D→Prop) (dd:Option Nat) (n:Nat) (x:Opd) (lo hi mx:Option Opd) (g:Option (Nat×Bool)) (K:St→Prop) (s:St):step G ⟨dd,.sliceA n x lo hi mx,g⟩ K s=fin dd K (ev (.sliceA n x lo hi mx) (dd.getD 0) s):=rfl
theorem So (n:Nat) (x:Opd) (lo hi mx:Option Opd) (id:Nat) (s:St):ev (.sliceA n x lo hi mx) id s=(match x.ev s.r with
  |.ptr i 0 off=>match s.m i with
   |some ⟨_,osz,.box _,_⟩=>if off+n≤osz∧n≤9223372036854775807 then match cd s.r n lo hi mx with
    |some (c,l,h)=>some (c,.arr i (off+l) (h-l),s)
    |none=>none else none
   |_=>none
  |_=>none):=rfl
theorem Sp (any:Bool) (M:Mem) (id off len:Nat):AV.toD any M 20 (.arr id off len)=(match M id with
   |some o=>match o.cont with
    |.box (.p d)=>if (o.frz||any)&&decide (off+len≤d.cells.length)&&decide (len≤9223372036854775807) then some (.list 1000000 1 ((d.cells.drop off).take len)) else none
    |_=>none
   |none=>none):=rfl
theorem Sq (i j o n:Nat):AV.forget i (.arr j o n)=if j=i then .und else .arr j o n:=by unfold AV.forget;rfl
theorem Sr (G:FuncId→List D→D→Prop) (dd:Option Nat) (x y:Opd) (g:Option (Nat×Bool)) (K:St→Prop) (s:St):step G ⟨dd,.copyA x y,g⟩ K s=fin dd K (ev (.copyA x y) (dd.getD 0) s):=rfl
theorem Ss (x y:Opd) (id:Nat) (s:St):ev (.copyA x y) id s=(match x.ev s.r,bQ 1 s.m (y.ev s.r) with
  |.arr i off len,some ys=>match s.m i with
   |some ⟨T,osz,.box u,false⟩=>if off+len≤osz∧ys.all D.one=true then
     some (decide (ys.length≤len),.p (.int .i64 (ys.length:Nat)),⟨s.r,upd s.m i (some ⟨T,osz,.box (AV.mk (u.cells.take off++ys.map .p++u.cells.drop (off+ys.length))),false⟩)⟩) else none
   |_=>none
  |_,_=>none):=rfl
theorem Su (G:FuncId→List D→D→Prop) (dd:Option Nat) (sz:Nat) (z:D) (x:Opd) (g:Option (Nat×Bool)) (K:St→Prop) (s:St):step G ⟨dd,.clearS sz z x,g⟩ K s=fin dd K (ev (.clearS sz z x) (dd.getD 0) s):=rfl
theorem Sv (sz:Nat) (z:D) (x:Opd) (id:Nat) (s:St):ev (.clearS sz z x) id s=(match x.ev s.r with
  |.slice i off len=>match s.m i with
   |some ⟨T,osz,.row l,false⟩=>if osz=sz then some (decide (off+len≤l.length),.und,⟨s.r,upd s.m i (some ⟨T,osz,.row (l.take off++List.replicate len z++l.drop (off+len)),false⟩)⟩) else none
   |_=>none
  |_=>none):=rfl
theorem Sw (G:FuncId→List D→D→Prop) (dd:Option Nat) (neg:Bool) (x:Opd) (g:Option (Nat×Bool)) (K:St→Prop) (s:St):step G ⟨dd,.isNil neg x,g⟩ K s=(match x.ev s.r with
  |.nils _ _=>K (s.put dd (.p (.bool (!neg))))
  |.p (.list _ _ l) => ∀b:Bool,(l≠[]→b=false)→K (s.put dd (.p (.bool (b != neg))))
  |_=>False):=rfl
theorem Sx (T sz:Nat) (l:List D) (rs:List (Nat×Option (Bool×Nat))) (s:St):ln T sz l rs .ret s=ResNew s rs T sz l:=rfl
theorem Sz (T sz:Nat) (l:List D) (rs:List (Nat×Option (Bool×Nat))) (s:St):ln T sz l rs .normal s=ResNew s rs T sz l:=rfl
theorem SA (T sz:Nat) (l:List D) (rs:List (Nat×Option (Bool×Nat))) (i:Nat) (s:St):ln T sz l rs (.exit i) s=False:=rfl
theorem SB (G:FuncId→List D→D→Prop) (dd:Option Nat) (x:Opd) (g:Option (Nat×Bool)) (K:St→Prop) (s:St):step G ⟨dd,.strB x,g⟩ K s=fin dd K (ev (.strB x) (dd.getD 0) s):=rfl
theorem SC (x:Opd) (id:Nat) (s:St):ev (.strB x) id s=(match bQ 1 s.m (x.ev s.r) with
  |some ys=>match iP ys with
   |some b=>some (true,.p (.str b),s)
   |none=>none
  |none=>none):=rfl
theorem SD (G:FuncId→List D→D→Prop) (dd:Option Nat) (T:TypeId) (x:Opd) (g:Option (Nat×Bool)) (K:St→Prop) (s:St):step G ⟨dd,.bytS T x,g⟩ K s=fin dd K (ev (.bytS T x) (dd.getD 0) s):=rfl
theorem SE (T:TypeId) (x:Opd) (id:Nat) (s:St):ev (.bytS T x) id s=(match s.m id with
  |none=>match x.ev s.r with
   |.p (.str t)=>some (decide (t.length≤9223372036854775807),.slice id 0 t.length,⟨s.r,upd s.m id (some ⟨T,1,.row (t.map fun b => .int .u8 b.toNat),false⟩)⟩)
   |_=>none
  |some _=>none):=rfl
theorem SF (k:IntKind) (a b:Int):aP .and (.int k a) (.int k b)=some (eN k a b,.int k (dI .and a.toNat b.toNat:Nat)):=by simp[aP]
theorem SG (k:IntKind) (a b:Int):aP .or (.int k a) (.int k b)=some (eN k a b,.int k (dI .or a.toNat b.toNat:Nat)):=by simp[aP]
theorem SH (k:IntKind) (a b:Int):aP .xor (.int k a) (.int k b)=some (eN k a b,.int k (dI .xor a.toNat b.toNat:Nat)):=by simp[aP]
theorem SI (k:IntKind) (a b:Int):aP .andNot (.int k a) (.int k b)=some (eN k a b,.int k (dI .andNot a.toNat b.toNat:Nat)):=by simp[aP]
theorem SJ (k k':IntKind) (a b:Int):aP .shr (.int k a) (.int k' b)=some (decide (0≤b∧b<k.bits),.int k (a / 2^b.toNat)):=by simp[aP]
theorem SK (k k':IntKind) (a b:Int):aP .shl (.int k a) (.int k' b)=some (decide (0≤b∧b<k.bits)&&inK k (a*2^b.toNat),.int k (a*2^b.toNat)):=by simp[aP]
def csL:=an @RW (an @SB (an @SC (an @SD (an @SE (an @SF (an @SG (an @SH (an @SI (an @SJ (an @SK (an @Sw (an @Sv (an @Su (an @Ss (an @Sr (an @Sq (an @Sp (an @So (an @Sn (an @Option.map_some.{0,0} (an @Sk (an @Sj (an @Si (an @Sh (an @Sg (an @Se (an @Sd (an @Sc (an @Sb (an @Sa (an @R9 (an @R8 (an @R7 (an @R6 (an @RU (an @Sx (an @Sz (an @SA (an @RS (an @RT (an @RX (an @RY (an @RZ (an @R0 (an @rJ (an @rK (an @rL (an @R1 (an @R2 (an @R3 (an @R4 @R5)))))))))))))))))))))))))))))))))))))))))))))))))))
theorem ResLt.unit (s:St):ResLt s [] (.tup []):=.plain rfl (fun m h=>by cases h)
theorem ResLt.one {s:St}{t:Nat}{d:D} (h:s.r t = .p d) (hd:∀m,d≠.tup [.int .i64 m]):ResLt s [(t,none)] d:=.plain (by simp[ai,ah,af,eo,h,qd]) hd
def dk (P:Program) (A:List TypeId) (f:FuncId) (k:Nat) (ds:List D) (T sz:Nat) (l:List D) (r:D) (l':List D):Prop:=
 f<LB∧k<8∧ds[k]? = some (.list T sz l)∧l'.length=l.length∧(l=[]→Con P A f ds (ek T sz r))∧(l≠[]→dD P A f k ds T sz l r l')
theorem dk.x {P:Program}{A:List TypeId}{f:FuncId}{k:Nat}{ds:List D}{T sz:Nat}{l:List D}{r:D}{l':List D} (h:dk P A f k ds T sz l r l'):ConX P A (f+LB*(k+1)) ds (.tup [r,.list T sz l']):=
 .lent h.1 h.2.1 h.2.2.1 h.2.2.2.1 h.2.2.2.2.1 h.2.2.2.2.2
theorem gN.x {P:Program}{A:List TypeId}{f:FuncId}{ds:List D}{T sz:Nat}{l:List D} (h:gN P A f ds T sz l) (hf:f<LB:=by decide):ConX P A (f+LB*(8+1)) ds (.list T sz l):=.fresh hf h
def apL (l l':List COp):List COp:=l++l'
section
variable {OT:List TypeId}{G:FuncId→List D→D→Prop}
def kw (OT:List TypeId) (G:FuncId→List D→D→Prop) (c:CC) (Q:AExit→St→Prop) (s:St):Prop:=cw OT G c Q s
def kc (G:FuncId→List D→D→Prop) (l:List COp) (K:St→Prop) (s:St):Prop:=bN G l K s
theorem ulk {c:CC}{Q:AExit→St→Prop}{s:St} (h:cw OT G c Q s):kw OT G c Q s:=h
theorem ulc {l:List COp}{K:St→Prop}{s:St} (h:bN G l K s):kc G l K s:=h
theorem kp {r:Nat→AV}{m:Mem}{c:CC}{Q:AExit→St→Prop} (ts:List Nat) (h:cw OT G c Q ⟨ar (sel r ts),m⟩):∃u,Sub OT ⟨r,m⟩ u∧kw OT G c Q u:=keep ts h
theorem di {a b:CC}{Q:AExit→St→Prop}{s:St} (h:cw OT G a (fun e t=>match e with
  |.normal => ∃u,Sub OT t u∧kw OT G b Q u
  |e=>Q e t) s):cw OT G (.seq a b) Q s:=h
theorem pf {id:Nat}{a:CC}{Q:AExit→St→Prop}{s:St} (h:cw OT G a (fun e t=>match e with
  |.exit j=>if j=id then Q .normal t else Q (.exit j) t
  |e=>Q e t) s):cw OT G (.block id a) Q s:=h
theorem kw1 (Q:AExit→St→Prop) (s:St):cw OT G .skip Q s=Q .normal s:=rfl
theorem kw2 (ap:List (Nat×Nat)) (l:List COp) (Q:AExit→St→Prop) (s:St):cw OT G (.ops ap l) Q s=(eW ap s.r=true∧bN G l (Q .normal) s):=rfl
theorem kw3 (a b:CC) (Q:AExit→St→Prop) (s:St):cw OT G (.seq a b) Q s=cw OT G a (fun e t=>match e with
  |.normal => ∃u,Sub OT t u∧kw OT G b Q u
  |e=>Q e t) s:=rfl
theorem kw4 (x:Opd) (a b:CC) (Q:AExit→St→Prop) (s:St):cw OT G (.cond x a b) Q s=(match x.ev s.r with
  |.p (.bool c)=>(c=true→kw OT G a Q s)∧(c=false→kw OT G b Q s)
  |_=>False):=rfl
theorem kw5 (id:Nat) (a:CC) (Q:AExit→St→Prop) (s:St):cw OT G (.block id a) Q s=cw OT G a (fun e t=>match e with
  |.exit j=>if j=id then Q .normal t else Q (.exit j) t
  |e=>Q e t) s:=rfl
theorem kw6 (id:Nat) (Q:AExit→St→Prop) (s:St):cw OT G (.exit id) Q s=Q (.exit id) s:=rfl
theorem kw7 (Q:AExit→St→Prop) (s:St):cw OT G .ret Q s=Q .ret s:=rfl
theorem kc1 (l l':List COp) (K:St→Prop) (s:St):bN G (apL l l') K s=bN G l (kc G l' K) s:=pD G K l l' s
theorem kc2 (K:St→Prop) (s:St):bN G [] K s=K s:=rfl
theorem kc3 (c:COp) (l:List COp) (K:St→Prop) (s:St):bN G (c::l) K s=bP G c (bN G l K) s:=rfl
end
theorem wq{p:Prop}{q r:D→Prop}{d:D}(h:q d)(k:r d)(g:p:=by first|exact aw_look (by rfl)|(intros;trivial)|(intro id o h;(repeat' split at h)<;>first|(cases h;done)|(simp only[Option.some.injEq] at h;subst h;simp))):p∧∃d,q d∧r d:=⟨g,d,h,k⟩
def kV:=an @kw1 (an @kw2 (an @kw3 (an @kw4 (an @kw5 (an @kw6 (an @kw7 (an @kc1 (an @kc2 (an @kc3 (an csW csL))))))))))
end Go.Proofs.YtbnhgnhgbhjkcaaGreat.M
