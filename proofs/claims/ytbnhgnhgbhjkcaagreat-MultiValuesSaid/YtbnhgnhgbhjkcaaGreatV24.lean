/- Lemmas. -/
import Derived.Test.YtbnhgnhgbhjkcaaGreatV23
set_option linter.defProp false
namespace Go.Proofs.YtbnhgnhgbhjkcaaGreat.M
open Go.RowKit
def bM (k T sz:Nat) (l:List D) (ds:List D):St:=⟨fun t=>if t=k then .slice aS 0 l.length else match ds[t]? with
 |some d => .p d
 |none => .und,fun i=>if i=aS then some ⟨T,sz,.row l,false⟩ else none⟩
def dR (s:St):St:=⟨s.r,fun i=>if i=aS then none else s.m i⟩
inductive ResLt (s:St) (rs:List (Nat×Option (Bool×Nat))):D→Prop
 |plain {r:D}:ah (dR s) rs=some r→(∀m,r≠.tup [.int .i64 m])→ResLt s rs r
 |pre {m:Int}{t:Nat}:rs=[(t,none)]→s.r t = .slice aS 0 m.toNat→ResLt s rs (.tup [.int .i64 m])
def gN (T sz:Nat) (l':List D) (r:D) (rs:List (Nat×Option (Bool×Nat))):AExit→St→Prop
 |.exit _,_=>False
 |_,s=>s.m aS=some ⟨T,sz,.row l',false⟩∧ResLt s rs r
theorem tH {w:World}{N:Nat→Prop}{b o sz n:Nat}{v:Value}{r:D} (h:∀m,r≠.tup [.int .i64 m]) (hv:V w N v r):je w N b o sz n v r:=by
 unfold je;split
 ·exact absurd rfl (h _)
 ·exact hv
theorem ay.conL {P:Program}{A OT:List TypeId}{f:FuncId}{cc:CC}{rs:List (Nat×Option (Bool×Nat))}{nt k:Nat}{ds:List D}{T sz:Nat}{l l':List D}{r:D} (h:ay P f OT cc rs nt) (hA':OT.all (fun T => !A.contains T&&(decide (T<70000000)||decide (80000000≤T)))=true) (hn:ds.length≤nt) (hT:OT.contains T=true) (hk:k<ds.length)
  (hcw:cw OT (ConX P A) cc (gN T sz l' r rs) (bM k T sz l ds)):df P A f k ds T sz l r l':=by
 have hA:=(kd hA').1;have hW:=(kd hA').2;obtain⟨fn,H,hf,hbd,hm,hc,hr,rfl⟩:=h;obtain⟨code,hb⟩:=Option.isSome_iff_exists.1 hbd;rw[hb] at hc;simp only[Option.getD_some] at hc;intro own w vs b o cap c fr h1 h2 h3 h4 hob hargk hheap hcap hcap2 hroom hfr hcont;have hblt:b<w.heap.size:=nA hheap;have hnb:∀x,(x<w.heap.size∧¬ own x)→NB ⟨own,some ⟨b,o,c.size,sz,false⟩⟩ (bM k T sz l ds).m (fun i=>if i=aS then some ⟨b,o,c.size,sz,false⟩ else none) w x:=fun x hx=>⟨hx.1,hx.2,by
  rintro⟨id,ob,L,g1,g2,g3,g4,g5⟩;dsimp only[bM] at g1 g3;by_cases e:id=aS
  ·subst e;rw[if_pos rfl] at g3;cases g3;exact hx.2 (g5 ▸ hob)
  ·rw[if_neg e] at g1;cases g1⟩
 have hbody:=qU (C:=⟨P,A,OT,fn.ntmps,w,⟨own,some ⟨b,o,c.size,sz,false⟩⟩⟩) ⟨h2,fun T hT=>by
  rw[List.all_eq_true] at hA;have:=hA T hT;simpa using this,fun b hb c T fr hc hT=>by rw[hW] at hT;cases hT⟩ hm H code cc _ (bM k T sz l ds) { tmps:=vs++Array.replicate (fn.ntmps-vs.size) undef,defers:=[] } w hc hcw ⟨⟨fun i=>if i=aS then some ⟨b,o,c.size,sz,false⟩ else none,ExtL.rf _ w,rfl,by simp;omega,h1,fun id hid => ?_,fun t => ?_,fun id ob ho => ?_,fun id id' ob ob' L L' g1 g2 _ _ _ _ _ _ => ?_,fun L hL => ?_⟩,fun id ob ho => ?_⟩
 ·refine calls_of_wp hf hb (wp_mono hbody ?_);intro e a' w' hq;have fin:(∃t,Is ⟨P,A,OT,fn.ntmps,w,⟨own,some ⟨b,o,c.size,sz,false⟩⟩⟩ t a' w'∧t.m aS=some ⟨T,sz,.row l',false⟩∧ResLt t rs r)→a'.defers=[]∧∃v,(results fn a'.tmps).run P w' = .ok v w'∧∃v' c',Ending.returned v=Ending.returned v'∧ExtL ⟨own,some ⟨b,o,c.size,sz,false⟩⟩ w w'∧w'.heap[b]? = some (.cells c' T fr)∧c'.size=c.size ∧
   bw w' (fun b=>b<w'.heap.size∧¬ own b) (fun _=>none) c' o sz (.row l')∧je w' (fun b=>b<w'.heap.size∧¬ own b) b o sz c.size v' r:=by
   rintro⟨t,ht,hlm,hres⟩;obtain⟨loc,hrel⟩:=ht.1;refine⟨hrel.defers,?_⟩;obtain⟨L,hL,hok⟩:=hrel.objs aS _ hlm;obtain⟨y1,y2,y3,-⟩:=hrel.keepL _ rfl;rw[hL] at y1;cases y1;obtain⟨c1,fr1,k1,k2,k3,k4,-⟩:=hok.at_ rfl;obtain⟨c2,z1,z2⟩:=hrel.ext.lentB b c T fr hheap;dsimp only at k1 k2 z2;rw[z2] at k1;simp only[Option.some.injEq,Obj.cells.injEq,true_and] at k1;obtain⟨rfl,rfl⟩:=k1;have hcont':bw w' (fun b=>b<w'.heap.size∧¬ own b) (fun _=>none) c2 o sz (.row l'):=⟨k3.1,k3.2.1,fun i e j d q1 q2=>⟨(k3.2.2 i e j d q1 q2).1,(k3.2.2 i e j d q1 q2).2.mono (fun _ _=>rfl) fun b hb=>⟨hb.1,hb.2.1⟩⟩⟩
   have hresults:∀vs:List Value,(fn.results.toList.mapM (d9 a'.tmps)).run P w' = .ok vs w'→(results fn a'.tmps).run P w' = .ok (if h:vs.toArray.size=1 then vs.toArray[0] else .tuple vs.toArray) w':=by
    intro vs hv;have hv':(fn.results.mapM (d9 a'.tmps)).run P w' = .ok vs.toArray w':=by
     rw[Array.mapM_eq_mapM_toList];simp[hv]
    rw[qh];simp only[Sem.run_bind,hv',Result.andThen];rfl
   cases hres with
   |plain hres hne =>
    have key:∀ds',ae (dR t) rs=some ds'→∃vs:List Value,(fn.results.toList.mapM (d9 a'.tmps)).run P w' = .ok vs w'∧vs.length=ds'.length∧∀(i:Nat) (d:D),ds'[i]? = some d→V w' (fun b=>b<w'.heap.size∧¬ own b) (vs.getD i undef) d:=by
     intro ds' hds;exact my (M':=(dR t).m) (fun i x hx=>by
      dsimp only[dR] at hx;split at hx
      ·cases hx
      ·exact hx) (.inr (by simp[dR])) hrel _ _ _ hr hds
    unfold ah at hres;split at hres
    ·rename_i d' hd';simp only[Option.some.injEq] at hres;subst hres;obtain⟨vs,q1,q2,q3⟩:=key _ hd'
     match vs,q2 with
     |[v],_ =>
      refine⟨v,by rw[hresults _ q1];simp,v,c2,rfl,hrel.ext,z2,z1,hcont',tH hne ?_⟩;have:=q3 0 d' rfl;simpa using this
    ·rename_i ds' hne1 hd';simp only[Option.some.injEq] at hres;subst hres;obtain⟨vs,q1,q2,q3⟩:=key _ hd';have hne2:vs.length≠1:=by
      intro h1;rw[q2] at h1
      match ds',h1 with
      |[d'],_=>exact hne1 d' rfl
     exact⟨.tuple vs.toArray,by rw[hresults _ q1,dif_neg (by simpa using hne2)],_,c2,rfl,hrel.ext,z2,z1,hcont',tH hne (.tup _ _ (by simpa using q2) (fun i e he=>by simpa using q3 i e he))⟩
    ·cases hres
   |pre hrs hst =>
    rename_i m tt;subst hrs;cases hfr:fn.results.toList with
    |nil=>rw[hfr] at hr;simp[dc] at hr
    |cons x rest =>
     rw[hfr] at hr;obtain⟨y,rs',g1,g2,g3⟩:=qi hrel x rest _ hr;obtain⟨rfl,rfl⟩:=List.cons.inj g1;obtain⟨v,q1,q2⟩:=g3 t.m _ (fun _ _ h=>h) rfl;have hrest:rest=[]:=by
      cases rest with
      |nil=>rfl
      |cons y ys =>
       cases y<;>simp only[dc] at g2
       ·simp[Option.map_eq_some_iff] at g2
       ·split at g2
        ·split at g2
         ·simp[Option.map_eq_some_iff] at g2
         ·cases g2
        ·cases g2
     subst hrest;refine⟨v,by rw[hresults [v] (by rw[hfr];simp[List.mapM_cons,q1])];simp,v,c2,rfl,hrel.ext,z2,z1,hcont',?_⟩;rw[hst] at q2;show (∃cap,v = .slice (some ⟨b,o,none⟩) m.toNat cap∧m.toNat≤cap∧cap≤9223372036854775807∧o+cap*sz≤c.size)∨(m.toNat=0∧∃p,v = .slice p 0 0)
     generalize m.toNat=mm at q2 ⊢;cases q2 with
     |slice L id off len cap' e1 e2 e3 e4 e5 =>
      rw[hL] at e1;cases e1;refine .inl ⟨cap',?_,e3,e4,?_⟩
      ·simp
      ·simpa using e5
     |sliceEmp L id off p e1 =>
      exact .inr ⟨rfl,p,rfl⟩
  cases e with
  |normal=>obtain⟨t,ht,hres⟩:=hq;exact fin ⟨t,ht,hres⟩
  |ret=>obtain⟨t,ht,hres⟩:=hq;exact fin ⟨t,ht,hres⟩
  |exit id=>obtain⟨t,ht,hbad⟩:=hq;exact hbad.elim
  |_=>exact hq.elim
 ·dsimp only[bM] at hid;split at hid
  ·cases hid
  ·rename_i e;rw[if_neg e]
 ·by_cases htk:t=k
  ·subst htk;have hr':(bM t T sz l ds).r t = .slice aS 0 l.length:=by simp[bM]
   rw[hr'];have hg:(vs++Array.replicate (fn.ntmps-vs.size) undef).getD t undef=vs.getD t undef:=by
    simp only[Array.getD_eq_getD_getElem?];rw[Array.getElem?_append_left (by omega)]
   simp only[hg];rw[hargk];have:=RV.slice (w:=w) (N:=NB ⟨own,some ⟨b,o,c.size,sz,false⟩⟩ (bM t T sz l ds).m (fun i=>if i=aS then some ⟨b,o,c.size,sz,false⟩ else none) w) (loc:=fun i=>if i=aS then some ⟨b,o,c.size,sz,false⟩ else none) ⟨b,o,c.size,sz,false⟩ aS 0 l.length cap (if_pos rfl) rfl hcap hcap2 (by simpa using hroom);simpa using this
  ·by_cases ht:t<vs.size
   ·have hd:∃d,ds[t]? = some d:=⟨ds[t]'(by omega),by simp⟩
    obtain⟨d',hd⟩:=hd;have hr':(bM k T sz l ds).r t = .p d':=by simp[bM,hd,htk]
    rw[hr'];have hg:(vs++Array.replicate (fn.ntmps-vs.size) undef).getD t undef=vs.getD t undef:=by
     simp only[Array.getD_eq_getD_getElem?];rw[Array.getElem?_append_left ht]
    simp only[hg];exact .p _ _ ((h4 t d' htk hd).mono (fun _ _=>rfl) hnb)
   ·have hr':(bM k T sz l ds).r t = .und:=by
     have:ds[t]? = none:=List.getElem?_eq_none (by omega);simp[bM,this,htk]
    rw[hr'];exact .und _
 ·dsimp only[bM] at ho;split at ho
  case isFalse=>cases ho
  rename_i e;subst e;cases ho;refine⟨⟨b,o,c.size,sz,false⟩,if_pos rfl,rfl,fun hh=>(by cases hh),fun _=>⟨c,fr,hheap,rfl,⟨hcont.1,hcont.2.1,fun i e j d q1 q2=>⟨(hcont.2.2 i e j d q1 q2).1,(hcont.2.2 i e j d q1 q2).2.mono (fun _ _=>rfl) hnb⟩⟩,fun _=>⟨.inr ⟨_,rfl,rfl⟩,hfr⟩,fun hh=>(by cases hh)⟩⟩
 ·dsimp only[bM] at g1 g2;split at g1
  case isFalse=>cases g1
  split at g2
  case isFalse=>cases g2
  rename_i e1 e2;rw[e1,e2]
 ·cases hL;exact⟨if_pos rfl,hob,rfl,⟨T,sz,.row l,false⟩,by simp[bM],rfl⟩
 ·dsimp only[bM] at ho;split at ho
  case isFalse=>cases ho
  cases ho;simpa using hT
inductive ResNew (s:St) (rs:List (Nat×Option (Bool×Nat))) (T sz:Nat):List D→Prop
 |row {l:List D}{y:Nat×Option (Bool×Nat)}{i:Nat}:rs=[y]→af s y=some (.slice i 0 l.length)→s.m i=some ⟨T,sz,.row l,false⟩→ResNew s rs T sz l
 |nil {y:Nat×Option (Bool×Nat)}:rs=[y]→af s y=some (.nils T sz)→ResNew s rs T sz []
def nW (T sz:Nat) (l:List D) (rs:List (Nat×Option (Bool×Nat))):AExit→St→Prop
 |.exit _,_=>False
 |_,s=>ResNew s rs T sz l
theorem UA (G:FuncId→List D→D→Prop) (dd:Option Nat) (f:FuncId) (k:Nat) (args:List Opd) (g:Option (Nat×Bool)) (K:St→Prop) (s:St):step G ⟨dd,.callL f k args,g⟩ K s=(match eN s k args with
  |.slice i 0 n=>match s.m i with
   |some ⟨T,sz,.row l,false⟩=>match dg s (.list T sz l) k args with
    |some ds=>n=l.length∧∃r l',G (f+LB*(k+1)) ds (.tup [r,.list T sz l'])∧K ((⟨s.r,upd s.m i (some ⟨T,sz,.row l',false⟩)⟩:St).put dd (if l=[] then .p (dM T sz r) else fH i r))
    |none=>False
   |_=>False
  |.p (.list T sz [])=>match aZ s args with
   |some ds => ∃r l',G (f+LB*(k+1)) ds (.tup [r,.list T sz l'])∧K (s.put dd (.p (dM T sz r)))
   |none=>False
  |_=>False):=rfl
theorem UB (G:FuncId→List D→D→Prop) (dd:Option Nat) (fs:List FuncId) (x:Opd) (args:List Opd) (g:Option (Nat×Bool)) (K:St→Prop) (s:St):step G ⟨dd,.callv fs x args,g⟩ K s=(match (x.ev s.r).toD false s.m 20,aZ s args with
  |some (.fn (.func f) a b),some ds=>fs.contains f=true∧∃d,G f (a++ds++b) d∧K (s.put dd (.p d))
  |_,_=>False):=rfl
theorem UC (G:FuncId→List D→D→Prop) (dd:Option Nat) (f:FuncId) (T:TypeId) (args:List Opd) (g:Option (Nat×Bool)) (K:St→Prop) (s:St):step G ⟨dd,.callN f T args,g⟩ K s=(match aZ s args with
  |some ds=>match s.m (dd.getD 0) with
   |none => ∃sz l,G (f+LB*(8+1)) ds (.list T sz l)∧K ((⟨s.r,upd s.m (dd.getD 0) (some ⟨T,sz,.row l,false⟩)⟩:St).put dd (.slice (dd.getD 0) 0 l.length))
   |some _=>False
  |none=>False):=rfl
theorem UD (G:FuncId→List D→D→Prop) (dd:Option Nat) (f:FuncId) (B:List TypeId) (args:List Opd) (g:Option (Nat×Bool)) (K:St→Prop) (s:St):step G ⟨dd,.callW f B args,g⟩ K s=(match aZ s args with
  |some ds=>(∀id o,s.m id=some o→o.frz=true∨o.T ∉ B)∧∃d,G (f+LB*(9+1)) (.tup (B.map fun T => .int .i64 (T:Nat))::ds) d∧K (s.put dd (.p d))
  |none=>False):=rfl
theorem UE (s:St) (x:Opd) (l:List Opd):eN s 0 (x::l)=x.ev s.r:=rfl
theorem UF (s:St) (x y:Opd) (l:List Opd):eN s 1 (x::y::l)=y.ev s.r:=rfl
theorem UG (s:St) (d:D) (x:Opd) (l:List Opd):dg s d 0 (x::l)=(match aZ s l with
  |some ds=>some (d::ds)
  |none=>none):=rfl
theorem UH (s:St) (d:D) (x y:Opd) (l:List Opd):dg s d 1 (x::y::l)=(match (x.ev s.r).toD false s.m 20,(match aZ s l with
  |some ds=>some (d::ds)
  |none=>none) with
  |some e,some es=>some (e::es)
  |_,_=>none):=rfl
theorem rt (i:Nat) (m:Int):fH i (.tup [.int .i64 m]) = .slice i 0 m.toNat:=rfl
theorem ru (i:Nat):fH i (.tup []) = .p (.tup []):=rfl
theorem rx (i:Nat) (k:IntKind) (m:Int):fH i (.int k m) = .p (.int k m):=rfl
theorem UI (T sz:Nat) (m:Int):dM T sz (.tup [.int .i64 m]) = .list T sz []:=rfl
theorem UJ (T sz:Nat):dM T sz (.tup []) = .tup []:=rfl
theorem im (T sz:Nat) (l:List D) (a b:D):bM 0 T sz l [a,b]=⟨ai [(0,.slice 999999 0 l.length),(1,.p b)],aw [(999999,⟨T,sz,.row l,false⟩)]⟩:=by
 unfold bM;congr 1;funext t
 match t with
 |0=>rfl
 |1=>rfl
 |k+2=>simp[ai]
theorem m6 (T sz:Nat) (l:List D) (a b c:D):bM 0 T sz l [a,b,c]=⟨ai [(0,.slice 999999 0 l.length),(1,.p b),(2,.p c)],aw [(999999,⟨T,sz,.row l,false⟩)]⟩:=by
 unfold bM;congr 1;funext t
 match t with
 |0=>rfl
 |1=>rfl
 |2=>rfl
 |k+3=>simp[ai]
theorem ry (T sz:Nat) (l:List D) (a b c d:D):bM 0 T sz l [a,b,c,d]=⟨ai [(0,.slice 999999 0 l.length),(1,.p b),(2,.p c),(3,.p d)],aw [(999999,⟨T,sz,.row l,false⟩)]⟩:=by
 unfold bM;congr 1;funext t
 match t with
 |0=>rfl
 |1=>rfl
 |2=>rfl
 |3=>rfl
 |k+4=>simp[ai]
theorem eL (T sz:Nat) (l:List D) (a b c d e:D):bM 0 T sz l [a,b,c,d,e]=⟨ai [(0,.slice 999999 0 l.length),(1,.p b),(2,.p c),(3,.p d),(4,.p e)],aw [(999999,⟨T,sz,.row l,false⟩)]⟩:=by
 unfold bM;congr 1;funext t
 match t with
 |0=>rfl
 |1=>rfl
 |2=>rfl
 |3=>rfl
 |4=>rfl
 |k+5=>simp[ai]
theorem UK (T sz:Nat) (l':List D) (r:D) (rs:List (Nat×Option (Bool×Nat))) (s:St):gN T sz l' r rs .ret s=(s.m 999999=some ⟨T,sz,.row l',false⟩∧ResLt s rs r):=rfl
theorem UL (T sz:Nat) (l':List D) (r:D) (rs:List (Nat×Option (Bool×Nat))) (s:St):gN T sz l' r rs .normal s=(s.m 999999=some ⟨T,sz,.row l',false⟩∧ResLt s rs r):=rfl
theorem UM (T sz:Nat) (l':List D) (r:D) (rs:List (Nat×Option (Bool×Nat))) (i:Nat) (s:St):gN T sz l' r rs (.exit i) s=False:=rfl
theorem UN (G:FuncId→List D→D→Prop) (dd:Option Nat) (n esz:Nat) (ag:Bool) (x i:Opd) (g:Option (Nat×Bool)) (K:St→Prop) (s:St):step G ⟨dd,.indexAddrA n esz ag x i,g⟩ K s=fin dd K (ev (.indexAddrA n esz ag x i) (dd.getD 0) s):=rfl
theorem UO (n esz:Nat) (ag:Bool) (x i:Opd) (id:Nat) (s:St):ev (.indexAddrA n esz ag x i) id s=(match x.ev s.r,asI (i.ev s.r) with
  |.ptr j k off,some q=>some (decide (0≤q∧q<n),.ptr j k (off+q.toNat*esz),s)
  |.p (.ref d),some q=>match d.part (q.toNat*esz) esz ag with
   |some e=>some (decide (0≤q∧q<n),.p (.ref e),s)
   |none=>none
  |_,_=>none):=rfl
theorem UP (G:FuncId→List D→D→Prop) (dd:Option Nat) (n esz:Nat) (ag:Bool) (x i:Opd) (g:Option (Nat×Bool)) (K:St→Prop) (s:St):step G ⟨dd,.indexA n esz ag x i,g⟩ K s=fin dd K (ev (.indexA n esz ag x i) (dd.getD 0) s):=rfl
theorem UQ (n esz:Nat) (ag:Bool) (x i:Opd) (id:Nat) (s:St):ev (.indexA n esz ag x i) id s=(match asI (i.ev s.r) with
  |some q=>if (x.ev s.r).isAgg=some true then match (x.ev s.r).part (q.toNat*esz) esz ag with
   |some v=>some (decide (0≤q∧q<n),v,s)
   |none=>none else none
  |none=>none):=rfl
theorem UR (G:FuncId→List D→D→Prop) (dd:Option Nat) (T sz bytes:Nat) (y:Opd) (g:Option (Nat×Bool)) (K:St→Prop) (s:St):step G ⟨dd,.copyS T sz bytes y,g⟩ K s=fin dd K (ev (.copyS T sz bytes y) (dd.getD 0) s):=rfl
theorem US (T sz bytes:Nat) (y:Opd) (id:Nat) (s:St):ev (.copyS T sz bytes y) id s=(match s.m id,bH sz s.m (y.ev s.r) with
  |none,some ys=>some (decide (ys.length*bytes≤140737488355328∧ys.length≤9223372036854775807),.slice id 0 ys.length,⟨s.r,upd s.m id (some ⟨T,sz,.row ys,false⟩)⟩)
  |_,_=>none):=rfl
theorem UT (G:FuncId→List D→D→Prop) (dd:Option Nat) (T sz bytes:Nat) (y:Opd) (g:Option (Nat×Bool)) (K:St→Prop) (s:St):step G ⟨dd,.copyF T sz bytes y,g⟩ K s=fin dd K (ev (.copyF T sz bytes y) (dd.getD 0) s):=rfl
theorem UV (T sz bytes:Nat) (y:Opd) (id:Nat) (s:St):ev (.copyF T sz bytes y) id s=(if id=999999 then none else match s.m id,bH sz s.m (y.ev s.r) with
  |none,some ys=>some (decide (ys.length*bytes≤140737488355328∧ys.length≤9223372036854775807),.slice id 0 ys.length,⟨s.r,upd s.m id (some ⟨T,sz,.row ys,true⟩)⟩)
  |_,_=>none):=rfl
theorem UW (G:FuncId→List D→D→Prop) (dd:Option Nat) (fn:Fn) (x y:List Opd) (g:Option (Nat×Bool)) (K:St→Prop) (s:St):step G ⟨dd,.fnv fn x y,g⟩ K s=fin dd K (ev (.fnv fn x y) (dd.getD 0) s):=rfl
theorem UX (fn:Fn) (x y:List Opd) (id:Nat) (s:St):ev (.fnv fn x y) id s=(match cA s.r s.m x,cA s.r s.m y with
  |some l,some k=>some (true,.p (.fn fn l k),s)
  |_,_=>none):=rfl
theorem UY (r:Nat→AV) (M:Mem):cA r M []=some []:=rfl
theorem UZ (r:Nat→AV) (M:Mem) (x:Opd) (l:List Opd):cA r M (x::l)=(match (x.ev r).toD false M 20,cA r M l with
  |some d,some ds=>some (d::ds)
  |_,_=>none):=rfl
theorem U0 (any:Bool) (M:Mem) (id i off:Nat):AV.toD any M 20 (.ptr id i off)=(if i=0∧off=0 then match M id with
   |some o=>match o.cont with
    |.box v=>if o.frz||any then (AV.toD any M 19 v).map .ref else none
    |_=>none
   |none=>none else none):=rfl
theorem U1 (any:Bool) (M:Mem) (d:D):AV.toD any M 19 (.p d)=some d:=rfl
theorem U2 (G:FuncId→List D→D→Prop) (dd:Option Nat) (n:Nat) (x:Opd) (lo hi mx:Option Opd) (g:Option (Nat×Bool)) (K:St→Prop) (s:St):step G ⟨dd,.sliceA n x lo hi mx,g⟩ K s=fin dd K (ev (.sliceA n x lo hi mx) (dd.getD 0) s):=rfl
theorem U3 (n:Nat) (x:Opd) (lo hi mx:Option Opd) (id:Nat) (s:St):ev (.sliceA n x lo hi mx) id s=(match x.ev s.r with
  |.ptr i 0 off=>match s.m i with
   |some ⟨_,osz,.box _,_⟩=>if off+n≤osz∧n≤9223372036854775807 then match bS s.r n lo hi mx with
    |some (c,l,h)=>some (c,.arr i (off+l) (h-l),s)
    |none=>none else none
   |_=>none
  |_=>none):=rfl
theorem U4 (any:Bool) (M:Mem) (id off len:Nat):AV.toD any M 20 (.arr id off len)=(match M id with
   |some o=>match o.cont with
    |.box (.p d)=>if (o.frz||any)&&decide (off+len≤d.cells.length)&&decide (len≤9223372036854775807) then some (.list 1000000 1 ((d.cells.drop off).take len)) else none
    |_=>none
   |none=>none):=rfl
theorem U5 (i j o n:Nat):AV.forget i (.arr j o n)=if j=i then .und else .arr j o n:=by unfold AV.forget;rfl
theorem U6 (G:FuncId→List D→D→Prop) (dd:Option Nat) (x y:Opd) (g:Option (Nat×Bool)) (K:St→Prop) (s:St):step G ⟨dd,.copyA x y,g⟩ K s=fin dd K (ev (.copyA x y) (dd.getD 0) s):=rfl
theorem U7 (x y:Opd) (id:Nat) (s:St):ev (.copyA x y) id s=(match x.ev s.r,bH 1 s.m (y.ev s.r) with
  |.arr i off len,some ys=>match s.m i with
   |some ⟨T,osz,.box u,false⟩=>if off+len≤osz∧ys.all D.one=true then
     some (decide (ys.length≤len),.p (.int .i64 (ys.length:Nat)),⟨s.r,upd s.m i (some ⟨T,osz,.box (AV.mk (u.cells.take off++ys.map .p++u.cells.drop (off+ys.length))),false⟩)⟩) else none
   |_=>none
  |_,_=>none):=rfl
theorem U8 (G:FuncId→List D→D→Prop) (dd:Option Nat) (sz:Nat) (z:D) (x:Opd) (g:Option (Nat×Bool)) (K:St→Prop) (s:St):step G ⟨dd,.clearS sz z x,g⟩ K s=fin dd K (ev (.clearS sz z x) (dd.getD 0) s):=rfl
theorem U9 (sz:Nat) (z:D) (x:Opd) (id:Nat) (s:St):ev (.clearS sz z x) id s=(match x.ev s.r with
  |.slice i off len=>match s.m i with
   |some ⟨T,osz,.row l,false⟩=>if osz=sz then some (decide (off+len≤l.length),.und,⟨s.r,upd s.m i (some ⟨T,osz,.row (l.take off++List.replicate len z++l.drop (off+len)),false⟩)⟩) else none
   |_=>none
  |_=>none):=rfl
theorem Va (G:FuncId→List D→D→Prop) (dd:Option Nat) (neg:Bool) (x:Opd) (g:Option (Nat×Bool)) (K:St→Prop) (s:St):step G ⟨dd,.isNil neg x,g⟩ K s=(match x.ev s.r with
  |.nils _ _=>K (s.put dd (.p (.bool (!neg))))
  |.p (.list _ _ l) => ∀b:Bool,(l≠[]→b=false)→K (s.put dd (.p (.bool (b != neg))))
  |_=>False):=rfl
theorem Vb (T sz:Nat) (l:List D) (rs:List (Nat×Option (Bool×Nat))) (s:St):nW T sz l rs .ret s=ResNew s rs T sz l:=rfl
theorem Vc (T sz:Nat) (l:List D) (rs:List (Nat×Option (Bool×Nat))) (s:St):nW T sz l rs .normal s=ResNew s rs T sz l:=rfl
theorem Vd (T sz:Nat) (l:List D) (rs:List (Nat×Option (Bool×Nat))) (i:Nat) (s:St):nW T sz l rs (.exit i) s=False:=rfl
theorem Ve (G:FuncId→List D→D→Prop) (dd:Option Nat) (x:Opd) (g:Option (Nat×Bool)) (K:St→Prop) (s:St):step G ⟨dd,.strB x,g⟩ K s=fin dd K (ev (.strB x) (dd.getD 0) s):=rfl
theorem Vf (x:Opd) (id:Nat) (s:St):ev (.strB x) id s=(match bH 1 s.m (x.ev s.r) with
  |some ys=>match iF ys with
   |some b=>some (true,.p (.str b),s)
   |none=>none
  |none=>none):=rfl
theorem Vg (G:FuncId→List D→D→Prop) (dd:Option Nat) (T:TypeId) (x:Opd) (g:Option (Nat×Bool)) (K:St→Prop) (s:St):step G ⟨dd,.bytS T x,g⟩ K s=fin dd K (ev (.bytS T x) (dd.getD 0) s):=rfl
theorem Vh (T:TypeId) (x:Opd) (id:Nat) (s:St):ev (.bytS T x) id s=(match s.m id with
  |none=>match x.ev s.r with
   |.p (.str t)=>some (decide (t.length≤9223372036854775807),.slice id 0 t.length,⟨s.r,upd s.m id (some ⟨T,1,.row (t.map fun b => .int .u8 b.toNat),false⟩)⟩)
   |_=>none
  |some _=>none):=rfl
theorem Vi (k:IntKind) (a b:Int):aM .and (.int k a) (.int k b)=some (eB k a b,.int k (dm .and a.toNat b.toNat:Nat)):=by simp[aM]
theorem Vj (k:IntKind) (a b:Int):aM .or (.int k a) (.int k b)=some (eB k a b,.int k (dm .or a.toNat b.toNat:Nat)):=by simp[aM]
theorem Vk (k:IntKind) (a b:Int):aM .xor (.int k a) (.int k b)=some (eB k a b,.int k (dm .xor a.toNat b.toNat:Nat)):=by simp[aM]
theorem Vl (k:IntKind) (a b:Int):aM .andNot (.int k a) (.int k b)=some (eB k a b,.int k (dm .andNot a.toNat b.toNat:Nat)):=by simp[aM]
theorem Vm (k k':IntKind) (a b:Int):aM .shr (.int k a) (.int k' b)=some (decide (0≤b∧b<k.bits),.int k (a / 2^b.toNat)):=by simp[aM]
theorem Vn (k k':IntKind) (a b:Int):aM .shl (.int k a) (.int k' b)=some (decide (0≤b∧b<k.bits)&&inK k (a*2^b.toNat),.int k (a*2^b.toNat)):=by simp[aM]
def csL:=an @UD (an @Ve (an @Vf (an @Vg (an @Vh (an @Vi (an @Vj (an @Vk (an @Vl (an @Vm (an @Vn (an @Va (an @U9 (an @U8 (an @U7 (an @U6 (an @U5 (an @U4 (an @U3 (an @U2 (an @Option.map_some.{0,0} (an @U1 (an @U0 (an @UZ (an @UY (an @UX (an @UW (an @UV (an @UT (an @US (an @UR (an @UQ (an @UP (an @UO (an @UN (an @UC (an @Vb (an @Vc (an @Vd (an @UA (an @UB (an @UE (an @UF (an @UG (an @UH (an @rt (an @ru (an @rx (an @UI (an @UJ (an @UK (an @UL @UM)))))))))))))))))))))))))))))))))))))))))))))))))))
theorem ResLt.unit (s:St):ResLt s [] (.tup []):=.plain rfl (fun m h=>by cases h)
theorem ResLt.one {s:St}{t:Nat}{d:D} (h:s.r t = .p d) (hd:∀m,d≠.tup [.int .i64 m]):ResLt s [(t,none)] d:=.plain (by simp[ah,ae,af,dR,h,pU]) hd
def cZ (P:Program) (A:List TypeId) (f:FuncId) (k:Nat) (ds:List D) (T sz:Nat) (l:List D) (r:D) (l':List D):Prop:=
 f<LB∧k<8∧ds[k]? = some (.list T sz l)∧l'.length=l.length∧(l=[]→Con P A f ds (dM T sz r))∧(l≠[]→df P A f k ds T sz l r l')
theorem cZ.x {P:Program}{A:List TypeId}{f:FuncId}{k:Nat}{ds:List D}{T sz:Nat}{l:List D}{r:D}{l':List D} (h:cZ P A f k ds T sz l r l'):ConX P A (f+LB*(k+1)) ds (.tup [r,.list T sz l']):=
 .lent h.1 h.2.1 h.2.2.1 h.2.2.2.1 h.2.2.2.2.1 h.2.2.2.2.2
def apL (l l':List COp):List COp:=l++l'
section
variable {OT:List TypeId}{G:FuncId→List D→D→Prop}
def kw (OT:List TypeId) (G:FuncId→List D→D→Prop) (c:CC) (Q:AExit→St→Prop) (s:St):Prop:=cw OT G c Q s
def kc (G:FuncId→List D→D→Prop) (l:List COp) (K:St→Prop) (s:St):Prop:=bx G l K s
theorem ulk {c:CC}{Q:AExit→St→Prop}{s:St} (h:cw OT G c Q s):kw OT G c Q s:=h
theorem ulc {l:List COp}{K:St→Prop}{s:St} (h:bx G l K s):kc G l K s:=h
theorem kp {r:Nat→AV}{m:Mem}{c:CC}{Q:AExit→St→Prop} (ts:List Nat) (h:cw OT G c Q ⟨ai (sel r ts),m⟩):∃u,Sub OT ⟨r,m⟩ u∧kw OT G c Q u:=keep ts h
theorem cX {a b:CC}{Q:AExit→St→Prop}{s:St} (h:cw OT G a (fun e t=>match e with
  |.normal => ∃u,Sub OT t u∧kw OT G b Q u
  |e=>Q e t) s):cw OT G (.seq a b) Q s:=h
theorem oS {id:Nat}{a:CC}{Q:AExit→St→Prop}{s:St} (h:cw OT G a (fun e t=>match e with
  |.exit j=>if j=id then Q .normal t else Q (.exit j) t
  |e=>Q e t) s):cw OT G (.block id a) Q s:=h
theorem kw1 (Q:AExit→St→Prop) (s:St):cw OT G .skip Q s=Q .normal s:=rfl
theorem kw2 (ap:List (Nat×Nat)) (l:List COp) (Q:AExit→St→Prop) (s:St):cw OT G (.ops ap l) Q s=(eH ap s.r=true∧bx G l (Q .normal) s):=rfl
theorem kw3 (a b:CC) (Q:AExit→St→Prop) (s:St):cw OT G (.seq a b) Q s=cw OT G a (fun e t=>match e with
  |.normal => ∃u,Sub OT t u∧kw OT G b Q u
  |e=>Q e t) s:=rfl
theorem kw4 (x:Opd) (a b:CC) (Q:AExit→St→Prop) (s:St):cw OT G (.cond x a b) Q s=(match x.ev s.r with
  |.p (.bool c)=>(c=true→kw OT G a Q s)∧(c=false→kw OT G b Q s)
  |_=>False):=rfl
theorem kw5 (id:Nat) (a:CC) (Q:AExit→St→Prop) (s:St):cw OT G (.block id a) Q s=cw OT G a (fun e t=>match e with
  |.exit j=>if j=id then Q .normal t else Q (.exit j) t
  |e=>Q e t) s:=rfl
theorem kw6 (id:Nat) (Q:AExit→St→Prop) (s:St):cw OT G (.exit id) Q s=Q (.exit id) s:=rfl
theorem kw7 (Q:AExit→St→Prop) (s:St):cw OT G .ret Q s=Q .ret s:=rfl
theorem kc1 (l l':List COp) (K:St→Prop) (s:St):bx G (apL l l') K s=bx G l (kc G l' K) s:=pf G K l l' s
theorem kc2 (K:St→Prop) (s:St):bx G [] K s=K s:=rfl
theorem kc3 (c:COp) (l:List COp) (K:St→Prop) (s:St):bx G (c::l) K s=bF G c (bx G l K) s:=rfl
end
theorem wq{p:Prop}{q r:D→Prop}{d:D}(h:q d)(k:r d)(g:p:=by first|exact aw_look (by rfl)|(intros;trivial)|(intro id o h;(repeat' split at h)<;>first|(cases h;done)|(simp only[Option.some.injEq] at h;subst h;simp))):p∧∃d,q d∧r d:=⟨g,d,h,k⟩
def kV:=an @kw1 (an @kw2 (an @kw3 (an @kw4 (an @kw5 (an @kw6 (an @kw7 (an @kc1 (an @kc2 (an @kc3 (an csW csL))))))))))
abbrev Jo:List COp:=[o2 11 (.build [(.p (.bool false)),(.p (.list 3 1 []))] []),o2 12 (.call 62 [(ki 1)])]
abbrev Jp:List COp:=[o2 13 (.build [(.p (.bool false)),(.p (.list 3 1 [])),(.p (.bool false)),(.p (.list 3 1 []))] [(0,2,(.t 11)),(2,2,(.t 12))]),o2 4 (.alloc 50 4 (.p (.agg [(.bool false),(.list 3 1 []),(.bool false),(.list 3 1 [])]))),b8 4 4 13]
abbrev Jq:List COp:=[o1 15 0,o2 16 (.call 63 [(.t 15),(kb true),(kb true)])]
abbrev Jr:List COp:=[o1 14 16,b9 17 14 0,b9 18 14 1,o1 5 17,o1 6 18]
abbrev Js:List COp:=[o1 34 0,o1 35 5,b2 36 .add 35 1,o2 37 (.sliceS (.t 34) (some (.t 36)) none),o2 38 (.call 63 [(.t 37),(kb false),(kb false)])]
abbrev Jt:List COp:=[o1 33 38,b9 39 33 0,b9 40 33 1,o1 8 39,o1 9 40]
abbrev Ju:CC:=.ops [] [o1 45 9,o1 6 45]
abbrev Jv:CC:=.seq (.ops [] [o1 41 5,b2 42 .add 41 1,o1 43 8,b1 44 .add 42 43,o1 7 44]) Ju
abbrev Jw:CC:=.seq (.ops [] (apL Js (Jt))) Jv
abbrev Jx:CC:=.cond (.t 32) Jw .skip
abbrev Jy:CC:=.seq (.ops [] [b4 54 true 4 4,o1 55 7,o2 56 (.build [(.p (.int .i64 0)),(.p (.int .i64 0))] [(0,1,(ki 1)),(1,1,(.t 55))]),b8 4 2 54,b8 2 3 56]) .ret
abbrev Jz:CC:=.cond (.t 53) Jy .skip
abbrev JA:List COp:=[o1 57 0,o1 58 5,o2 59 (.sliceS (.t 57) none (some (.t 58))),o2 60 (.call 64 [(.t 59)])]
abbrev JB:List COp:=[b2 61 .gtr 60 1000,o1 62 61,o5 63 7 62 false,o5 64 5 62 false,o4 65 (.bin false .sub (.t 63) (.t 64)) 62 false,o4 66 (.bin false .sub (.t 65) (ki 1)) 62 false,o4 67 (.bin false .gtr (.t 66) (ki 1000)) 62 false,o2 68 (.pick (.t 62) (kb true) (.t 67))]
abbrev JC:CC:=.seq (.ops [] [b4 69 true 4 4,o2 70 (.build [(.p (.int .i64 0)),(.p (.int .i64 0))] [(0,1,(ki 2))]),b8 4 2 69,b8 2 3 70]) .ret
abbrev JD:CC:=.cond (.t 68) JC .skip
abbrev JE:List COp:=[o1 71 0,o1 72 5,o2 73 (.sliceS (.t 71) none (some (.t 72))),o2 74 (.call 65 [(.t 73)])]
abbrev JF:List COp:=[o2 75 (.call 62 [(ki 1)])]
abbrev JG:List COp:=[o2 76 (.build [(.p (.bool false)),(.p (.list 3 1 [])),(.p (.bool false)),(.p (.list 3 1 []))] [(0,2,(.t 74)),(2,2,(.t 75))]),o2 10 (.alloc 50 4 (.p (.agg [(.bool false),(.list 3 1 []),(.bool false),(.list 3 1 [])]))),b8 4 10 76]
abbrev JH:List COp:=[o1 80 0,o1 81 5,o2 82 (.sliceS (.t 80) none (some (.t 81))),o2 83 (.call 65 [(.t 82)])]
abbrev JI:List COp:=[o1 84 0,o1 85 5,b2 86 .add 85 1,o2 87 (.sliceS (.t 84) (some (.t 86)) none),o2 88 (.call 65 [(.t 87)])]
abbrev JJ:List COp:=[o2 89 (.call 66 [(.t 83),(.t 88)])]
abbrev JK:List COp:=[b8 4 10 89]
abbrev JL:CC:=.ops [] (apL JH (apL JI (apL JJ (JK))))
abbrev JM:CC:=.cond (.t 79) JL .skip
abbrev JN:List COp:=[b4 90 true 4 10,o2 91 (.call 27 [(.t 90)])]
abbrev JO:List COp:=[o1 92 0,b1 93 .neq 91 92]
abbrev JP:CC:=.seq (.ops [] [b4 94 true 4 4,o2 95 (.build [(.p (.int .i64 0)),(.p (.int .i64 0))] [(0,1,(ki 3))]),b8 4 2 94,b8 2 3 95]) .ret
abbrev JQ:CC:=.cond (.t 93) JP .skip
abbrev JR:CC:=.seq (.ops [] [b4 96 true 4 10,o2 97 (.build [(.p (.int .i64 0)),(.p (.int .i64 0))] []),b8 4 2 96,b8 2 3 97]) .ret
abbrev JS:CC:=.seq (.seq (.ops [] (apL JN (JO))) JQ) JR
abbrev JT:CC:=.seq (.seq (.ops [] [o1 77 7,o1 78 5,b1 79 .gtr 77 78]) JM) JS
abbrev JU:CC:=.seq (.ops [] (apL JE (apL JF (JG)))) JT
abbrev JV:CC:=.seq (.seq (.ops [] (apL JA (JB))) JD) JU
abbrev JW:CC:=.seq (.seq (.ops [] [o1 46 6,o2 47 (.un .not (.t 46)),o1 48 47,o5 49 7 48 false,o5 50 0 48 false,o4 51 (.lenS (.t 50)) 48 false,o4 52 (.bin false .lss (.t 49) (.t 51)) 48 false,o2 53 (.pick (.t 48) (kb true) (.t 52))]) Jz) JV
abbrev JX:CC:=.seq (.seq (.ops [] [o1 20 6,o1 21 20,o5 22 5 21 true,o5 23 0 21 true,o4 24 (.lenS (.t 23)) 21 true,o4 25 (.bin false .lss (.t 22) (.t 24)) 21 true,o2 26 (.pick (.t 21) (.t 25) (kb false)),o1 27 26,o5 28 0 27 true,o5 29 5 27 true,o4 30 (.index (.t 28) (.t 29)) 27 true,o4 31 (.bin false .eql (.t 30) (.k (.p (.int .u8 47)))) 27 true,o2 32 (.pick (.t 27) (.t 31) (kb false))]) Jx) JW
abbrev JY:CC:=.seq (.ops [] [o1 19 5,o1 7 19]) JX
abbrev JZ:CC:=.seq (.ops [] (apL Jq (Jr))) JY
abbrev J0:CC:=.seq (.ops [] (apL Jo (Jp))) JZ
abbrev c25:CC:=.seq (.ops [] [o2 2 (.alloc 50 4 (.p (.agg [(.bool false),(.list 3 1 []),(.bool false),(.list 3 1 [])]))),o2 3 (.alloc 25 2 (.p (.agg [(.int .i64 0),(.int .i64 0)])))]) J0
theorem J1:ay Tryz.prog 25 [50,25] c25 [(2,some (true,4)),(3,some (true,2))] 98:=
 fk _ [⟨14,[0,1,2,3,4,5,6,7,8,9,10],[0,0,3,7,0,0,32,112,255,511,1023],[]⟩] Tryz.func25
abbrev J2:List COp:=[b4 7 true 4 3,o2 8 (.call 92 [(.t 7)])]
abbrev J3:List COp:=[b4 12 true 4 2,b4 16 true 4 2,b4 18 true 4 3,b6 5 0 2 true 2,b4 6 true 2 5,o2 9 (.call 116 [(.t 6),(.t 8)])]
abbrev J4:List COp:=[o2 13 (.call 92 [(.t 12)])]
abbrev J5:List COp:=[b6 10 0 2 true 3,b4 11 true 2 10,o2 14 (.call 116 [(.t 11),(.t 13)])]
abbrev J6:List COp:=[o2 15 (.call 119 [(.t 9),(.t 14)])]
abbrev J7:List COp:=[o2 17 (.call 92 [(.t 16)])]
abbrev J8:List COp:=[o2 19 (.call 92 [(.t 18)])]
abbrev J9:List COp:=[o2 20 (.call 116 [(.t 17),(.t 19)])]
abbrev Ka:List COp:=[o2 21 (.call 82 [(.t 15),(.t 20)])]
abbrev Kb:List COp:=[b8 4 4 21]
abbrev Kc:CC:=.seq (.ops [] (apL J2 (apL J3 (apL J4 (apL J5 (apL J6 (apL J7 (apL J8 (apL J9 (apL Ka (Kb))))))))))) .ret
abbrev Kd:CC:=.seq (.ops [] [o2 2 (.box 88 4 (.t 0)),o2 3 (.box 88 4 (.t 1)),o2 4 (.alloc 88 4 (.p (.agg [(.bool false),(.list 173 1 []),(.bool false),(.list 173 1 [])])))]) Kc
theorem Ke:ay Tryz.prog 112 [88] Kd [(4,some (true,4))] 22:=
 fk _ [⟨1,[2,3,7,11,13,0,1,4,8,5,6,9,10,12,14,15,16,17],[0,1,0,4,15,0,32,0,159,511,1023,0,4095,0,16383,32767,65535,131071],[]⟩] Tryz.func112
abbrev Kf:List COp:=[b4 10 true 4 2,b4 12 true 4 3,b6 5 0 2 true 2,b4 6 true 2 5,b6 7 0 2 true 3,b4 8 true 2 7,o2 9 (.call 116 [(.t 6),(.t 8)])]
abbrev Kg:List COp:=[o2 11 (.call 92 [(.t 10)])]
abbrev Kh:List COp:=[o2 13 (.call 92 [(.t 12)])]
abbrev Ki:List COp:=[o2 14 (.call 116 [(.t 11),(.t 13)])]
abbrev Kj:List COp:=[o2 15 (.call 82 [(.t 9),(.t 14)])]
abbrev Kk:List COp:=[b8 4 4 15]
abbrev Kl:CC:=.seq (.ops [] (apL Kf (apL Kg (apL Kh (apL Ki (apL Kj (Kk))))))) .ret
abbrev c86:CC:=.seq (.ops [] [o2 2 (.box 88 4 (.t 0)),o2 3 (.box 88 4 (.t 1)),o2 4 (.alloc 88 4 (.p (.agg [(.bool false),(.list 173 1 []),(.bool false),(.list 173 1 [])])))]) Kl
theorem Km:ay Tryz.prog 86 [88] c86 [(4,some (true,4))] 16:=
 fk _ [⟨1,[5,7,0,1,2,3,4,6,8,9,10,11],[0,1,0,4,15,0,63,0,255,511,1023,2047],[]⟩] Tryz.func86
abbrev Kn:List COp:=[b6 3 0 2 true 1,b4 4 true 2 3,o2 5 (.call 90 [(.t 4)])]
abbrev Ko:List COp:=[o1 2 5]
abbrev Kp:CC:=.seq (.ops [] (apL Kn (Ko))) .ret
abbrev c78:CC:=.seq (.ops [] [o2 1 (.box 88 4 (.t 0)),o2 2 (.mov (ki 0))]) Kp
theorem Kq:ay Tryz.prog 78 [88] c78 [(2,none)] 6:=
 fk _ [] Tryz.func78
abbrev Kr:List COp:=[b6 5 0 2 true 2,b4 6 true 2 5,b6 7 2 2 true 3,b4 8 true 2 7,o2 9 (.call 69 [(.t 6),(.t 8)])]
abbrev Ks:List COp:=[b6 10 0 2 true 3,b4 11 true 2 10,b6 12 2 2 true 2,b4 13 true 2 12,o2 14 (.call 69 [(.t 11),(.t 13)])]
abbrev Kt:List COp:=[o2 15 (.call 98 [(.t 9),(.t 14)])]
abbrev Ku:List COp:=[b6 16 2 2 true 2,b4 17 true 2 16,b6 18 2 2 true 3,b4 19 true 2 18,o2 20 (.call 69 [(.t 17),(.t 19)])]
abbrev Kv:List COp:=[o2 21 (.call 66 [(.t 15),(.t 20)])]
abbrev Kw:List COp:=[b8 4 4 21]
abbrev Kx:CC:=.seq (.ops [] (apL Kr (apL Ks (apL Kt (apL Ku (apL Kv (Kw))))))) .ret
abbrev c68:CC:=.seq (.ops [] [o2 2 (.box 50 4 (.t 0)),o2 3 (.box 50 4 (.t 1)),o2 4 (.alloc 50 4 (.p (.agg [(.bool false),(.list 3 1 []),(.bool false),(.list 3 1 [])])))]) Kx
theorem Ky:ay Tryz.prog 68 [50] c68 [(4,some (true,4))] 22:=
 fk _ [⟨1,[0,1,2,3,4,5,6,7,8,9,10,11,12,13,14,15,16,17],[0,1,0,4,15,0,32,0,128,511,1023,0,2048,0,8192,32767,65535,131071],[]⟩] Tryz.func68
abbrev Kz:List COp:=[b6 5 0 2 true 2,b4 6 true 2 5,b6 7 0 2 true 3,b4 8 true 2 7,o2 9 (.call 69 [(.t 6),(.t 8)])]
abbrev KA:List COp:=[b6 10 2 2 true 2,b4 11 true 2 10,b6 12 2 2 true 3,b4 13 true 2 12,o2 14 (.call 69 [(.t 11),(.t 13)])]
abbrev KB:List COp:=[o2 15 (.call 66 [(.t 9),(.t 14)])]
abbrev KC:List COp:=[b8 4 4 15]
abbrev KD:CC:=.seq (.ops [] (apL Kz (apL KA (apL KB (KC))))) .ret
abbrev c32:CC:=.seq (.ops [] [o2 2 (.box 50 4 (.t 0)),o2 3 (.box 50 4 (.t 1)),o2 4 (.alloc 50 4 (.p (.agg [(.bool false),(.list 3 1 []),(.bool false),(.list 3 1 [])])))]) KD
theorem KE:ay Tryz.prog 32 [50] c32 [(4,some (true,4))] 16:=
 fk _ [⟨1,[0,1,2,3,4,5,6,7,8,9,10,11],[0,1,0,4,15,0,32,0,128,511,1023,2047],[]⟩] Tryz.func32
abbrev KF:List COp:=[b6 3 0 2 true 1,b4 4 true 2 3,o2 5 (.call 77 [(.t 4)])]
abbrev KG:List COp:=[o1 2 5]
abbrev KH:CC:=.seq (.ops [] (apL KF (KG))) .ret
abbrev c40:CC:=.seq (.ops [] [o2 1 (.box 50 4 (.t 0)),o2 2 (.mov (ki 0))]) KH
theorem KI:ay Tryz.prog 40 [50] c40 [(2,none)] 6:=
 fk _ [] Tryz.func40
abbrev KJ:List COp:=[b4 8 true 2 2,b4 9 true 2 3,o2 10 (.call 97 [(.t 8),(.t 9)])]
abbrev KK:List COp:=[o1 7 10,b9 11 7 0,b9 12 7 1,o2 5 (.alloc 50 4 (.p (.agg [(.bool false),(.list 3 1 []),(.bool false),(.list 3 1 [])]))),o2 6 (.alloc 25 2 (.p (.agg [(.int .i64 0),(.int .i64 0)]))),b8 4 5 11,b8 2 6 12]
abbrev KL:CC:=.seq (.ops [] [b4 13 true 4 5,b8 4 4 13]) .ret
abbrev KM:CC:=.seq (.ops [] (apL KJ (KK))) KL
abbrev c66:CC:=.seq (.ops [] [o2 2 (.box 48 2 (.t 0)),o2 3 (.box 48 2 (.t 1)),o2 4 (.alloc 50 4 (.p (.agg [(.bool false),(.list 3 1 []),(.bool false),(.list 3 1 [])])))]) KM
theorem KN:ay Tryz.prog 66 [48,50,25] c66 [(4,some (true,4))] 14:=
 fk _ [] Tryz.func66
end Go.Proofs.YtbnhgnhgbhjkcaaGreat.M
