/- Lemmas. -/
import Derived.Test.YtbnhgnhgbhjkcaaGreatQ21
set_option linter.defProp false
namespace Go.Proofs.YtbnhgnhgbhjkcaaGreat.M
set_option linter.unusedSimpArgs false
open Go.RowKit
mutual
def AV.men (L:List Nat):AV→Bool
 |.slice i _ _=>L.contains i
 |.ptr i _ _=>L.contains i
 |.arr i _ _=>L.contains i
 |.agg l=>jx L l
 |.tup l=>jx L l
 |_=>false
def jx (L:List Nat):List AV→Bool
 |[]=>false
 |v::l=>v.men L||jx L l
end
def AObj.men (L:List Nat) (o:AObj):Bool:=match o.cont with
 |.box v=>v.men L
 |_=>false
def gN (L:List Nat):List (Nat×AV)→Bool
 |[]=>true
 |(_,v)::l => !v.men L&&gN L l
def ff (L:List Nat):List (Nat×AObj)→Bool
 |[] => !L.contains aF
 |(i,o)::l=>(L.contains i||!o.men L)&&ff L l
def fg (i:Nat):List Nat→Bool
 |[]=>false
 |j::l=>if i=j then true else fg i l
theorem lC (i:Nat):∀l:List Nat,l.contains i=fg i l
 |[]=>rfl
 |j::l=>by
  rw[List.contains_cons,lC i l,fg];by_cases h:i=j<;>simp[h]
def ef (L:List Nat):List (Nat×AObj)→List (Nat×AObj)
 |[]=>[]
 |(i,o)::l=>if fg i L=true then ef L l else (i,o)::ef L l
theorem ot (L:List Nat):ef L []=[]:=rfl
theorem ou (L:List Nat) (i:Nat) (o:AObj) (l:List (Nat×AObj)):ef L ((i,o)::l)=if fg i L=true then ef L l else (i,o)::ef L l:=rfl
theorem Xv (i:Nat):fg i []=false:=rfl
theorem Xw (i j:Nat) (l:List Nat):fg i (j::l)=if i=j then true else fg i l:=rfl
def csG:=an @ot (an @ou (an @Xv (@Xw)))
theorem ow {L:List Nat}{l:List AV} (h:jx L l=false):∀v∈l,v.men L=false:=by
 induction l with
 |nil=>simp
 |cons u l ih =>
  simp only[jx,Bool.or_eq_false_iff] at h;intro v hv;rcases z9L.1 hv with rfl | hv
  ·exact h.1
  ·exact ih h.2 v hv
theorem Xx {L:List Nat}{x:AV} (h:x.men L=false):∀e∈x.cells,e.men L=false:=by
 cases x with
 |p d =>
  intro e he;simp only[AV.cells,z9Q] at he;obtain⟨_,_,rfl⟩:=he;unfold AV.men;rfl
 |agg l=>rw[AV.men] at h;exact ow h
 |_=>intro e he;simp only[AV.cells,z9e] at he;subst he;exact h
section
variable {w0:World}{base:Bs}{nt:Nat}{loc loc':aX}{a:Act}{w:World}{OT:List TypeId}{N N':Nat→Prop}{r:Nat→AV}{m:Mem}
theorem RV.lose {L:List Nat}{v:Value}{x:AV} (h:RV w N loc v x) (hx:x.men L=false) (hn:∀b,N b→N' b) (hl:∀id K,L.contains id=false→loc id=some K→loc' id=some K):RV w N' loc' v x:=by
 induction h with
 |und v=>exact .und v
 |p v d h=>exact .p v d (h.mono (fun _ _=>rfl) hn)
 |agg cs l h1 h2 _ ih=>rw[AV.men] at hx;exact .agg cs l h1 h2 fun i d hd=>ih i d hd (ow hx d (z90 hd))
 |tup cs l h1 _ ih=>rw[AV.men] at hx;exact .tup cs l h1 fun i d hd=>ih i d hd (ow hx d (z90 hd))
 |nils T sz=>exact .nils T sz
 |slice K id off len cap h1 h2 h3 h4 h5=>rw[AV.men] at hx;exact .slice K id off len cap (hl _ _ hx h1) h2 h3 h4 h5
 |sliceEmp K id off p h1=>rw[AV.men] at hx;exact .sliceEmp K id off p (hl _ _ hx h1)
 |arr K id off len cap h1 h2 h3 h4 h5=>rw[AV.men] at hx;exact .arr K id off len cap (hl _ _ hx h1) h2 h3 h4 h5
 |arrEmp K id off p h1=>rw[AV.men] at hx;exact .arrEmp K id off p (hl _ _ hx h1)
 |ptr K id i off h1 h2=>rw[AV.men] at hx;exact .ptr K id i off (hl _ _ hx h1) h2
theorem Rel.dropL (h:Rel w0 base nt loc ⟨r,m⟩ a w) (L:List Nat){r':Nat→AV}{m':Mem} (hr:∀t,r' t = .und∨(r' t=r t∧(r t).men L=false)) (hm:∀i,m' i=if L.contains i then none else m i)
  (hc:∀i o,m' i=some o→o.men L=false) (h9:L.contains aF=false):Rel w0 base nt (fun i=>if L.contains i then none else loc i) ⟨r',m'⟩ a w:=by
 have hl:∀j K,L.contains j=false→loc j=some K→(fun i=>if L.contains i then none else loc i) j=some K:=fun j K hj hK=>by simp only[hj];exact hK
 have hother:∀j ob,m' j=some ob→L.contains j=false∧m j=some ob:=by
  intro j ob hob;rw[hm] at hob;cases hj:L.contains j with
  |true=>rw[hj] at hob;cases hob
  |false=>rw[hj] at hob;exact⟨rfl,hob⟩
 have hN:∀b,NB base m loc w b→NB base m' (fun i=>if L.contains i then none else loc i) w b:=by
  rintro b hbN;refine⟨hbN.1,hbN.2.1,?_⟩;rintro⟨j,ob,Lj,h1,h2,h3,h4,h5⟩;obtain⟨hj,g1⟩:=hother j ob h1;simp only[hj] at h3;exact hbN.2.2 ⟨j,ob,Lj,g1,h2,h3,h4,h5⟩
 refine⟨h.ext,h.defers,h.size,h.low,?_,fun t => ?_,?_,?_,h.keepL.turn (fun o0 g1 g2=>⟨o0,by dsimp only;rw[hm,h9];exact g1,g2⟩) (fun _=>by simp only[h9];rfl)⟩
 ·intro j hj;dsimp only at hj ⊢;rw[hm] at hj;cases e:L.contains j with
  |true=>rfl
  |false=>rw[e] at hj;exact h.dom j hj
 ·dsimp only;rcases hr t with e | ⟨e,e2⟩<;>rw[e]
  ·exact .und _
  ·exact RV.lose (L:=L) (h.tmps t) e2 hN hl
 ·intro j ob hob;obtain⟨e,g1⟩:=hother j ob hob;obtain⟨Lj,hLj,hokj⟩:=h.objs j ob g1;refine⟨Lj,hl j Lj e hLj,hokj.sz,hokj.nil,fun hn => ?_⟩;obtain⟨c,fr,k1,k2,k3,k4,k5⟩:=hokj.at_ hn;refine⟨c,fr,k1,k2,?_,k4,fun hf=>hN _ (k5 hf)⟩;have hmen:=hc j ob hob;unfold AObj.men at hmen;cases hcont:ob.cont with
  |row l=>rw[hcont] at k3;exact⟨k3.1,k3.2.1,fun i e j d h1 h2=>⟨(k3.2.2 i e j d h1 h2).1,(k3.2.2 i e j d h1 h2).2.mono (fun _ _=>rfl) hN⟩⟩
  |junk=>rw[hcont] at k3;exact k3
  |box v =>
   rw[hcont] at k3 hmen;exact⟨k3.1,k3.2.1,k3.2.2.1,fun j d h1=>(k3.2.2.2 j d h1).lose (Xx hmen d (z90 h1)) hN hl⟩
 ·intro j j' ob ob' Lj Lj' hob hob' hf hLj hLj' hn hn' hbb;obtain⟨e,g1⟩:=hother j ob hob;obtain⟨e',g1'⟩:=hother j' ob' hob';simp only[e] at hLj;simp only[e'] at hLj';exact h.inj j j' ob ob' Lj Lj' g1 g1' hf hLj hLj' hn hn' hbb
theorem Sub.dropL (L:List Nat){r':Nat→AV}{m':Mem} (hr:∀t,r' t = .und∨(r' t=r t∧(r t).men L=false)) (hm:∀i,m' i=if L.contains i then none else m i)
  (hc:∀i o,m' i=some o→o.men L=false) (h9:L.contains aF=false):Sub OT ⟨r,m⟩ ⟨r',m'⟩:=by
 rintro C a w rfl ⟨⟨loc,hR⟩,h2⟩;refine⟨⟨_,hR.dropL L hr hm hc h9⟩,fun j o ho => ?_⟩;dsimp only at ho;rw[hm] at ho;split at ho
 ·cases ho
 ·exact h2 j o ho
theorem ox {L:List Nat}:∀{l:List (Nat×AV)} (t:Nat),gN L l=true→(ar l t).men L=false
 |[],t,_=>by rw[eQ];unfold AV.men;rfl
 |(i,v)::l,t,h=>by
  simp only[gN,z9S,Bool.not_eq_true'] at h;rw[cZ];split
  ·exact h.1
  ·exact ox t h.2
theorem oy (L:List Nat):∀(l:List (Nat×AObj)) (i:Nat),au (ef L l) i=if L.contains i then none else au l i
 |[],i=>by rw[ot,iY];split<;>rfl
 |(j,o)::l,i=>by
  have ih:=oy L l i;rw[ou,ek];by_cases hj:fg j L=true
  ·rw[if_pos hj,ih];by_cases e:i=j
   ·subst e;rw[lC,hj];rfl
   ·rw[if_neg e]
  ·rw[if_neg hj,ek,ih];by_cases e:i=j
   ·subst e;rw[if_pos rfl,lC,if_neg hj,if_pos rfl]
   ·rw[if_neg e,if_neg e]
theorem lD {L:List Nat}:∀{l:List (Nat×AObj)} (i:Nat) (o:AObj),ff L l=true→au (ef L l) i=some o→o.men L=false
 |[],i,o,_,h=>by rw[ot] at h;cases h
 |(j,q)::l,i,o,h,ho=>by
  simp only[ff,z9S,z83,Bool.not_eq_true'] at h;rw[ou] at ho;split at ho
  ·exact lD i o h.2 ho
  ·rename_i hj;rw[ek] at ho;split at ho
   ·cases ho;rw[lC] at h;exact h.1.resolve_left hj
   ·exact lD i o h.2 ho
theorem oz {L:List Nat}:∀{l:List (Nat×AObj)},ff L l=true→L.contains aF=false
 |[],h=>by simpa[ff] using h
 |(j,q)::l,h=>by
  simp only[ff,z9S] at h;exact oz h.2
theorem Sub.keepG (ts L:List Nat){R:List (Nat×AV)}{M:List (Nat×AObj)} (h1:gN L (sel (ar R) ts)=true) (h2:ff L M=true):Sub OT ⟨ar R,au M⟩ ⟨ar (sel (ar R) ts),au (ef L M)⟩:=
 (Sub.und (gV ts)).tr (Sub.dropL L (fun t => .inr ⟨rfl,ox t h1⟩) (oy L M) (fun i o ho=>lD i o h2 ho) (oz h2))
theorem Sub.toG (ts L:List Nat){R:List (Nat×AV)}{M:List (Nat×AObj)}{r':Nat→AV}{m':Mem} (h1:gN L (sel (ar R) ts)=true:=by rfl) (h2:ff L M=true:=by rfl) (e1:ar (sel (ar R) ts)=r':=by rfl) (e2:au (ef L M)=m':=by rfl):Sub OT ⟨ar R,au M⟩ ⟨r',m'⟩:=by
 subst e1 e2;exact Sub.keepG ts L h1 h2
theorem Sub.nilG (t i T sz:Nat){R:List (Nat×AV)}{M:List (Nat×AObj)}{r':Nat→AV}{m':Mem} (ht:ar R t = .nils T sz:=by rfl) (hm:au M i=none:=by rfl) (hT:OT.contains T=true:=by rfl)
  (e1:ar (ej t (.slice i 0 0) R)=r':=by rfl) (e2:au (bR i ⟨T,sz,.row [],false⟩ M)=m':=by rfl):Sub OT ⟨ar R,au M⟩ ⟨r',m'⟩:=by
 subst e1 e2;rw[←gU,←dn];exact Sub.nil t i ht hm (by simpa using hT)
theorem Xy (T sz bytes:Nat) (x y:Opd) (id:Nat) (s:St):di T sz bytes x y id s=(match bO sz s.m (y.ev s.r) with
 |none=>none
 |some ys=>match x.ev s.r with
  |.nils _ sz'=>match s.m id with
   |none=>if sz'=sz then some (decide (ys.length*bytes≤140737488355328∧ys.length≤9223372036854775807),.slice id 0 ys.length,⟨s.r,upd s.m id (some ⟨T,sz,.row ys,false⟩)⟩) else none
   |some _=>none
  |.slice i 0 n=>match s.m i with
   |some ⟨T',sz',.row l,false⟩=>if sz'=sz∧T'=T∧n=l.length∧i≠999999 then
     some (decide ((n+ys.length)*bytes≤140737488355328∧n+ys.length≤9223372036854775807),.slice i 0 (n+ys.length),⟨f6 i s.r,upd (cY i s.m) i (some ⟨T,sz,.row (l++ys),false⟩)⟩) else none
   |_=>none
  |_=>none):=rfl
theorem Xz (sz:Nat) (m:Mem) (v:AV):bO sz m v=(match v with
 |.slice j off n=>match m j with
  |some ⟨_,sz',.row l,_⟩=>if sz'=sz∧off+n≤l.length then some ((l.drop off).take n) else none
  |_=>none
 |.p (.list _ sz' l)=>if sz'=sz then some l else none
 |.nils _ sz'=>if sz'=sz then some [] else none
 |_=>none):=rfl
theorem XA (sz:Nat) (l:List D) (r:Nat→AV) (M:Mem):cX sz l r M []=some l:=rfl
theorem XB (sz:Nat) (l:List D) (r:Nat→AV) (M:Mem) (i:Nat) (x:Opd) (rest:List (Nat×Opd)):cX sz l r M ((i,x)::rest)=(match (x.ev r).toD false M 20 with
 |some d=>if d.cells.length=sz∧d.cells.all D.one=true∧i<l.length then cX sz (l.set i d) r M rest else none
 |none=>none):=rfl
theorem XC (z:D):List.replicate 1 z=[z]:=rfl
theorem XD (z:D):List.replicate 2 z=[z,z]:=rfl
theorem XE (x z:D) (l:List D):(z::l).set 0 x=x::l:=rfl
theorem XF (x y z:D) (l:List D):(z::y::l).set 1 x=z::x::l:=rfl
theorem XG (G:FuncId→List D→D→Prop) (dd:Option Nat) (T:Nat) (sz:Nat) (z:D) (n:Nat) (parts:List (Nat×Opd)) (g:Option (Nat×Bool)) (K:St→Prop) (s:St):step G ⟨dd,.buildSliceF T sz z n parts,g⟩ K s=fin dd K (ev (.buildSliceF T sz z n parts) (dd.getD 0) s):=rfl
theorem XH (T:Nat) (sz:Nat) (z:D) (n:Nat) (parts:List (Nat×Opd)) (id:Nat) (s:St):ev (.buildSliceF T sz z n parts) id s=(if id=999999 then none else match s.m id with
  |none=>match cX sz (List.replicate n z) s.r s.m parts with
   |some l=>some (true,.slice id 0 n,⟨s.r,upd s.m id (some ⟨T,sz,.row l,true⟩)⟩)
   |none=>none
  |some _=>none):=rfl
def oA (id:Nat):Option (Bool×AV×St)→Option (Bool×AV×St)
 |some (p,v,t)=>some (p,v,cM (jp id v) t)
 |none=>none
theorem XI (id:Nat) (p:Bool) (i o n:Nat) (t:St):oA id (some (p,.slice i o n,t))=some (p,.slice i o n,cM i t):=rfl
theorem XJ (G:FuncId→List D→D→Prop) (d:Option Nat) (T sz b:Nat) (x y:Opd) (g:Option (Nat×Bool)) (K:St→Prop) (s:St):step G ⟨d,.appendF T sz b x y,g⟩ K s=fin d K (oA (d.getD 0) (di T sz b x y (d.getD 0) s)):=by
 unfold step oA;simp only;cases di T sz b x y (d.getD 0) s<;>rfl
theorem XK (id:Nat) (r:Nat→AV) (m:Mem):cM id ⟨r,m⟩=(if id=999999 then ⟨r,m⟩ else match m id with
 |some o=>⟨r,upd m id (some ⟨o.T,o.sz,o.cont,true⟩)⟩
 |none=>⟨r,m⟩):=rfl
def csA:=an @XG (an @XH (an @XI (an @XJ (an @XK (an @XA (an @XB (an @XC (an @XD (an @XE (an @XF (an @Xy (an @Xz (an @nV (an @nW (an @sY (an @sZ (an @s7 (an @s8 (an @td (an @te (an @Wg (an @Wh (an @Wi (an @of_row (an @Wj (@Wk))))))))))))))))))))))))))
def csW:=an cs0 (an cs1 (an cs2 (an cs3 (an cs4 (an cs5 (an cs6 (an csG (an csA (an @St.put.eq_1 (an @St.put.eq_2 (an @ez.eq_1 (an @cd.eq_1 (an @cd.eq_2 (an @cd.eq_3 (an @cd.eq_4 (an @cd.eq_5 (an @Option.getD_none.{0} (an @forall_const.{0} (@forall_const.{1})))))))))))))))))))
end
set_option linter.unusedSimpArgs false
open Go.RowKit
section
variable {OT:List TypeId}{r:Nat→AV}{m:Mem}
theorem Sub.reveal (t:Nat) (d:D) (hd:(r t).toD false m 20=some d):Sub OT ⟨r,m⟩ ⟨upd r t (.p d),m⟩:=by
 rintro C a w-⟨⟨loc,hr⟩,h2⟩;refine⟨⟨loc,hr.ext,hr.defers,hr.size,hr.low,hr.dom,fun u => ?_,hr.objs,hr.inj,hr.keepL⟩,h2⟩;by_cases e:u=t
 ·subst e;simp only[aD];exact .p _ _ (f9 hr hd (hr.tmps u))
 ·simp only[aC _ _ e];exact hr.tmps u
theorem Sub.showG (t i:Nat) (ob:AObj) (d:D){R:List (Nat×AV)}{M:List (Nat×AObj)} (hm:au M i=some ob) (hd:(ar R t).toD false (au (bR i ⟨ob.T,ob.sz,ob.cont,true⟩ M)) 20=some d) (hi:i≠aF:=by decide) :
  Sub OT ⟨ar R,au M⟩ ⟨ar (ej t (.p d) R),au (bR i ⟨ob.T,ob.sz,ob.cont,true⟩ M)⟩:=by
 rw[←gU];refine (Sub.freeze hi hm).tr ?_;rw[dn];exact Sub.reveal t d hd
theorem nG (i:Nat) (ob:AObj) (j:Nat) (ob':AObj) (ts:List Nat){R:St→Prop} (hm:m i=some ob) (hm':upd m i (some ⟨ob.T,ob.sz,ob.cont,true⟩) j=some ob')
  (h:R ⟨ar (sel r ts),upd (upd m i (some ⟨ob.T,ob.sz,ob.cont,true⟩)) j (some ⟨ob'.T,ob'.sz,ob'.cont,true⟩)⟩) (hi:i≠aF:=by decide) (hj:j≠aF:=by decide):∃u,Sub OT ⟨r,m⟩ u∧R u:=
 ⟨_,((Sub.freeze hi hm).tr (Sub.freeze hj hm')).tr (Sub.und (gV ts)),h⟩
end
set_option linter.unusedSimpArgs false
open Go.RowKit
def bL (k T sz:Nat) (l:List D) (ds:List D):St:=⟨fun t=>if t=k then .slice aF 0 l.length else match ds[t]? with
 |some d => .p d
 |none => .und,fun i=>if i=aF then some ⟨T,sz,.row l,false⟩ else none⟩
def dY (s:St):St:=⟨s.r,fun i=>if i=aF then none else s.m i⟩
inductive ResLt (s:St) (rs:List (Nat×Option (Bool×Nat))):D→Prop
 |plain {r:D}:ai (dY s) rs=some r→(∀m,r≠.tup [.int .i64 m])→ResLt s rs r
 |pre {m:Int}{t:Nat}:rs=[(t,none)]→s.r t = .slice aF 0 m.toNat→ResLt s rs (.tup [.int .i64 m])
def fi (T sz:Nat) (l':List D) (r:D) (rs:List (Nat×Option (Bool×Nat))):AExit→St→Prop
 |.exit _,_=>False
 |_,s=>s.m aF=some ⟨T,sz,.row l',false⟩∧ResLt s rs r
theorem uc {w:World}{N:Nat→Prop}{b o sz n:Nat}{v:Value}{r:D} (h:∀m,r≠.tup [.int .i64 m]) (hv:V w N v r):jo w N b o sz n v r:=by
 unfold jo;split
 ·exact absurd rfl (h _)
 ·exact hv
theorem az.conL {P:Program}{A OT:List TypeId}{f:FuncId}{cc:CC}{rs:List (Nat×Option (Bool×Nat))}{nt k:Nat}{ds:List D}{T sz:Nat}{l l':List D}{r:D} (h:az P f OT cc rs nt) (hA':OT.all (fun T => !A.contains T&&(decide (T<70000000)||decide (80000000≤T)))=true) (hn:ds.length≤nt) (hT:OT.contains T=true) (hk:k<ds.length)
  (hcw:cw OT (ConX P A) cc (fi T sz l' r rs) (bL k T sz l ds)):dF P A f k ds T sz l r l':=by
 have hA:=(ic hA').1;have hW:=(ic hA').2;obtain⟨fn,H,hf,hbd,hm,hc,hr,rfl⟩:=h;obtain⟨code,hb⟩:=z81.1 hbd;rw[hb] at hc;simp only[Option.getD_some] at hc;intro own w vs b o cap c fr h1 h2 h3 h4 hob hargk hheap hcap hcap2 hroom hfr hcont;have hblt:b<w.heap.size:=n6 hheap;have hnb:∀x,(x<w.heap.size∧¬ own x)→NB ⟨own,some ⟨b,o,c.size,sz,false⟩⟩ (bL k T sz l ds).m (fun i=>if i=aF then some ⟨b,o,c.size,sz,false⟩ else none) w x:=fun x hx=>⟨hx.1,hx.2,by
  rintro⟨id,ob,L,g1,g2,g3,g4,g5⟩;dsimp only[bL] at g1 g3;by_cases e:id=aF
  ·subst e;rw[if_pos rfl] at g3;cases g3;exact hx.2 (g5 ▸ hob)
  ·rw[if_neg e] at g1;cases g1⟩
 have hbody:=nC (C:=⟨P,A,OT,fn.ntmps,w,⟨own,some ⟨b,o,c.size,sz,false⟩⟩⟩) ⟨h2,fun T hT=>by
  rw[z9C] at hA;have:=hA T hT;simpa using this,fun b hb c T fr hc hT=>by rw[hW] at hT;cases hT⟩ hm H code cc _ (bL k T sz l ds) { tmps:=vs++Array.replicate (fn.ntmps-vs.size) undef,defers:=[] } w hc hcw ⟨⟨fun i=>if i=aF then some ⟨b,o,c.size,sz,false⟩ else none,ExtL.rf _ w,rfl,by simp;omega,h1,fun id hid => ?_,fun t => ?_,fun id ob ho => ?_,fun id id' ob ob' L L' g1 g2 _ _ _ _ _ _ => ?_,fun L hL => ?_⟩,fun id ob ho => ?_⟩
 ·refine calls_of_wp hf hb (wp_mono hbody ?_);intro e a' w' hq;have fin:(∃t,Is ⟨P,A,OT,fn.ntmps,w,⟨own,some ⟨b,o,c.size,sz,false⟩⟩⟩ t a' w'∧t.m aF=some ⟨T,sz,.row l',false⟩∧ResLt t rs r)→a'.defers=[]∧∃v,(results fn a'.tmps).run P w' = .ok v w'∧∃v' c',Ending.returned v=Ending.returned v'∧ExtL ⟨own,some ⟨b,o,c.size,sz,false⟩⟩ w w'∧w'.heap[b]? = some (.cells c' T fr)∧c'.size=c.size ∧
   bF w' (fun b=>b<w'.heap.size∧¬ own b) (fun _=>none) c' o sz (.row l')∧jo w' (fun b=>b<w'.heap.size∧¬ own b) b o sz c.size v' r:=by
   rintro⟨t,ht,hlm,hres⟩;obtain⟨loc,hrel⟩:=ht.1;refine⟨hrel.defers,?_⟩;obtain⟨L,hL,hok⟩:=hrel.objs aF _ hlm;obtain⟨y1,y2,y3,-⟩:=hrel.keepL _ rfl;rw[hL] at y1;cases y1;obtain⟨c1,fr1,k1,k2,k3,k4,-⟩:=hok.at_ rfl;obtain⟨c2,z1,z2⟩:=hrel.ext.lentB b c T fr hheap;dsimp only at k1 k2 z2;rw[z2] at k1;simp only[z99,Obj.cells.injEq,true_and] at k1;obtain⟨rfl,rfl⟩:=k1;have hcont':bF w' (fun b=>b<w'.heap.size∧¬ own b) (fun _=>none) c2 o sz (.row l'):=⟨k3.1,k3.2.1,fun i e j d q1 q2=>⟨(k3.2.2 i e j d q1 q2).1,(k3.2.2 i e j d q1 q2).2.mono (fun _ _=>rfl) fun b hb=>⟨hb.1,hb.2.1⟩⟩⟩
   have hresults:∀vs:List Value,(fn.results.toList.mapM (dQ a'.tmps)).run P w' = .ok vs w'→(results fn a'.tmps).run P w' = .ok (if h:vs.toArray.size=1 then vs.toArray[0] else .tuple vs.toArray) w':=by
    intro vs hv;have hv':(fn.results.mapM (dQ a'.tmps)).run P w' = .ok vs.toArray w':=by
     rw[Array.mapM_eq_mapM_toList];simp[hv]
    rw[mT];simp only[Sem.run_bind,hv',Result.andThen];rfl
   cases hres with
   |plain hres hne =>
    have key:∀ds',aq (dY t) rs=some ds'→∃vs:List Value,(fn.results.toList.mapM (dQ a'.tmps)).run P w' = .ok vs w'∧vs.length=ds'.length∧∀(i:Nat) (d:D),ds'[i]? = some d→V w' (fun b=>b<w'.heap.size∧¬ own b) (vs.getD i undef) d:=by
     intro ds' hds;exact mV (M':=(dY t).m) (fun i x hx=>by
      dsimp only[dY] at hx;split at hx
      ·cases hx
      ·exact hx) (.inr (by simp[dY])) hrel _ _ _ hr hds
    unfold ai at hres;split at hres
    ·rename_i d' hd';simp only[z99] at hres;subst hres;obtain⟨vs,q1,q2,q3⟩:=key _ hd'
     match vs,q2 with
     |[v],_ =>
      refine⟨v,by rw[hresults _ q1];simp,v,c2,rfl,hrel.ext,z2,z1,hcont',uc hne ?_⟩;have:=q3 0 d' rfl;simpa using this
    ·rename_i ds' hne1 hd';simp only[z99] at hres;subst hres;obtain⟨vs,q1,q2,q3⟩:=key _ hd';have hne2:vs.length≠1:=by
      intro h1;rw[q2] at h1
      match ds',h1 with
      |[d'],_=>exact hne1 d' rfl
     exact⟨.tuple vs.toArray,by rw[hresults _ q1,dif_neg (by simpa using hne2)],_,c2,rfl,hrel.ext,z2,z1,hcont',uc hne (.tup _ _ (by simpa using q2) (fun i e he=>by simpa using q3 i e he))⟩
    ·cases hres
   |pre hrs hst =>
    rename_i m tt;subst hrs;cases hfr:fn.results.toList with
    |nil=>rw[hfr] at hr;simp[bT] at hr
    |cons x rest =>
     rw[hfr] at hr;obtain⟨y,rs',g1,g2,g3⟩:=mU hrel x rest _ hr;obtain⟨rfl,rfl⟩:=List.cons.inj g1;obtain⟨v,q1,q2⟩:=g3 t.m _ (fun _ _ h=>h) rfl;have hrest:rest=[]:=by
      cases rest with
      |nil=>rfl
      |cons y ys =>
       cases y<;>simp only[bT] at g2
       ·simp[z94] at g2
       ·split at g2
        ·split at g2
         ·simp[z94] at g2
         ·cases g2
        ·cases g2
     subst hrest;refine⟨v,by rw[hresults [v] (by rw[hfr];simp[List.mapM_cons,q1])];simp,v,c2,rfl,hrel.ext,z2,z1,hcont',?_⟩;rw[hst] at q2;show (∃cap,v = .slice (some ⟨b,o,none⟩) m.toNat cap∧m.toNat≤cap∧cap≤9223372036854775807∧o+cap*sz≤c.size)∨(m.toNat=0∧∃p,v = .slice p 0 0)
     generalize m.toNat=mm at q2 ⊢;cases q2 with
     |slice L id off len cap' e1 e2 e3 e4 e5 =>
      rw[hL] at e1;cases e1;refine .inl ⟨cap',?_,e3,e4,?_⟩
      ·simp
      ·simpa using e5
     |sliceEmp L id off p e1 =>
      exact .inr ⟨rfl,p,rfl⟩
  cases e with
  |normal=>obtain⟨t,ht,hres⟩:=hq;exact fin ⟨t,ht,hres⟩
  |ret=>obtain⟨t,ht,hres⟩:=hq;exact fin ⟨t,ht,hres⟩
  |exit id=>obtain⟨t,ht,hbad⟩:=hq;exact hbad.elim
  |_=>exact hq.elim
 ·dsimp only[bL] at hid;split at hid
  ·cases hid
  ·rename_i e;rw[if_neg e]
 ·by_cases htk:t=k
  ·subst htk;have hr':(bL t T sz l ds).r t = .slice aF 0 l.length:=by simp[bL]
   rw[hr'];have hg:(vs++Array.replicate (fn.ntmps-vs.size) undef).getD t undef=vs.getD t undef:=by
    simp only[z9Y];rw[z84 (by omega)]
   simp only[hg];rw[hargk];have:=RV.slice (w:=w) (N:=NB ⟨own,some ⟨b,o,c.size,sz,false⟩⟩ (bL t T sz l ds).m (fun i=>if i=aF then some ⟨b,o,c.size,sz,false⟩ else none) w) (loc:=fun i=>if i=aF then some ⟨b,o,c.size,sz,false⟩ else none) ⟨b,o,c.size,sz,false⟩ aF 0 l.length cap (if_pos rfl) rfl hcap hcap2 (by simpa using hroom);simpa using this
  ·by_cases ht:t<vs.size
   ·have hd:∃d,ds[t]? = some d:=⟨ds[t]'(by omega),by simp⟩
    obtain⟨d',hd⟩:=hd;have hr':(bL k T sz l ds).r t = .p d':=by simp[bL,hd,htk]
    rw[hr'];have hg:(vs++Array.replicate (fn.ntmps-vs.size) undef).getD t undef=vs.getD t undef:=by
     simp only[z9Y];rw[z84 ht]
    simp only[hg];exact .p _ _ ((h4 t d' htk hd).mono (fun _ _=>rfl) hnb)
   ·have hr':(bL k T sz l ds).r t = .und:=by
     have:ds[t]? = none:=z80 (by omega);simp[bL,this,htk]
    rw[hr'];exact .und _
 ·dsimp only[bL] at ho;split at ho
  case isFalse=>cases ho
  rename_i e;subst e;cases ho;refine⟨⟨b,o,c.size,sz,false⟩,if_pos rfl,rfl,fun hh=>(by cases hh),fun _=>⟨c,fr,hheap,rfl,⟨hcont.1,hcont.2.1,fun i e j d q1 q2=>⟨(hcont.2.2 i e j d q1 q2).1,(hcont.2.2 i e j d q1 q2).2.mono (fun _ _=>rfl) hnb⟩⟩,fun _=>⟨.inr ⟨_,rfl,rfl⟩,hfr⟩,fun hh=>(by cases hh)⟩⟩
 ·dsimp only[bL] at g1 g2;split at g1
  case isFalse=>cases g1
  split at g2
  case isFalse=>cases g2
  rename_i e1 e2;rw[e1,e2]
 ·cases hL;exact⟨if_pos rfl,hob,rfl,⟨T,sz,.row l,false⟩,by simp[bL],rfl⟩
 ·dsimp only[bL] at ho;split at ho
  case isFalse=>cases ho
  cases ho;simpa using hT
inductive ResNew (s:St) (rs:List (Nat×Option (Bool×Nat))) (T sz:Nat):List D→Prop
 |row {l:List D}{y:Nat×Option (Bool×Nat)}{i:Nat}:rs=[y]→ah s y=some (.slice i 0 l.length)→s.m i=some ⟨T,sz,.row l,false⟩→ResNew s rs T sz l
 |nil {y:Nat×Option (Bool×Nat)}:rs=[y]→ah s y=some (.nils T sz)→ResNew s rs T sz []
def iE (T sz:Nat) (l:List D) (rs:List (Nat×Option (Bool×Nat))):AExit→St→Prop
 |.exit _,_=>False
 |_,s=>ResNew s rs T sz l
theorem XY {P:Program}{x:ResultVar}{rest:List ResultVar}{y:Nat×Option (Bool×Nat)} (h:bT P (x::rest)=some [y]):rest=[]:=by
 cases rest with
 |nil=>rfl
 |cons z zs =>
  have h2:∀q,bT P (z::zs)≠some []∧bT P (z::zs)=q→q≠some []:=by rintro q ⟨h1,rfl⟩;exact h1
  have h3:bT P (z::zs)≠some []:=by
   cases z<;>simp only[bT]
   ·cases bT P zs<;>simp
   ·split
    ·split
     ·cases bT P zs<;>simp
     ·simp
    ·simp
  exfalso
  cases x<;>simp only[bT] at h
  ·simp only[z94,List.cons.injEq] at h;obtain⟨q,h4,h5,rfl⟩:=h;exact h3 h4
  ·split at h
   ·split at h
    ·simp only[z94,List.cons.injEq] at h;obtain⟨q,h4,h5,rfl⟩:=h;exact h3 h4
    ·cases h
   ·cases h
theorem az.conN {P:Program}{A OT:List TypeId}{f:FuncId}{cc:CC}{rs:List (Nat×Option (Bool×Nat))}{nt:Nat}{ds:List D}{T sz:Nat}{l:List D} (h:az P f OT cc rs nt) (hA':OT.all (fun T => !A.contains T&&(decide (T<70000000)||decide (80000000≤T)))=true) (hn:ds.length≤nt)
  (hcw:cw OT (ConX P A) cc (iE T sz l rs) (bw ds)):fQ P A f ds T sz l:=by
 have hA:=(ic hA').1;have hW:=(ic hA').2;obtain⟨fn,H,hf,hbd,hm,hc,hr,rfl⟩:=h;obtain⟨code,hb⟩:=z81.1 hbd;rw[hb] at hc;simp only[Option.getD_some] at hc;intro own w vs h1 h2 h3 h4;have hbody:=nC (C:=⟨P,A,OT,fn.ntmps,w,⟨own,none⟩⟩) ⟨h2,fun T hT=>by
  rw[z9C] at hA;have:=hA T hT;simpa using this,fun b hb c T fr hc hT=>by rw[hW] at hT;cases hT⟩ hm H code cc _ (bw ds) { tmps:=vs++Array.replicate (fn.ntmps-vs.size) undef,defers:=[] } w hc hcw ⟨⟨fun _=>none,ExtL.rf _ w,rfl,by simp;omega,h1,fun _ _=>rfl,fun t => ?_,fun id o ho=>by simp[bw] at ho,fun id _ o _ _ _ ho=>by simp[bw] at ho,dw.none_ rfl _ _⟩,fun id o ho=>by simp[bw] at ho⟩
 ·refine calls_of_wp hf hb (wp_mono hbody ?_);intro e a' w' hq;have fin:(∃t,Is ⟨P,A,OT,fn.ntmps,w,⟨own,none⟩⟩ t a' w'∧ResNew t rs T sz l)→a'.defers=[]∧∃v,(results fn a'.tmps).run P w' = .ok v w'∧∃v' L,Ending.returned v=Ending.returned v'∧Ext w w'∧NewOk w w' own T sz l v' L:=by
   rintro⟨t,ht,hres⟩;obtain⟨loc,hrel⟩:=ht.1;refine⟨hrel.defers,?_⟩;have hresults:∀vs:List Value,(fn.results.toList.mapM (dQ a'.tmps)).run P w' = .ok vs w'→(results fn a'.tmps).run P w' = .ok (if h:vs.toArray.size=1 then vs.toArray[0] else .tuple vs.toArray) w':=by
    intro vs hv;have hv':(fn.results.mapM (dQ a'.tmps)).run P w' = .ok vs.toArray w':=by
     rw[Array.mapM_eq_mapM_toList];simp[hv]
    rw[mT];simp only[Sem.run_bind,hv',Result.andThen];rfl
   have one:∀y u,rs=[y]→ah t y=some u→∃v,(results fn a'.tmps).run P w' = .ok v w'∧RV w' (NB ⟨own,none⟩ t.m loc w') loc v u:=by
    rintro y u rfl hu;cases hfr:fn.results.toList with
    |nil=>rw[hfr] at hr;simp[bT] at hr
    |cons x rest =>
     rw[hfr] at hr;have hrest:=XY hr;obtain⟨y',rs',g1,g2,g3⟩:=mU hrel x rest _ hr;obtain⟨rfl,rfl⟩:=List.cons.inj g1;obtain⟨v,q1,q2⟩:=g3 t.m u (fun _ _ h=>h) hu;subst hrest;exact⟨v,by rw[hresults [v] (by rw[hfr];simp[List.mapM_cons,q1])];simp,q2⟩
   cases hres with
   |nil h1 h2 =>
    obtain⟨v,g1,g2⟩:=one _ _ h1 h2;cases g2;exact⟨_,g1,_,⟨0,0,0,sz,true⟩,rfl,hrel.ext.ext rfl,⟨rfl,fun _=>rfl,fun hh=>(by cases hh),.inl ⟨rfl,_,rfl⟩⟩⟩
   |row h1 h2 h5 =>
    rename_i y i;obtain⟨v,g1,g2⟩:=one _ _ h1 h2;obtain⟨L,hL,hok⟩:=hrel.objs i _ h5;refine⟨v,g1,v,L,rfl,hrel.ext.ext rfl,hok.sz,fun hh=>by simpa using hok.nil hh,fun hh => ?_,?_⟩
    ·obtain⟨c,fr,k1,k2,k3,k4,-⟩:=hok.at_ hh;have k5:=k4 rfl;refine⟨?_,c,fr,k1,k2,⟨k3.1,k3.2.1,fun p0 e0 j0 d0 q1 q2=>⟨(k3.2.2 p0 e0 j0 d0 q1 q2).1,(k3.2.2 p0 e0 j0 d0 q1 q2).2.mono (fun _ _=>rfl) fun b hb=>⟨⟨hb.1,hb.2.1⟩,fun e=>hb.2.2 ⟨i,_,L,h5,rfl,hL,hh,e.symm⟩⟩⟩⟩,k5.2⟩;rcases k5.1 with g | ⟨L',hL',-⟩
     ·exact g
     ·cases hL'
    ·generalize hlen:l.length=n at g2 ⊢;cases g2 with
     |slice L' _ _ _ cap e1 e2 e3 e4 e5 =>
      rw[hL] at e1;cases e1;refine .inr ⟨e2,cap,by simp,e3,e4,?_⟩;have:=hok.sz;dsimp only at this;rw[this] at e5;simpa using e5
     |sliceEmp L' _ _ p e1=>exact .inl ⟨z9Z hlen,p,rfl⟩
  cases e with
  |normal=>obtain⟨t,ht,hres⟩:=hq;exact fin ⟨t,ht,hres⟩
  |ret=>obtain⟨t,ht,hres⟩:=hq;exact fin ⟨t,ht,hres⟩
  |exit id=>obtain⟨t,ht,hbad⟩:=hq;exact hbad.elim
  |_=>exact hq.elim
 ·by_cases ht:t<vs.size
  ·have hd:∃d,ds[t]? = some d:=⟨ds[t]'(by omega),by simp⟩
   obtain⟨d',hd⟩:=hd;have hr':(bw ds).r t = .p d':=by simp[bw,hd]
   rw[hr'];have hg:(vs++Array.replicate (fn.ntmps-vs.size) undef).getD t undef=vs.getD t undef:=by
    simp only[z9Y];rw[z84 ht]
   simp only[hg];exact .p _ _ ((h4 t d' hd).mono (fun _ _=>rfl) fun b hb=>⟨hb.1,hb.2,by rintro⟨id,o,L,ho,_⟩;simp[bw] at ho⟩)
  ·have hr':(bw ds).r t = .und:=by
    have:ds[t]? = none:=z80 (by omega);simp[bw,this]
   rw[hr'];exact .und _
end Go.Proofs.YtbnhgnhgbhjkcaaGreat.M
