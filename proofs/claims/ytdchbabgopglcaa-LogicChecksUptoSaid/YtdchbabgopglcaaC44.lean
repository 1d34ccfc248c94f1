/- Lemmas. -/
import Derived.Test.YtdchbabgopglcaaC43
import Derived.Test.YtdchbabgopglcaaC34
set_option linter.defProp false
set_option linter.unusedSectionVars false
set_option linter.unusedSimpArgs false
set_option linter.unusedVariables false
namespace Go.Proofs.Ytdchbabgopglcaa.M
open Go.RowKit
set_option maxRecDepth 20000
set_option maxHeartbeats 1000000
section
variable {OT:List TypeId}
theorem Sub.rebox {r:Nat→AV}{m:Mem}{i:Nat}{T:TypeId}{sz:Nat}{v u:AV}{f:Bool} (hi:i≠aQ) (hm:m i=some ⟨T,sz,.box v,f⟩) (hl:u.cells.length=v.cells.length)
  (hc:∀(j:Nat) (e:AV),u.cells[j]? = some e→e.one=true∧(v.cells[j]? = some e∨∃T' s' id o,v.cells[j]? = some (.nils T' s')∧e = .slice id 0 0∧m id=some o)):Sub OT ⟨r,m⟩ ⟨r,upd m i (some ⟨T,sz,.box u,f⟩)⟩:=by
 rintro C a w rfl ⟨⟨loc,hr⟩,h2⟩;have hother:∀j o,upd m i (some ⟨T,sz,.box u,f⟩) j=some o→∃o0,m j=some o0∧o0.T=o.T∧o0.sz=o.sz∧o0.frz=o.frz∧(j≠i→o0=o)∧(j=i→o0=⟨T,sz,.box v,f⟩∧o=⟨T,sz,.box u,f⟩):=by
  intro j o ho;by_cases e:j=i
  ·subst e;rw[aD] at ho;cases ho;exact⟨_,hm,rfl,rfl,rfl,fun h=>absurd rfl h,fun _=>⟨rfl,rfl⟩⟩
  ·rw[aA _ _ e] at ho;exact⟨o,ho,rfl,rfl,rfl,fun _=>rfl,fun h=>absurd h e⟩
 have hN:NB C.base (upd m i (some ⟨T,sz,.box u,f⟩)) loc w=NB C.base m loc w:=by
  funext b
  refine propext ⟨fun ⟨h1,h2,h3⟩=>⟨h1,h2,?_⟩,fun ⟨h1,h2,h3⟩=>⟨h1,h2,?_⟩⟩
  ·rintro⟨j,o,L,g1,g2,g3,g4,g5⟩;by_cases e:j=i
   ·subst e;rw[hm] at g1;cases g1;exact h3 ⟨j,_,L,aD _ _ _,g2,g3,g4,g5⟩
   ·exact h3 ⟨j,o,L,by rw[aA _ _ e];exact g1,g2,g3,g4,g5⟩
  ·rintro⟨j,o,L,g1,g2,g3,g4,g5⟩;obtain⟨o0,k1,k2,k3,k4,-,-⟩:=hother j o g1;exact h3 ⟨j,o0,L,k1,by rw[k4];exact g2,g3,g4,g5⟩
 refine⟨⟨loc,hr.ext,hr.defers,hr.size,hr.low,fun j hj => ?_,fun t => ?_,fun j o ho => ?_,fun j j' o o' L L' ho ho' hf hLj hLj' hn hn' hb => ?_,hr.keepL.turn (fun o g1 g2=>⟨o,by dsimp only;rw[aA _ _ (Ne.symm hi)];exact g1,g2⟩) (fun _=>rfl)⟩,fun j o ho => ?_⟩
 ·dsimp only at hj;by_cases e:j=i
  ·subst e;rw[aD] at hj;cases hj
  ·rw[aA _ _ e] at hj;exact hr.dom j hj
 ·rw[hN];exact hr.tmps t
 ·obtain⟨o0,k1,k2,k3,k4,k5,k6⟩:=hother j o ho;obtain⟨L,hL1,hok⟩:=hr.objs j o0 k1;by_cases e:j=i
  ·obtain⟨rfl,rfl⟩:=k6 e;refine⟨L,hL1,hok.sz,fun hn=>(by have:=hok.nil hn;cases this),fun hn => ?_⟩;obtain⟨c,fr,q1,q2,q3,q4,q5⟩:=hok.at_ hn;rw[hN];refine⟨c,fr,q1,q2,?_,q4,q5⟩;obtain⟨m1,m2,m3,m4⟩:=q3;refine⟨m1,by rw[hl];exact m2,fun e he => ?_,fun k e hk => ?_⟩
   ·obtain⟨k,hk⟩:=List.getElem?_of_mem he;exact (hc k e hk).1
   ·obtain⟨-,g | ⟨T',s',id,ob,g1,rfl,g2⟩⟩:=hc k e hk
    ·exact m4 k e g
    ·obtain⟨L',hL',-⟩:=hr.objs id ob g2;have hv:=m4 k _ g1;generalize c.getD (L.o+k) undef=x at hv;cases hv with
     |nils=>exact .sliceEmp L' id 0 none hL'
  ·obtain rfl:=k5 e;refine⟨L,hL1,hok.sz,hok.nil,fun hn => ?_⟩;obtain⟨c,fr,q1,q2,q3,q4,q5⟩:=hok.at_ hn;rw[hN];exact⟨c,fr,q1,q2,q3,q4,q5⟩
 ·obtain⟨o0,k1,-,-,k4,-,-⟩:=hother j o ho;obtain⟨o1,k1',-,-,-,-,-⟩:=hother j' o' ho';exact hr.inj j j' o0 o1 L L' k1 k1' (k4.trans hf) hLj hLj' hn hn' hb
 ·obtain⟨o0,k1,k2,-,-,-,-⟩:=hother j o ho;rw[←k2];exact h2 j o0 k1
theorem Sub.emp {r:Nat→AV}{m:Mem} (id:Nat){T sz:Nat} (hm:m id=none) (hT:T∈OT):Sub OT ⟨r,m⟩ ⟨r,upd m id (some ⟨T,sz,.row [],false⟩)⟩:=by
 rintro C a w rfl ⟨⟨loc,hr⟩,h2⟩;have h':=hr.allocNil hm T sz;refine⟨⟨_,h'⟩,fun j o ho => ?_⟩;by_cases e:j=id
 ·subst e;simp only[aD,Option.some.injEq] at ho;subst ho;exact hT
 ·simp only[aA _ _ e] at ho;exact h2 j o ho
theorem Sub.box6 (b i j T T1 s1 T2 s2:Nat) (x0 x2 x3 x4:AV){R:List (Nat×AV)}{M:List (Nat×AObj)}{r':Nat→AV}{m':Mem} (hb:b≠aQ) (hij:j≠i) (hbi:b≠i) (hbj:b≠j)
  (hm:az M b=some ⟨T,6,.box (.agg [x0,.nils T1 s1,x2,x3,x4,.nils T2 s2]),false⟩) (h0:x0.one=true∧x2.one=true∧x3.one=true∧x4.one=true) (hi:az M i=none) (hj:az M j=none) (h1:OT.contains T1=true) (h2:OT.contains T2=true)
  (e1:av R=r') (e2:az (di b ⟨T,6,.box (.agg [x0,.slice i 0 0,x2,x3,x4,.slice j 0 0]),false⟩ (di j ⟨T2,s2,.row [],false⟩ (di i ⟨T1,s1,.row [],false⟩ M)))=m'):Sub OT ⟨av R,az M⟩ ⟨r',m'⟩:=by
 subst e1 e2;rw[←eM,←eM,←eM];refine ((Sub.emp (sz:=s1) i hi (by simpa using h1)).tr (Sub.emp j (T:=T2) (sz:=s2) (by rw[aA _ _ hij];exact hj) (by simpa using h2))).tr ?_;refine Sub.rebox (v:=.agg [x0,.nils T1 s1,x2,x3,x4,.nils T2 s2]) hb (by rw[aA _ _ hbj,aA _ _ hbi];exact hm) rfl ?_;intro k e hk
 match k,hk with
 |0,hk=>cases hk;exact⟨h0.1,.inl rfl⟩
 |1,hk=>cases hk;exact⟨rfl,.inr ⟨_,_,_,_,rfl,rfl,by rw[aA _ _ (Ne.symm hij),aD]⟩⟩
 |2,hk=>cases hk;exact⟨h0.2.1,.inl rfl⟩
 |3,hk=>cases hk;exact⟨h0.2.2.1,.inl rfl⟩
 |4,hk=>cases hk;exact⟨h0.2.2.2,.inl rfl⟩
 |5,hk=>cases hk;exact⟨rfl,.inr ⟨_,_,_,_,rfl,rfl,by rw[aD]⟩⟩
 |k+6,hk=>simp[AV.cells] at hk
end
theorem EV (i T sz:Nat) (l:List AV) (f:Bool):AObj.forget i ⟨T,sz,.box (.agg l),f⟩=⟨T,sz,.box (.agg (l.map (forget1 i))),f⟩:=by
 simp only[AObj.forget,EB]
theorem EW (i:Nat) (d:D):forget1 i (.p d) = .p d:=rfl
theorem EX (i j o n:Nat):forget1 i (.slice j o n)=if j=i then .cell else .slice j o n:=rfl
theorem EY (i T s:Nat):forget1 i (.nils T s) = .nils T s:=rfl
theorem io (any:Bool) (M:Mem) (a:D) (id off len:Nat):AV.toD any M 20 (.agg [.p a,.slice id off len])=(match M id with
 |some o=>match o.cont with
  |.row l=>if (o.frz||any)&&decide (off+len≤l.length) then some (.agg [a,.list o.T o.sz ((l.drop off).take len)]) else none
  |_=>none
 |none=>none):=by
 simp only[AV.toD,cK];cases M id with
 |none=>rfl
 |some o =>
  obtain⟨T,sz,cont,frz⟩:=o;cases cont with
  |row l=>by_cases hc:((frz||any)&&decide (off+len≤l.length))=true<;>simp only[hc]<;>rfl
  |box v=>rfl
  |junk=>rfl
theorem td6 (any:Bool) (M:Mem) (x0 x1 x2 x3 x4 x5:AV):AV.toD any M 20 (.agg [x0,x1,x2,x3,x4,x5])=(match x0.toD any M 18,x1.toD any M 17,x2.toD any M 16,x3.toD any M 15,x4.toD any M 14,x5.toD any M 13 with
 |some a,some b,some c,some d,some e,some f=>some (.agg [a,b,c,d,e,f])
 |_,_,_,_,_,_=>none):=by
 show (cK any M 19 [x0,x1,x2,x3,x4,x5]).map D.agg=_
 simp only[cK];cases x0.toD any M 18<;>cases x1.toD any M 17<;>cases x2.toD any M 16<;>cases x3.toD any M 15<;>cases x4.toD any M 14<;>cases x5.toD any M 13<;>rfl
theorem tdp (any:Bool) (M:Mem) (d:D):AV.toD any M 18 (.p d)=some d∧AV.toD any M 17 (.p d)=some d∧AV.toD any M 16 (.p d)=some d∧AV.toD any M 15 (.p d)=some d∧AV.toD any M 14 (.p d)=some d∧AV.toD any M 13 (.p d)=some d:=⟨rfl,rfl,rfl,rfl,rfl,rfl⟩
theorem tds (any:Bool) (M:Mem) (id off len:Nat):(AV.toD any M 17 (.slice id off len)=match M id with
 |some o=>match o.cont with
  |.row l=>if (o.frz||any)&&decide (off+len≤l.length) then some (.list o.T o.sz ((l.drop off).take len)) else none
  |_=>none
 |none=>none)∧(AV.toD any M 13 (.slice id off len)=match M id with
 |some o=>match o.cont with
  |.row l=>if (o.frz||any)&&decide (off+len≤l.length) then some (.list o.T o.sz ((l.drop off).take len)) else none
  |_=>none
 |none=>none):=⟨rfl,rfl⟩
theorem oJ (e:List Int):List.take e.length (e.map (D.int .i64))=e.map (D.int .i64):=by rw[List.take_of_length_le (by simp)]
theorem EZ (l:List AV) (off sz:Nat):fS l off sz false=l[off]?:=rfl
theorem E0 (l:List AV) (off sz:Nat):fS l off sz true=if off+sz≤l.length then some (.agg ((l.drop off).take sz)) else none:=rfl
theorem E1:AV.cells .cell=[.cell]:=rfl
theorem E3:AV.one .cell=true:=rfl
def bU:=an @EZ (an @E0 (an @E1 (an @E3 (an @td6 (an @tdp (an @tds (an @EV (an @EW (an @EX (an @EY (an @List.map_cons.{0,0} (an @List.map_nil.{0,0} ct))))))))))))
theorem E4 (T U X:Nat) (kd rel v k:Int) (p:List At) (gs:List Fm) (hp:p.length≤1000000000) (ht:∀t∈p,t.1.length≤9223372036854775807∧t.2.length≤1000000000) (hg:gs.length≤1000000000)
  (ih:∀a∈gs,Con Try.prog [] 4 [fmD T U X a] (fmD 39 3 25 a)) :
  cw [25,3,39,2000030] (ConX Try.prog []) pC (ac (fD 39 3 25 kd rel v k p gs) [(2,some (true,6))])
   ⟨av [(1,.ptr 1 0 0),(2,.ptr 2 0 0),(3,.ptr 3 0 0)],az [(1,⟨25,6,.box (.p (fD T U X kd rel v k p gs)),false⟩),(2,⟨25,6,.box (.p (.agg [J 0,.list 39 2 [],J 0,J 0,J 0,.list 25 6 []])),false⟩),(3,⟨25,6,.box (.agg [.p (J kd),.slice 205 0 0,.p (J rel),.p (J v),.p (J k),.slice 206 0 0]),false⟩),(205,⟨39,2,.row [],false⟩),(206,⟨25,6,.row [],false⟩)]⟩:=by
 skip
 (repeat first|simp only[kV,simprocAttr,bU]|refine aN ?_);refine kp [1,2,3,4] ?_;(repeat first|simp only[kV,simprocAttr,bU]|refine aN ?_);refine aY (ι:=Nat) (fun i=>i≤p.length) (fun i=>⟨av [(1,.ptr 1 0 0),(2,.ptr 2 0 0),(3,.ptr 3 0 0),(4,.p (J i))],az [(1,⟨25,6,.box (.p (fD T U X kd rel v k p gs)),false⟩),(2,⟨25,6,.box (.p (.agg [J 0,.list 39 2 [],J 0,J 0,J 0,.list 25 6 []])),false⟩),(3,⟨25,6,.box (.agg [.p (J kd),.slice 205 0 i,.p (J rel),.p (J v),.p (J k),.slice 206 0 0]),false⟩),(205,⟨39,2,.row ((p.take i).map (atD 3)),false⟩),(206,⟨25,6,.row [],false⟩)]⟩) (fun i=>p.length-i) 0 (Nat.zero_le _) (Sub.toG [1,2,3,4] [30,32,50]) ?_;intro i hi;by_cases h:i<p.length
 ·have hI:(i:Int)<(p.length:Int):=by omega
  have g1:=fK (U:=U) h;have hst:=BF h;have hs8:=(ht _ (eQ h)).2;have hlen:((p.take i).map (atD 3)).length=i:=by rw[List.length_map,List.length_take,Nat.min_eq_left hi]
  clear ih ht;generalize at0 p i=t at *;obtain⟨c,e⟩:=t;simp only at g1 hs8;have f1:(p.take (i+1)).map (atD 3)=(p.take i).map (atD 3)++[.agg [.str c,.list 3 1 (e.map (D.int .i64))]]:=by rw[hst,List.map_append];rfl
  have hl8:e.length*8≤140737488355328:=by omega
  have hl9:e.length≤9223372036854775807:=by omega
  have hi9:(i+1)*40≤140737488355328:=by omega
  (repeat first|with_reducible refine kp [1,2,3,4,13] ?_|simp only[kV,simprocAttr,bU,hI]|refine aN ?_);(try simp only[kV,simprocAttr,bU,hI,g1,h,hl8,hl9,io,oJ,Bool.true_or,List.drop_zero,hlen,hi9]);refine ulk ?_;(repeat first|with_reducible refine kp [1,2,3,4] ?_|simp only[kV,simprocAttr,bU,hI,g1,h,hl8,hl9,io,oJ,Bool.true_or,List.drop_zero,hlen,hi9]|refine aN ?_);exact⟨i+1,h,by rw[f1];exact (Sub.toG [1,2,3,4] [30,32,50]),by omega⟩
 ·have hI:¬ (i:Int)<(p.length:Int):=by omega
  obtain rfl:i=p.length:=by omega
  rw[List.take_length];(repeat first|with_reducible refine kp [1,2,3,4,13] ?_|simp only[kV,simprocAttr,bU,hI]|refine aN ?_);refine ulk ?_;(repeat first|simp only[kV,simprocAttr,bU,hI]|refine aN ?_);refine kp [1,2,3] ?_;(repeat first|simp only[kV,simprocAttr,bU,hI]|refine aN ?_);refine kp [1,2,3,5] ?_;(repeat first|simp only[kV,simprocAttr,bU,hI]|refine aN ?_);refine aY (ι:=Nat) (fun i=>i≤gs.length) (fun i=>⟨av [(1,.ptr 1 0 0),(2,.ptr 2 0 0),(3,.ptr 3 0 0),(5,.p (J i))],az [(1,⟨25,6,.box (.p (fD T U X kd rel v k p gs)),false⟩),(2,⟨25,6,.box (.p (.agg [J 0,.list 39 2 [],J 0,J 0,J 0,.list 25 6 []])),false⟩),(3,⟨25,6,.box (.agg [.p (J kd),.slice 205 0 p.length,.p (J rel),.p (J v),.p (J k),.slice 206 0 i]),false⟩),(205,⟨39,2,.row (p.map (atD 3)),false⟩),(206,⟨25,6,.row (bi 39 3 25 (gs.take i)),false⟩)]⟩) (fun i=>gs.length-i) 0 (Nat.zero_le _) (Sub.toG [1,2,3,5] [30,32,50]) ?_;intro i hi;by_cases h:i<gs.length
  ·have hI:(i:Int)<(gs.length:Int):=by omega
   have g1:=jZ (T:=T) (U:=U) (X:=X) h;have ci:=ih gs[i] (List.getElem_mem h);have hlen:(bi 39 3 25 (gs.take i)).length=i:=by rw[lR,List.length_take,Nat.min_eq_left hi]
   have f1:bi 39 3 25 (gs.take (i+1))=bi 39 3 25 (gs.take i)++[fmD 39 3 25 gs[i]]:=by
    rw[List.take_succ_eq_append_getElem h,eN,eN,List.map_append];rfl
   clear ih ht;generalize gs[i]=y at *;obtain⟨kd1,p1,rel1,v1,k1,gs1⟩:=y;rw[bC] at g1 f1;rw[bC,bC] at ci;have hi9:(i+1)*80≤140737488355328:=by omega
   (repeat first|with_reducible refine kp [1,2,3,5,39] ?_|simp only[kV,simprocAttr,bU,hI]|refine aN ?_);(try simp only[kV,simprocAttr,bU,hI,g1,h]);refine ulk ?_;(repeat first|with_reducible refine kp [1,2,3,5] ?_|simp only[kV,simprocAttr,bU,hI,g1,h]|refine aN ?_);refine⟨_,cx (ci),ulc ?_⟩;(repeat first|with_reducible refine kp [1,2,3,5] ?_|simp only[kV,simprocAttr,bU,hlen,hi9]|refine aN ?_);exact⟨i+1,h,by rw[f1];exact (Sub.toG [1,2,3,5] [30,32,50]),by omega⟩
  ·have hI:¬ (i:Int)<(gs.length:Int):=by omega
   obtain rfl:i=gs.length:=by omega
   rw[List.take_length];(repeat first|with_reducible refine kp [1,2,3,5,39] ?_|simp only[kV,simprocAttr,bU,hI]|refine aN ?_);refine ulk ?_;(repeat first|with_reducible refine kp [2,3] ?_|simp only[kV,simprocAttr,bU,ac,af,ae,ah,hI]|refine aN ?_);simp only[Bool.or_true,if_true];rw[List.take_of_length_le (by simp),List.take_of_length_le (by rw[lR];exact Nat.le_refl _)]
theorem E5 (T U X:Nat) (f:Fm):Sz f→Con Try.prog [] 4 [fmD T U X f] (fmD 39 3 25 f):=by
 refine Fm.ind (P:=fun f=>Sz f→Con Try.prog [] 4 [fmD T U X f] (fmD 39 3 25 f)) ?_ f;intro kd p rel v k gs ih hsz;rw[Sz] at hsz;obtain⟨hp,ht,hg,hL⟩:=hsz;have h45:=E4 T U X kd rel v k p gs hp ht hg (fun a ha=>ih a ha (ke hL a ha));rw[bC,bC];refine fn4.con rfl (by simp) ?_;(repeat first|simp only[kV,simprocAttr,bU,bh]|refine aN ?_);refine kp [1,2] ?_;(repeat first|simp only[kV,simprocAttr,bU,bh]|refine aN ?_);refine kp [1,2,3] ?_;(repeat first|simp only[kV,simprocAttr,bU,bh]|refine aN ?_);refine kp [1,2,3] ?_;(repeat first|simp only[kV,simprocAttr,bU,bh]|refine aN ?_);exact⟨_,(Sub.box6 3 205 206 25 39 2 25 6 (.p (J kd)) (.p (J rel)) (.p (J v)) (.p (J k)) (by decide) (by decide) (by decide) (by decide) (by rfl) ⟨rfl,rfl,rfl,rfl⟩ (by rfl) (by rfl) (by decide) (by decide) (by rfl) (by rfl)).tr (Sub.toG [1,2,3] [30,32,50]),h45⟩
abbrev Nd:Type:=Fm×List Int
noncomputable def ckA (n:Int):List Nd→Nat→List Int→(Int×Int)×List Int
 |[],_,bd=>((0,0),bd)
 |x::L,i,bd=>if oneF x.1 n≠0 then ((oneF x.1 n,(i:Int)),bd) else if x.1.kd=8∨x.1.kd=9 then (if x.1.v∈bd then ((12,(i:Int)),bd) else ckA n L (i+1) (bd++[x.1.v])) else ckA n L (i+1) bd
def bdF (bd:List Int) (x:Nd):Prop:=∃v∈snF x.1,v∈bd∧v ∉ x.2
instance (bd:List Int) (x:Nd):Decidable (bdF bd x):=inferInstanceAs (Decidable (∃v∈snF x.1,v∈bd∧v ∉ x.2))
def ckB (bd:List Int):List Nd→Nat→Int×Int
 |[],_=>(0,0)
 |x::L,i=>if bdF bd x then (14,(i:Int)) else ckB bd L (i+1)
noncomputable def lfX (X:List Nd) (n:Int):Int×Int:=if (ckA n X 0 []).1.1≠0 then (ckA n X 0 []).1 else ckB (ckA n X 0 []).2 X 0
noncomputable def lfF (f:Fm) (n:Int):Int×Int:=if n<1∨4<n then (7,0) else if 200<(nds f []).length then (9,0) else lfX (nds f []) n
theorem kf {n:Int}:∀{L:List Nd}{i:Nat}{bd:List Int},(ckA n L i bd).1.1=0→(ckA n L i bd).1=(0,0)∧∀x∈L,oneF x.1 n=0
 |[],i,bd,h=>⟨rfl,fun _ hx=>by cases hx⟩
 |x::L,i,bd,h=>by
  rw[ckA] at h ⊢;split at h
  ·rename_i h0;exact absurd h h0
  ·rename_i h0;have h0':oneF x.1 n=0:=by omega
   rw[if_neg h0];have go:∀{b},(ckA n L (i+1) b).1.1=0→(ckA n L (i+1) b).1=(0,0)∧∀y∈x::L,oneF y.1 n=0:=fun hb=>by
    obtain⟨h1,h2⟩:=kf hb;exact⟨h1,fun y hy=>by
     rcases List.mem_cons.1 hy with rfl | hy
     ·exact h0'
     ·exact h2 y hy⟩
   split at h
   ·rename_i hq;rw[if_pos hq];split at h
    ·cases h
    ·rename_i hm;rw[if_neg hm];exact go h
   ·rename_i hq;rw[if_neg hq];exact go h
structure Ok1 (f:Fm) (n:Int):Prop where
 len:f.p.length≤400
 el:∀t∈f.p,t.2.length≤4
 v4:f.kd=4→0≤f.v∧f.v<n
 q:f.kd=8∨f.kd=9→0≤f.v∧f.v<n
 at_:f.kd≠3→f.kd≠4→f.p=[]
theorem ok1 {f:Fm}{n:Int} (hn:n≤4) (h:oneF f n=0):Ok1 f n:=by
 unfold oneF at h;split at h
 ·cases h
 split at h
 ·cases h
 split at h
 ·cases h
 rename_i h3;split at h
 ·cases h
 split at h
 ·cases h
 rename_i h5;split at h
 ·cases h
 unfold Qt at h3 h5;have hat:¬ (f.kd=3∨f.kd=4)→f.p=[]:=fun hk=>by
  have:¬ 0<f.p.length:=fun hp=>h3 (.inl ⟨hk,.inl hp⟩)
  cases hfp:f.p with
  |nil=>rfl
  |cons a l=>rw[hfp] at this;simp at this
 have hgd:(f.kd=3∨f.kd=4)→Gd f.p n 0:=fun hk=>by
  rw[if_pos hk] at h;exact BG h
 clear h;refine⟨?_,fun t ht => ?_,fun hk => ?_,fun hk => ?_,fun a b=>hat (by omega)⟩
 ·by_cases hk:f.kd=3∨f.kd=4
  ·exact (hgd hk).len
  ·rw[hat hk];simp
 ·by_cases hk:f.kd=3∨f.kd=4
  ·have h1:=BH ((hgd hk).ft t ht);have h2:=(hgd hk).n4;have h3:=h1.1;omega
  ·rw[hat hk] at ht;cases ht
 ·omega
 ·omega
theorem QB {f:Fm}{n:Int} (hn:n≤4) (h:Ok1 f n):∀v∈snF f,0≤v∧v<4:=fun v hv=>by
 rcases (Nj f v).1 hv with⟨t,ht,h0,h1⟩ | ⟨h4,h5⟩
 ·have:=h.el t ht;refine⟨h0,?_⟩;by_cases hk:v.toNat<t.2.length
  ·omega
  ·rw[pM hk] at h1;omega
 ·have:=h.v4 h4;omega
theorem qH {f:Fm}{n:Int} (h:Ok1 f n) (h3:f.kd≠3) (h4:f.kd≠4):snF f=[]:=by
 unfold snF;rw[if_neg h4,h.at_ h3 h4];rfl
theorem QC {bd:List Int}{x:Nd}{L:List Nd}{i:Nat} (h:snF x.1=[]):ckB bd (x::L) i=ckB bd L (i+1):=by
 rw[ckB,if_neg];rintro⟨v,hv,-⟩;rw[h] at hv;cases hv
theorem QD {m:Nat} (h:m<16):m≠0↔∃v:Int,0≤v∧v<4∧m.testBit v.toNat=true:=by
 rw[yF h];constructor
 ·rintro⟨j,hj,hb⟩;exact⟨j,by omega,by omega,by simpa using hb⟩
 ·rintro⟨v,h0,h4,hb⟩;exact⟨v.toNat,by omega,hb⟩
theorem QE {s m a:Nat}{o bd ab:List Int} (h1:Bt s o) (h2:Bt m bd) (h3:Bt a ab) (ho:∀v∈o,0≤v∧v<4):a6 .andNot (a6 .and s m) a≠0↔∃v∈o,v∈bd∧v ∉ ab:=by
 have hx:s &&& m<16:=Nat.lt_of_le_of_lt Nat.and_le_left h1.1;have hb:∀j,j<4→(a6 .andNot (a6 .and s m) a).testBit j=(decide ((j:Int)∈o)&&decide ((j:Int)∈bd)&&!decide ((j:Int)∈ab)):=fun j hj=>by
  show ((s &&& m) ^^^ ((s &&& m) &&& a)).testBit j=_
  simp only[Nat.testBit_xor,Nat.testBit_and,h1.2 j hj,h2.2 j hj,h3.2 j hj];cases decide ((j:Int)∈o)<;>cases decide ((j:Int)∈bd)<;>cases decide ((j:Int)∈ab)<;>rfl
 have hlt:a6 .andNot (a6 .and s m) a<16:=by
  show (s &&& m) ^^^ ((s &&& m) &&& a)<2^4
  exact Nat.xor_lt_two_pow hx (Nat.lt_of_le_of_lt Nat.and_le_left hx)
 rw[QD hlt];constructor
 ·rintro⟨v,h0,h4,hv⟩;rw[hb _ (by omega),Int.toNat_of_nonneg h0] at hv;simp only[Bool.and_eq_true,decide_eq_true_eq,Bool.not_eq_true',decide_eq_false_iff_not] at hv;exact⟨v,hv.1.1,hv.1.2,hv.2⟩
 ·rintro⟨v,g1,g2,g3⟩;obtain⟨h0,h4⟩:=ho v g1;refine⟨v,h0,h4,?_⟩;rw[hb _ (by omega),Int.toNat_of_nonneg h0];simp[g1,g2,g3]
theorem Bt.snoc {m:Nat}{o:List Int} (h:Bt m o) (v:Int):Bt (mk1 m v) (o++[v]):=by
 refine⟨jh v h.1,fun j hj => ?_⟩;rw[kJ m v j hj,h.2 j hj,←Bool.decide_or];exact decide_eq_decide.2 (by simp[eq_comm (a:=v)])
theorem kg (l:List Int):Bt (msk l) l:=⟨nu l (by decide),fun j hj=>yE j hj l⟩
theorem qJ {m:Nat}{o:List Int} (h:Bt m o){v:Int} (h0:0≤v) (h4:v<4):a6 .and (m / 2^v.toNat) 1=if v∈o then 1 else 0:=by
 have e:=h.2 v.toNat (by omega);rw[Int.toNat_of_nonneg h0] at e;show m / 2^v.toNat &&& 1=_
 rw[Nat.testBit_eq_decide_div_mod_eq,decide_eq_decide] at e;rw[Nat.and_one_is_mod];split
 ·rename_i hv;exact e.2 hv
 ·rename_i hv;have:¬ m / 2^v.toNat % 2=1:=fun hh=>hv (e.1 hh)
  omega
end Go.Proofs.Ytdchbabgopglcaa.M
namespace Go.Proofs.Ytdchbabgopglcaa
open Go.Proofs.Ytdchbabgopglcaa.M
mutual
theorem qK:∀(f:Fm) (ab:List Int),ndM f (msk ab)=(nds f ab).map fun x=>(x.1,msk x.2)
 |.mk kd p rel v k gs,ab=>by
  rw[ndM,nds,List.map_cons];split
  ·rw[←yD,ml gs (ab++[v])]
  ·rw[ml gs ab]
theorem ml:∀(l:List Fm) (ab:List Int),cd l (msk ab)=(ndsL l ab).map fun x=>(x.1,msk x.2)
 |[],ab=>by rw[cd,ndsL];rfl
 |a::l,ab=>by rw[cd,ndsL,qK a ab,ml l ab,List.map_append]
end
end Go.Proofs.Ytdchbabgopglcaa
namespace Go.Proofs.Ytdchbabgopglcaa.M
open Go.RowKit
set_option maxRecDepth 20000
set_option maxHeartbeats 1000000
instance:Inhabited Fm:=⟨.mk 0 [] 0 0 0 []⟩
abbrev nd0 (L:List Nd) (i:Nat):Nd:=L.getD i (.mk 0 [] 0 0 0 [],[])
theorem gE {L:List Nd}{i:Nat} (h:i<L.length):L.drop i=nd0 L i::L.drop (i+1):=by
 rw[List.drop_eq_getElem_cons h];simp[nd0,h]
theorem eY {L:List Nd}{i:Nat} (h:i<L.length):nd0 L i∈L:=by
 rw[show nd0 L i=L[i] by simp[nd0,h]];exact List.getElem_mem h
abbrev nP (T U X:Nat) (L:List Nd):List D:=L.map fun x=>ndD T U X (x.1,msk x.2)
theorem lF {T U X:Nat}{L:List Nd}{i:Nat} (h:i<L.length):(nP T U X L).getD i default = .agg [.ref (fmD T U X (nd0 L i).1),.int .u64 (msk (nd0 L i).2)]:=by simp[nd0,h,ndD]
def Tx1 (f:Fm):Prop:=f.p.length≤9223372036854775807∧∀t∈f.p,t.1.length≤9223372036854775807
theorem jF {a b:Nat} (ha:a<16) (hb:b<16):cC .u64 (a:Int) (b:Int)=true:=by
 simp[cC,inK];omega
theorem pD {a:Nat} (ha:a<16):cC .u64 (a:Int) 1=true:=by
 simp[cC,inK];omega
theorem pE {A:List TypeId} (T U X:Nat) (f:Fm) (h:(nds f []).length*16≤140737488355328):Con Try.prog A 13 [.ref (fmD T U X f)] (.list NdT 2 (nP T U X (nds f []))):=by
 have e:=qK f [];have e0:msk []=0:=rfl;rw[e0] at e;have c:=Te T U X f (by rw[e,List.length_map];exact h);rw[e,List.map_map] at c;exact Con.mono (A:=[]) c (by simp)
theorem gF {A:List TypeId} (c a:Int):Con Try.prog A 12 [J c,J a] (flt c a):=by
 refine Con.mono (A:=[]) ?_ (by simp);refine F4.con rfl (by simp) ?_;(repeat first|with_reducible refine kp [0,1,4] ?_|simp only[kV,simprocAttr,aa,aw,ac,af,ae,ah]|refine aN ?_)
section
variable (T U X:Nat) (L:List Nd) (n:Int) (n1:1≤n) (n4:n≤4) (hl:L.length≤200) (ht:∀x∈L,Tx1 x.1)
include n1 n4 hl ht
abbrev uC (K:CC) (r:Int×Int) (R:List (Nat×AV)):Prop:=cw [25,28,46] (ConX Try.prog AN) K (ac (flt r.1 r.2) [(4,some (true,2))]) ⟨av R,az [(4,⟨28,2,.box (.p (flt 0 0)),false⟩)]⟩
theorem MW (m:Nat) (bd:List Int) (hm:Bt m bd) (ho:∀x∈L,oneF x.1 n=0):uC pq (ckB bd L 0) [(4,.ptr 4 0 0),(5,.p (.list NdT 2 (nP T U X L))),(6,.p (.int .u64 m))]:=by
 skip
 (repeat first|simp only[kV,simprocAttr,aa,uC]|refine aN ?_);refine kp [4,6,63,64,65] ?_;(repeat first|simp only[kV,simprocAttr,aa,uC]|refine aN ?_);refine aY (ι:=Nat) (fun i=>i≤L.length∧ckB bd (L.drop i) i=ckB bd L 0) (fun i=>⟨av [(4,.ptr 4 0 0),(6,.p (.int .u64 m)),(63,.p (.list NdT 2 (nP T U X L))),(64,.p (J L.length)),(65,.p (J i))],az [(4,⟨28,2,.box (.p (flt 0 0)),false⟩)]⟩) (fun i=>L.length-i) 0 ⟨Nat.zero_le _,rfl⟩ (Sub.toG [4,6,63,64,65] [2,8,11]) ?_;rintro i ⟨hi,he⟩;by_cases h:i<L.length
 ·have hI:(i:Int)<(L.length:Int):=by omega
  have g1:=lF (T:=T) (U:=U) (X:=X) h;have hx1:=ok1 n4 (ho _ (eY h));rw[gE h,ckB] at he;generalize nd0 L i=x at *;obtain⟨f,ab⟩:=x;simp only at g1 hx1;have hbt:=kg ab;have hsb:=ja f;have hbits:=QE hsb hm hbt (QB n4 hx1);have cs:=fun A=>mT (A:=A) T U X f.kd f.rel f.v f.k f.p f.gs hx1.len hx1.el (fun e=>⟨(hx1.v4 e).1,by have:=(hx1.v4 e).2;omega⟩)
  obtain⟨kd,p,rel,v,k,gs⟩:=f;rw[bC] at g1;simp only[Fm.kd,Fm.rel,Fm.v,Fm.k,Fm.p,Fm.gs] at cs;have s16:=hsb.1;have m16:=hm.1;have a16:=hbt.1;have e1:=jF s16 m16;have e2:=jF (Nat.lt_of_le_of_lt Nat.and_le_left s16:a6 .and (stF (.mk kd p rel v k gs)) m<16) a16;generalize stF (.mk kd p rel v k gs)=s at *;generalize msk ab=a at *;by_cases hb:bdF bd (.mk kd p rel v k gs,ab)
  ·rw[if_pos hb] at he;have hne:¬ ((a6 .andNot (a6 .and s m) a:Nat):Int)=0:=by
    have:=hbits.2 hb;omega
   (repeat first|with_reducible refine kp [4,6,63,64,65,66] ?_|simp only[kV,simprocAttr,aa,hI]|refine aN ?_);(try simp only[kV,simprocAttr,aa,hI,g1,h]);refine ulk ?_;(repeat first|with_reducible refine kp [4,6,10,11,63,64,65] ?_|simp only[kV,simprocAttr,aa,hI,g1,h]|refine aN ?_);refine⟨_,cx (cs _),ulc ?_⟩;(repeat first|with_reducible refine kp [4,6,10,63,64,65,78] ?_|simp only[kV,simprocAttr,aa,hne,Int.toNat_natCast,e1,e2]|refine aN ?_);refine ulk ?_;(repeat first|simp only[kV,simprocAttr,aa]|refine aN ?_);refine⟨_,cx (gF 14 i),ulc ?_⟩;(repeat first|with_reducible refine kp [4] ?_|simp only[kV,simprocAttr,aa,ac,af,ae,ah]|refine aN ?_);rw[←he]
  ·rw[if_neg hb] at he;have hne:((a6 .andNot (a6 .and s m) a:Nat):Int)=0:=by
    have:¬ a6 .andNot (a6 .and s m) a≠0:=fun hh=>hb (hbits.1 hh)
    omega
   (repeat first|with_reducible refine kp [4,6,63,64,65,66] ?_|simp only[kV,simprocAttr,aa,hI]|refine aN ?_);(try simp only[kV,simprocAttr,aa,hI,g1,h]);refine ulk ?_;(repeat first|with_reducible refine kp [4,6,10,11,63,64,65] ?_|simp only[kV,simprocAttr,aa,hI,g1,h]|refine aN ?_);refine⟨_,cx (cs _),ulc ?_⟩;(repeat first|with_reducible refine kp [4,6,10,63,64,65,78] ?_|simp only[kV,simprocAttr,aa,hne,Int.toNat_natCast,e1,e2]|refine aN ?_);refine ulk ?_;(repeat first|with_reducible refine kp [4,6,63,64,65] ?_|simp only[kV,simprocAttr,aa]|refine aN ?_);exact⟨i+1,⟨h,he⟩,(Sub.toG [4,6,63,64,65] [2,8,11]),by omega⟩
 ·have hI:¬ (i:Int)<(L.length:Int):=by omega
  rw[List.drop_of_length_le (by omega)] at he;(repeat first|with_reducible refine kp [4,6,63,64,65,66] ?_|simp only[kV,simprocAttr,aa,hI]|refine aN ?_);refine ulk ?_;(repeat first|with_reducible refine kp [4] ?_|simp only[kV,simprocAttr,aa,ac,af,ae,ah,hI]|refine aN ?_);rw[←he];rfl
theorem MX:cw [25,28,46] (ConX Try.prog AN) pr (ac (flt (lfX L n).1 (lfX L n).2) [(4,some (true,2))]) ⟨av [(1,.p (J n)),(4,.ptr 4 0 0),(5,.p (.list NdT 2 (nP T U X L)))],az [(4,⟨28,2,.box (.p (flt 0 0)),false⟩)]⟩:=by
 skip
 (repeat first|simp only[kV,simprocAttr,aa]|refine aN ?_);refine kp [1,4,5,6] ?_;(repeat first|simp only[kV,simprocAttr,aa]|refine aN ?_);refine kp [1,4,5,6,24,25,26] ?_;(repeat first|simp only[kV,simprocAttr,aa]|refine aN ?_);refine aY (ι:=Nat×Nat×List Int) (fun q=>q.1≤L.length∧Bt q.2.1 q.2.2∧ckA n (L.drop q.1) q.1 q.2.2=ckA n L 0 []) (fun q=>⟨av [(1,.p (J n)),(4,.ptr 4 0 0),(5,.p (.list NdT 2 (nP T U X L))),(6,.p (.int .u64 q.2.1)),(24,.p (.list NdT 2 (nP T U X L))),(25,.p (J L.length)),(26,.p (J q.1))],az [(4,⟨28,2,.box (.p (flt 0 0)),false⟩)]⟩) (fun q=>L.length-q.1) (0,0,[]) ⟨Nat.zero_le _,.nil,rfl⟩ (Sub.toG [1,4,5,6,24,25,26] [2,8,11]) ?_;rintro⟨i,m,bd⟩ ⟨hi,hm,he⟩;simp only at hi hm he ⊢;by_cases h:i<L.length
 ·have hI:(i:Int)<(L.length:Int):=by omega
  have g1:=lF (T:=T) (U:=U) (X:=X) h;have htx:=ht _ (eY h);rw[gE h,ckA] at he;generalize nd0 L i=x at *;obtain⟨f,ab⟩:=x;simp only at g1 htx he;have hok:=fun e=>ok1 (f:=f) n4 e
  obtain⟨kd,p,rel,v,k,gs⟩:=f;rw[bC] at g1;have c1:=NL T U X kd rel v k p gs n htx.1 htx.2;generalize oneF (.mk kd p rel v k gs) n=code at *;generalize msk ab=a at *;by_cases h0:code=0
  ·rw[if_neg (by omega)] at he;have hk:=hok h0;have cq:=fun A=>d6 (A:=A) T U X kd rel v k p gs
   have m16:=hm.1;by_cases hq:kd=8∨kd=9
   ·have hq':(Fm.mk kd p rel v k gs).kd=8∨(Fm.mk kd p rel v k gs).kd=9:=hq;rw[if_pos hq'] at he;rw[decide_eq_true hq] at cq;obtain⟨v0,vn⟩:=hk.q hq;change 0≤v at v0
    change v<n at vn
    have hsh:=qJ hm v0 (by omega);have v4:v<4:=by omega
    have e3:=pD (Nat.lt_of_le_of_lt (Nat.div_le_self m (2^v.toNat)) m16);clear hok;by_cases hv:v∈bd
    ·have hv':(Fm.mk kd p rel v k gs).v∈bd:=hv;rw[if_pos hv'] at he;rw[if_pos hv] at hsh;have hdiv:(m:Int) / 2^v.toNat=((m / 2^v.toNat:Nat):Int):=by simp
     (repeat first|with_reducible refine kp [1,4,5,6,24,25,26,27] ?_|simp only[kV,simprocAttr,aa,hI]|refine aN ?_);(try simp only[kV,simprocAttr,aa,hI,g1,h]);refine ulk ?_;(repeat first|with_reducible refine kp [1,4,5,6,7,8,24,25,26] ?_|simp only[kV,simprocAttr,aa,hI,g1,h]|refine aN ?_);refine⟨_,cx (c1),ulc ?_⟩;(repeat first|with_reducible refine kp [1,4,5,6,7,8,9,24,25,26,36] ?_|simp only[kV,simprocAttr,aa,h0]|refine aN ?_);refine ulk ?_;(repeat first|with_reducible refine kp [1,4,5,6,7,8,24,25,26] ?_|simp only[kV,simprocAttr,aa,h0]|refine aN ?_);refine⟨_,cx (cq _),?_⟩;(repeat first|with_reducible refine kp [1,4,5,6,7,8,24,25,26,42] ?_|simp only[kV,simprocAttr,aa]|refine aN ?_);(try simp only[kV,simprocAttr,aa,hdiv,Int.toNat_natCast,hsh,cS,e3]);refine ulk ?_;(repeat first|with_reducible refine kp [1,4,5,6,7,8,24,25,26,51] ?_|simp only[kV,simprocAttr,aa,hdiv,Int.toNat_natCast,hsh,cS,e3]|refine aN ?_);refine ulk ?_;(repeat first|simp only[kV,simprocAttr,aa,hdiv,hsh]|refine aN ?_);refine⟨_,cx (gF 12 i),ulc ?_⟩;(repeat first|with_reducible refine kp [4] ?_|simp only[kV,simprocAttr,aa,ac,af,ae,ah]|refine aN ?_);unfold lfX;rw[←he,if_pos (by simp)]
    ·have hv':¬ (Fm.mk kd p rel v k gs).v∈bd:=hv;rw[if_neg hv'] at he;rw[if_neg hv] at hsh;have hdiv:(m:Int) / 2^v.toNat=((m / 2^v.toNat:Nat):Int):=by simp
     have hbn:=hm.snoc v;obtain⟨q1,q3,q2,q4⟩:=kA m16 v0 v4;(repeat first|with_reducible refine kp [1,4,5,6,24,25,26,27] ?_|simp only[kV,simprocAttr,aa,hI]|refine aN ?_);(try simp only[kV,simprocAttr,aa,hI,g1,h]);refine ulk ?_;(repeat first|with_reducible refine kp [1,4,5,6,7,8,24,25,26] ?_|simp only[kV,simprocAttr,aa,hI,g1,h]|refine aN ?_);refine⟨_,cx (c1),ulc ?_⟩;(repeat first|with_reducible refine kp [1,4,5,6,7,8,9,24,25,26,36] ?_|simp only[kV,simprocAttr,aa,h0]|refine aN ?_);refine ulk ?_;(repeat first|with_reducible refine kp [1,4,5,6,7,8,24,25,26] ?_|simp only[kV,simprocAttr,aa,h0]|refine aN ?_);refine⟨_,cx (cq _),?_⟩;(repeat first|with_reducible refine kp [1,4,5,6,7,8,24,25,26,42] ?_|simp only[kV,simprocAttr,aa]|refine aN ?_);(try simp only[kV,simprocAttr,aa,hdiv,Int.toNat_natCast,hsh,cS,e3]);refine ulk ?_;(repeat first|with_reducible refine kp [1,4,5,6,7,8,24,25,26,51] ?_|simp only[kV,simprocAttr,aa,hdiv,Int.toNat_natCast,hsh,cS,e3]|refine aN ?_);(try simp only[kV,simprocAttr,aa,Int.one_mul,Int.toNat_natCast,q1,q2,q3,q4,cS]);refine ulk ?_;(repeat first|with_reducible refine kp [1,4,5,6,8,24,25,26] ?_|simp only[kV,simprocAttr,aa,Int.one_mul,Int.toNat_natCast,q1,q2,q3,q4,cS]|refine aN ?_);exact⟨(i+1,_,bd++[v]),⟨h,hbn,he⟩,(Sub.toG [1,4,5,6,24,25,26] [2,8,11]),by simp only;omega⟩
   ·have hq':¬ ((Fm.mk kd p rel v k gs).kd=8∨(Fm.mk kd p rel v k gs).kd=9):=hq;rw[if_neg hq'] at he;rw[decide_eq_false hq] at cq;(repeat first|with_reducible refine kp [1,4,5,6,24,25,26,27] ?_|simp only[kV,simprocAttr,aa,hI]|refine aN ?_);(try simp only[kV,simprocAttr,aa,hI,g1,h]);refine ulk ?_;(repeat first|with_reducible refine kp [1,4,5,6,7,8,24,25,26] ?_|simp only[kV,simprocAttr,aa,hI,g1,h]|refine aN ?_);refine⟨_,cx (c1),ulc ?_⟩;(repeat first|with_reducible refine kp [1,4,5,6,7,8,9,24,25,26,36] ?_|simp only[kV,simprocAttr,aa,h0]|refine aN ?_);refine ulk ?_;(repeat first|with_reducible refine kp [1,4,5,6,7,8,24,25,26] ?_|simp only[kV,simprocAttr,aa,h0]|refine aN ?_);refine⟨_,cx (cq _),?_⟩;(repeat first|with_reducible refine kp [1,4,5,6,7,8,24,25,26,42] ?_|simp only[kV,simprocAttr,aa]|refine aN ?_);refine ulk ?_;(repeat first|with_reducible refine kp [1,4,5,6,24,25,26] ?_|simp only[kV,simprocAttr,aa]|refine aN ?_);exact⟨(i+1,m,bd),⟨h,hm,he⟩,(Sub.toG [1,4,5,6,24,25,26] [2,8,11]),by simp only;omega⟩
  ·rw[if_pos h0] at he;(repeat first|with_reducible refine kp [1,4,5,6,24,25,26,27] ?_|simp only[kV,simprocAttr,aa,hI]|refine aN ?_);(try simp only[kV,simprocAttr,aa,hI,g1,h]);refine ulk ?_;(repeat first|with_reducible refine kp [1,4,5,6,7,8,24,25,26] ?_|simp only[kV,simprocAttr,aa,hI,g1,h]|refine aN ?_);refine⟨_,cx (c1),ulc ?_⟩;(repeat first|with_reducible refine kp [1,4,5,6,7,8,9,24,25,26,36] ?_|simp only[kV,simprocAttr,aa,h0]|refine aN ?_);refine ulk ?_;(repeat first|simp only[kV,simprocAttr,aa,h0]|refine aN ?_);refine⟨_,cx (gF code i),ulc ?_⟩;(repeat first|with_reducible refine kp [4] ?_|simp only[kV,simprocAttr,aa,ac,af,ae,ah]|refine aN ?_);unfold lfX;rw[←he,if_pos h0]
 ·have hI:¬ (i:Int)<(L.length:Int):=by omega
  rw[List.drop_of_length_le (by omega),ckA] at he;have e1:lfX L n=ckB bd L 0:=by unfold lfX;rw[←he,if_neg (by simp)]
  have ho:=(kf (n:=n) (L:=L) (i:=0) (bd:=[]) (by rw[←he])).2;have h97:=MW T U X L n n1 n4 hl ht m bd hm ho;rw[e1];unfold uC at h97;(repeat first|with_reducible refine kp [1,4,5,6,24,25,26,27] ?_|simp only[kV,simprocAttr,aa,hI]|refine aN ?_);refine ulk ?_;(repeat first|simp only[kV,simprocAttr,aa,hI]|refine aN ?_);exact⟨_,(Sub.toG [4,5,6] [2,8,11]),h97⟩
end
theorem pF (T U X:Nat) (f:Fm) (n:Int) (hN:(nds f []).length*16≤140737488355328) (ht:∀x∈nds f [],Tx1 x.1):Con Try.prog AN 5 [fmD T U X f,J n] (flt (lfF f n).1 (lfF f n).2):=by
 have c13:=pE (A:=AN) T U X f hN;have h99:=MX T U X (nds f []) n;unfold lfF;obtain⟨kd,p,rel,v,k,gs⟩:=f;rw[bC] at *;by_cases n1:n<1
 ·rw[if_pos (.inl n1)];refine fn5.con rfl (by simp) ?_;(repeat first|with_reducible refine kp [1,2,4,17] ?_|simp only[kV,simprocAttr,aa,aw,n1]|refine aN ?_);refine ulk ?_;(repeat first|simp only[kV,simprocAttr,aa,n1]|refine aN ?_);refine⟨_,cx (gF 7 0),ulc ?_⟩;(repeat first|with_reducible refine kp [4] ?_|simp only[kV,simprocAttr,aa,ac,af,ae,ah]|refine aN ?_)
 by_cases n4:4<n
 ·rw[if_pos (.inr n4)];refine fn5.con rfl (by simp) ?_;(repeat first|with_reducible refine kp [1,2,4,17] ?_|simp only[kV,simprocAttr,aa,aw,n1,n4]|refine aN ?_);refine ulk ?_;(repeat first|simp only[kV,simprocAttr,aa,n1]|refine aN ?_);refine⟨_,cx (gF 7 0),ulc ?_⟩;(repeat first|with_reducible refine kp [4] ?_|simp only[kV,simprocAttr,aa,ac,af,ae,ah]|refine aN ?_)
 rw[if_neg (by omega)];generalize nds (.mk kd p rel v k gs) []=L at *;by_cases h2:200<L.length
 ·rw[if_pos h2];have h2I:(200:Int)<(L.length:Int):=by omega
  refine fn5.con rfl (by simp) ?_;(repeat first|simp only[kV,simprocAttr,aa,aw,n1,n4]|refine aN ?_);refine eS 2 _ [1,2,4] (by rfl) ?_;refine ulk ?_;(repeat first|with_reducible refine kp [1,2,4,17] ?_|simp only[kV,simprocAttr,aa,n1,n4]|refine aN ?_);refine ulk ?_;(repeat first|with_reducible refine kp [1,2,4] ?_|simp only[kV,simprocAttr,aa,n1,n4]|refine aN ?_);refine⟨_,cx (c13),ulc ?_⟩;(repeat first|with_reducible refine kp [1,4,5,22] ?_|simp only[kV,simprocAttr,aa,List.length_map,h2I]|refine aN ?_);refine ulk ?_;(repeat first|simp only[kV,simprocAttr,aa]|refine aN ?_);refine⟨_,cx (gF 9 0),ulc ?_⟩;(repeat first|with_reducible refine kp [4] ?_|simp only[kV,simprocAttr,aa,ac,af,ae,ah]|refine aN ?_)
 ·rw[if_neg h2];have h2I:¬ (200:Int)<(L.length:Int):=by omega
  have h99':=h99 (by omega) (by omega) (by omega) ht;refine fn5.con rfl (by simp) ?_;(repeat first|simp only[kV,simprocAttr,aa,aw,n1,n4]|refine aN ?_);refine eS 2 _ [1,2,4] (by rfl) ?_;refine ulk ?_;(repeat first|with_reducible refine kp [1,2,4,17] ?_|simp only[kV,simprocAttr,aa,n1,n4]|refine aN ?_);refine ulk ?_;(repeat first|with_reducible refine kp [1,2,4] ?_|simp only[kV,simprocAttr,aa,n1,n4]|refine aN ?_);refine⟨_,cx (c13),ulc ?_⟩;(repeat first|with_reducible refine kp [1,4,5,22] ?_|simp only[kV,simprocAttr,aa,List.length_map,h2I]|refine aN ?_);refine ulk ?_;(repeat first|simp only[kV,simprocAttr,aa]|refine aN ?_);exact⟨_,(Sub.toG [1,4,5] [2,8,11]),h99'⟩
end Go.Proofs.Ytdchbabgopglcaa.M
