/- Lemmas. -/
import Derived.Test.YtbnhgnhgbhjkcaaGreatK44
set_option linter.defProp false
set_option linter.unusedSimpArgs false
set_option linter.unusedVariables false
namespace Go.Proofs.YtbnhgnhgbhjkcaaGreat.M
open Go.RowKit
set_option maxRecDepth 20000
set_option maxHeartbeats 4000000
def cA (x:Tm) (b:List Tm):List Tm:=b.map fun y=>(x.1*y.1,eO x.2 y.2)
def mulT (a b:List Tm):List Tm:=a.flatMap fun x=>cA x b
theorem WD (a b:List Tm):tl (mulT a b)=Mp.mulL (tl a) (tl b):=by
 unfold mulT Mp.mulL tl cA;rw[List.map_flatMap,List.flatMap_map];congr 1
 funext x
 rw[List.map_map,List.map_map];congr 1
theorem qw (x:Tm) (b:List Tm):(cA x b).length=b.length:=List.length_map _
theorem j9 (a b:List Tm):(mulT a b).length=a.length*b.length:=by
 unfold mulT;induction a with
 |nil=>simp
 |cons x a ih=>rw[List.flatMap_cons,List.length_append,ih,qw,List.length_cons,Nat.succ_mul,Nat.add_comm]
theorem WE (a b:List Tm){i:Nat} (h:i<a.length):mulT (a.take (i+1)) b=mulT (a.take i) b++cA (Sy.at_ a i) b:=by
 rw[gF h];unfold mulT;rw[List.flatMap_append];simp
theorem WF (x:Tm) (b:List Tm){j:Nat} (h:j<b.length):cA x (b.take (j+1))=cA x (b.take j)++[(x.1*(Sy.at_ b j).1,eO x.2 (Sy.at_ b j).2)]:=by
 rw[gF h];unfold cA;rw[List.map_append];rfl
theorem qx {a b:List Tm}{D X E Y:Nat} (ha:∀x∈a,Db D X x.1) (hb:∀x∈b,Db E Y x.1):∀x∈mulT a b,Db (D*E) (X*Y) x.1:=fun x hx=>by
 obtain⟨y,hy,hx⟩:=List.mem_flatMap.1 hx;obtain⟨z,hz,rfl⟩:=List.mem_map.1 hx;exact (ha y hy).mul (hb z hz)
theorem qy {a b:List Tm}{E F:Int} (ha:∀x∈a,Gx E x.2) (hb:∀x∈b,Gx F x.2):∀x∈mulT a b,Gx (E+F) x.2:=fun x hx=>by
 obtain⟨y,hy,hx⟩:=List.mem_flatMap.1 hx;obtain⟨z,hz,rfl⟩:=List.mem_map.1 hx;exact (ha y hy).add (hb z hz)
theorem WG (i:Nat) (l:List D):fI i (.agg l) = .p (.agg l):=rfl
theorem WH (T sz:Nat) (l:List D):dR T sz (.agg l) = .agg l:=rfl
theorem WI (l:List Tm) (n ord:Int):(AV.p (SmD l n ord)).get 0 1 3 false=some (.p (LM l))∧(AV.p (SmD l n ord)).get 1 2 3 true=some (.p (rgD n ord)):=⟨rfl,rfl⟩
theorem WJ (l:List Tm) (n ord:Int):(AV.p (SmD l n ord)).cells.length=3∧(AV.p (SmD l n ord)).cells.all AV.one=true∧(AV.p (SmD l n ord)).get 0 3 3 true=some (.p (SmD l n ord)):=⟨rfl,rfl,rfl⟩
abbrev zT:List AV:=[.p (.bool false),.p (.list 173 1 []),.p (.bool false),.p (.list 173 1 []),.p (J 0),.p (J 0),.p (J 0),.p (J 0)]
theorem WK (i j:Nat) (q:Rat) (e:Ex4) (R:List (Nat×AV)) (h1:ai R i = .p (qI q)) (h2:ai R j = .p (moD e)):cD zT (ai R) [(0,4,.t i),(4,4,.t j)]=some ((tI (q,e)).cells.map AV.p):=by
 have e1:(Opd.t i).ev (ai R) = .p (qI q):=h1;have e2:(Opd.t j).ev (ai R) = .p (moD e):=h2;rw[cD.eq_2,e1];rw[if_pos ⟨rfl,by decide,rfl⟩,cD.eq_2,e2];rw[if_pos ⟨rfl,Nat.le_refl 8,rfl⟩,cD.eq_1];rfl
theorem WL (t:Tm):AV.mk ((tI t).cells.map AV.p) = .p (tI t):=rfl
theorem WM (t:Tm):dt ((tI t).cells.map AV.p)=some (tI t).cells:=rfl
theorem WN (t:Tm):D.agg (tI t).cells=tI t:=rfl
def cj:=an @WM (an @WN (an @WG (an @WH (an @WI (an @WJ (an @WL (an @ite_self.{1} (an bh aX))))))))
theorem WO (n ord n' ord':Int) (a b:List Tm){D X E Y p:Nat}{G H:Int} (ha:∀x∈a,Db D X x.1) (hb:∀x∈b,Db E Y x.1) (ga:∀x∈a,Gx G x.2) (gb:∀x∈b,Gx H x.2) (hG:0≤G) (hH:0≤H) (hGH:G+H≤1000000000000)
  (hl:a.length*b.length≤1000000000) (hla:a.length≤1000000000) (hlb:b.length≤1000000000) (hD:D*E<2^p) (hX:a.length*b.length*(X*Y)<2^p) (hA:Bc p a) (hB:Bc p b) (hp:p≤2048000000000) :
  Con Tryz.prog AN 50 [SmD a n ord,SmD b n' ord'] (SmD (cnT ord (mulT a b)) n ord):=by
 have hge:∀x∈mulT a b,Ge x.2:=fun x hx=>(qy ga gb x hx).ge hGH
 have mc:=(mI n ord (mulT a b) (qx ha hb) hge (by rw[j9];exact hl) hD (by rw[j9];exact hX) hp).x;have hiter:∀i,i≤a.length→(mulT (a.take i) b).length=i*b.length:=fun i hi=>by rw[j9,List.length_take,Nat.min_eq_left hi]
 refine FQ.con rfl (by simp) ?_;(repeat first|simp only[kV,simprocAttr,cj,ax]|refine aN ?_);refine kp [2,3,4] ?_;(repeat first|simp only[kV,simprocAttr,cj,ax]|refine aN ?_);refine kp [2,3,4,5] ?_;(repeat first|simp only[kV,simprocAttr,cj,ax]|refine aN ?_);refine kp [2,3,4,5,11,12,13] ?_;(repeat first|simp only[kV,simprocAttr,cj,ax]|refine aN ?_);refine aG (ι:=Nat) (fun i=>i≤a.length) (fun i=>⟨ai [(2,.ptr 2 0 0),(3,.ptr 3 0 0),(4,.ptr 4 0 0),(5,.slice 205 0 (mulT (a.take i) b).length),(11,.p (LM a)),(12,.p (J a.length)),(13,.p (J i))],
  au [(2,⟨96,3,.box (.p (SmD a n ord)),false⟩),(3,⟨96,3,.box (.p (SmD b n' ord')),false⟩),(4,⟨96,3,.box (.p (SmD [] 0 0)),false⟩),(205,⟨TT,8,.row ((mulT (a.take i) b).map tI),false⟩)]⟩) (fun i=>a.length-i) 0 (Nat.zero_le _) (Sub.nilG 5 205 TT 8) ?_
 intro i hi;by_cases h:i<a.length
 ·have hI:(i:Int)<(a.length:Int):=by omega
  have g1:=ci h;have hst:=WE a b h;have hlen:=hiter i hi;have hx:=hA _ (at_mem h);have gx:=(ga _ (at_mem h)).ge (by omega);have hmul:(i+1)*b.length≤a.length*b.length:=Nat.mul_le_mul_right _ h;rw[Nat.succ_mul] at hmul;generalize mulT (a.take i) b=q at *;generalize Sy.at_ a i=x at *;(repeat first|with_reducible refine kp [2,3,4,5,11,12,13,14] ?_|simp only[kV,simprocAttr,cj,hI]|refine aN ?_);(try simp only[kV,simprocAttr,cj,hI,g1,h]);refine ulk ?_;(repeat first|simp only[kV,simprocAttr,cj,hI,g1,h]|refine aN ?_);refine kp [2,3,4,5,11,12,13] ?_;(repeat first|simp only[kV,simprocAttr,cj,hI,g1,h]|refine aN ?_);refine kp [2,3,4,5,7,11,12,13] ?_;(repeat first|simp only[kV,simprocAttr,cj,hI,g1,h]|refine aN ?_);refine kp [2,3,4,5,7,11,12,13,18,19,20] ?_;(repeat first|simp only[kV,simprocAttr,cj,hI,g1,h]|refine aN ?_);refine aG (ι:=Nat) (fun j=>j≤b.length) (fun j=>⟨ai [(2,.ptr 2 0 0),(3,.ptr 3 0 0),(4,.ptr 4 0 0),(5,.slice 205 0 (q++cA x (b.take j)).length),(7,.ptr 7 0 0),(11,.p (LM a)),(12,.p (J a.length)),(13,.p (J i)),(18,.p (LM b)),(19,.p (J b.length)),(20,.p (J j))],
   au [(2,⟨96,3,.box (.p (SmD a n ord)),false⟩),(3,⟨96,3,.box (.p (SmD b n' ord')),false⟩),(4,⟨96,3,.box (.p (SmD [] 0 0)),false⟩),(205,⟨TT,8,.row ((q++cA x (b.take j)).map tI),false⟩),(7,⟨TT,8,.box (.p (tI x)),false⟩)]⟩) (fun j=>b.length-j) 0 (Nat.zero_le _) (by rw[show q++cA x (b.take 0)=q by simp[cA]];exact (Sub.toG [2,3,4,5,7,11,12,13,18,19,20] [9,36])) ?_
  intro j hj;by_cases h':j<b.length
  ·have hJ:(j:Int)<(b.length:Int):=by omega
   have g2:=ci h';have hst2:=WF x b h';have hy:=hB _ (at_mem h');have gy:=(gb _ (at_mem h')).ge (by omega);have hrl:(cA x (b.take j)).length=j:=by rw[qw,List.length_take,Nat.min_eq_left hj]
   generalize Sy.at_ b j=y at *;have c1:=zeo x.1 y.1 p hx hy hp;have c2:=(YN x.2 y.2 gx gy).mono (A':=AN) (by simp);have f1:(q++cA x (b.take (j+1))).map tI=(q++cA x (b.take j)).map tI++[tI (x.1*y.1,eO x.2 y.2)]:=by rw[hst2,←List.append_assoc,List.map_append];rfl
   have f2:(q++cA x (b.take (j+1))).length=(q++cA x (b.take j)).length+1:=by rw[hst2,←List.append_assoc,List.length_append];rfl
   have hql:(q++cA x (b.take j)).length≤1000000000:=by rw[List.length_append,hrl,hlen];omega
   generalize q++cA x (b.take j)=q2 at *;(repeat first|with_reducible refine kp [2,3,4,5,7,11,12,13,18,19,20,21] ?_|simp only[kV,simprocAttr,cj,hJ]|refine aN ?_);(try simp only[kV,simprocAttr,cj,hJ,g2,h']);refine ulk ?_;(repeat first|with_reducible refine kp [2,3,4,5,7,9,11,12,13,18,19,20] ?_|simp only[kV,simprocAttr,cj,hJ,g2,h']|refine aN ?_);refine⟨_,cx (c1),ulc ?_⟩;(repeat first|simp only[kV,simprocAttr,cj]|refine aN ?_);refine⟨_,cx (c2),ulc ?_⟩;(repeat first|with_reducible refine kp [2,3,4,5,7,11,12,13,18,19,20] ?_|simp only[kV,simprocAttr,cj,WK _ _ (x.1*y.1) (eO x.2 y.2)]|refine aN ?_);exact⟨j+1,h',by rw[f1,f2];exact (Sub.toG [2,3,4,5,7,11,12,13,18,19,20] [9,36]),by omega⟩
  ·have hJ:¬ (j:Int)<(b.length:Int):=by omega
   obtain rfl:j=b.length:=by omega
   have f1:q++cA x (b.take b.length)=mulT (a.take (i+1)) b:=by rw[List.take_length,hst]
   rw[f1];(repeat first|with_reducible refine kp [2,3,4,5,7,11,12,13,18,19,20,21] ?_|simp only[kV,simprocAttr,cj,hJ]|refine aN ?_);refine ulk ?_;(repeat first|with_reducible refine kp [2,3,4,5,11,12,13] ?_|simp only[kV,simprocAttr,cj,hJ]|refine aN ?_);exact⟨i+1,h,(Sub.toG [2,3,4,5,11,12,13] [7,9,36]),by omega⟩
 ·have hI:¬ (i:Int)<(a.length:Int):=by omega
  obtain rfl:i=a.length:=by omega
  rw[List.take_length];(repeat first|with_reducible refine kp [2,3,4,5,11,12,13,14] ?_|simp only[kV,simprocAttr,cj,hI]|refine aN ?_);refine ulk ?_;(repeat first|with_reducible refine kp [2,4,5] ?_|simp only[kV,simprocAttr,cj,hI]|refine aN ?_);refine⟨_,_,mc,ulc ?_⟩;(repeat first|with_reducible refine kp [4] ?_|simp only[kV,simprocAttr,cj,ab,ah,af,ac]|refine aN ?_)
theorem zaM (t:Tm) (q:Rat):AV.mk ((AV.p (tI t)).cells.take 0++(AV.p (qI q)).cells++(AV.p (tI t)).cells.drop 4) = .p (tI (q,t.2)):=rfl
theorem zaN (q:Rat):(AV.p (qI q)).get 0 4 4 true=some (.p (qI q))∧(AV.p (qI q)).cells.length=4∧(AV.p (qI q)).cells.all AV.one=true∧(AV.p (qI q)).isAgg=some true:=⟨rfl,rfl,rfl,rfl⟩
theorem zaO (q:Rat):((qI q).cells.map AV.p).all AV.one=true:=rfl
theorem zaP (q:Rat):(qI q).isAgg=true:=rfl
def zaQ:=an @zaP (an @zaO (an @zaM (an @zaN cj)))
theorem zaR (t:Tm):D.agg (List.take 4 (List.drop 4 (tI t).cells))=moD t.2:=rfl
theorem zaS (t:Tm):D.agg (List.take 4 (tI t).cells)=qI t.1:=rfl
theorem zaT (q:Rat) (a b c d:AV):(8≤((qI q).cells.map AV.p++[a,b,c,d]).length)=True:=eq_true (Nat.le_refl 8)
theorem zaU (q:Rat) (e:Ex4) (a b c d:AV):((qI q).cells.map AV.p++[a,b,c,d]).take 4++[AV.p (J e.1),AV.p (J e.2.1),AV.p (J e.2.2.1),AV.p (J e.2.2.2)]++((qI q).cells.map AV.p++[a,b,c,d]).drop 8=(tI (q,e)).cells.map AV.p:=rfl
def aa:=an @zaT (an @zaU (an @zaR (an @zaS zaQ)))
section
variable {w0:World}{base:Bs}{nt:Nat}{loc:aY}{s:St}{a:Act}{w:World}{OT:List TypeId}
theorem Rel.cut (h:Rel w0 base nt loc s a w){i:Nat} (k:Nat){T:TypeId}{sz:Nat}{l:List D} (hi:i≠aK) (hm:s.m i=some ⟨T,sz,.row l,false⟩):Rel w0 base nt loc ⟨s.r,upd s.m i (some ⟨T,sz,.row (l.take k),false⟩)⟩ a w:=by
 have hother:∀j o,upd s.m i (some ⟨T,sz,.row (l.take k),false⟩) j=some o→∃o0,s.m j=some o0∧o0.frz=o.frz:=by
  intro j o ho;by_cases e:j=i
  ·subst e;rw[aA] at ho;cases ho;exact⟨_,hm,rfl⟩
  ·rw[az _ _ e] at ho;exact⟨o,ho,rfl⟩
 have hN:∀b,NB base s.m loc w b→NB base (upd s.m i (some ⟨T,sz,.row (l.take k),false⟩)) loc w b:=by
  rintro b hbN;refine⟨hbN.1,hbN.2.1,?_⟩;rintro⟨j,o,Lj,h1,h2,h3,h4,h5⟩;obtain⟨o0,g1,g2⟩:=hother j o h1;exact hbN.2.2 ⟨j,o0,Lj,g1,g2.trans h2,h3,h4,h5⟩
 refine⟨h.ext,h.defers,h.size,h.low,?_,fun t=>(h.tmps t).mono (fun _ _=>rfl) hN (fun _ _ h=>h),?_,?_,h.keepL.put fun e=>absurd e hi⟩
 ·intro j hj;dsimp only at hj;by_cases e:j=i
  ·subst e;rw[aA] at hj;cases hj
  ·rw[az _ _ e] at hj;exact h.dom j hj
 ·intro j o ho;dsimp only at ho;by_cases e:j=i
  ·subst e;rw[aA] at ho;cases ho;obtain⟨L,hL,hok⟩:=h.objs j _ hm;refine⟨L,hL,hok.sz,fun hn => ?_,fun hn => ?_⟩
   ·have:=hok.nil hn;simp only[Cont.row.injEq] at this;subst this;simp
   obtain⟨c,fr,k1,k2,k3,k4,k5⟩:=hok.at_ hn;have k3':=k3.mono (w':=w) (loc':=loc) (fun _ _=>rfl) hN (fun _ _ h=>h);refine⟨c,fr,k1,k2,?_,k4,fun hf=>by cases hf⟩;obtain⟨c1,c2,c3⟩:=k3';refine⟨?_,fun e he=>c2 e (List.mem_of_mem_take he),fun x e y d hx hy => ?_⟩
   ·have:(l.take k).length*sz≤l.length*sz:=Nat.mul_le_mul_right _ (by rw[List.length_take];omega);exact Nat.le_trans (Nat.add_le_add_left this _) c1
   ·refine c3 x e y d ?_ hy;rw[List.getElem?_take] at hx;split at hx
    ·exact hx
    ·cases hx
  ·rw[az _ _ e] at ho;obtain⟨L,hL,hok⟩:=h.objs j o ho;refine⟨L,hL,hok.sz,hok.nil,fun hn => ?_⟩;obtain⟨c,fr,k1,k2,k3,k4,k5⟩:=hok.at_ hn;exact⟨c,fr,k1,k2,k3.mono (fun _ _=>rfl) hN (fun _ _ h=>h),k4,fun hf=>hN _ (k5 hf)⟩
 ·intro id id' o o' L L' h1 h2 h3 h4 h5 h6 h7 h8;obtain⟨o0,g1,g2⟩:=hother id o h1;obtain⟨o1,g3,g4⟩:=hother id' o' h2;exact h.inj id id' o0 o1 L L' g1 g3 (g2.trans h3) h4 h5 h6 h7 h8
theorem Sub.cut {i:Nat} (k:Nat){T:TypeId}{sz:Nat}{l:List D}{r:Nat→AV}{m:Mem} (hi:i≠aK) (hm:m i=some ⟨T,sz,.row l,false⟩):Sub OT ⟨r,m⟩ ⟨r,upd m i (some ⟨T,sz,.row (l.take k),false⟩)⟩:=by
 rintro C a w rfl ⟨⟨loc,hr⟩,h2⟩;refine⟨⟨_,hr.cut k hi hm⟩,fun j o ho => ?_⟩;dsimp only at ho;by_cases e:j=i
 ·subst e;rw[aA] at ho;cases ho;exact h2 j (⟨T,sz,.row l,false⟩:AObj) hm
 ·rw[az _ _ e] at ho;exact h2 j o ho
theorem Sub.cutG (i k:Nat) (T:TypeId) (sz:Nat) (l:List D){R:List (Nat×AV)}{M:List (Nat×AObj)}{m':Mem} (hm:au M i=some ⟨T,sz,.row l,false⟩) (e:au (dw i ⟨T,sz,.row (l.take k),false⟩ M)=m') (hi:i≠aK:=by decide):Sub OT ⟨ai R,au M⟩ ⟨ai R,m'⟩:=by
 rw[←e,←gM];exact Sub.cut k hi hm
end
theorem Sub.nilP {OT:List TypeId}{r:Nat→AV}{m:Mem} (t:Nat) (T:TypeId) (sz:Nat) (hd:r t = .p (.nils T sz)):Sub OT ⟨r,m⟩ ⟨upd r t (.nils T sz),m⟩:=by
 rintro C a w-⟨⟨loc,hr⟩,h2⟩;refine⟨⟨loc,hr.ext,hr.defers,hr.size,hr.low,hr.dom,fun u => ?_,hr.objs,hr.inj,hr.keepL⟩,h2⟩;by_cases e:u=t
 ·subst e;simp only[aA];have:=hr.tmps u;dsimp only at this;rw[hd] at this;generalize a.tmps.getD u undef=v at this ⊢;cases this with
  |p _ _ hv =>
   cases hv;exact .nils T sz
 ·simp only[az _ _ e];exact hr.tmps u
theorem Sub.nilPG {OT:List TypeId} (t:Nat) (T:TypeId) (sz:Nat){R:List (Nat×AV)}{M:List (Nat×AObj)} (hd:ai R t = .p (.nils T sz)):Sub OT ⟨ai R,au M⟩ ⟨ai (eD t (.nils T sz) R),au M⟩:=by
 rw[←iH];exact Sub.nilP t T sz hd
theorem zdh (G:FuncId→List D→D→Prop) (dd:Option Nat) (x:Opd) (g:Option (Nat×Bool)) (K:St→Prop) (s:St):step G ⟨dd,.cap x,g⟩ K s=fin dd K (ev (.cap x) (dd.getD 0) s):=rfl
theorem zdi (x:Opd) (id:Nat) (s:St):ev (.cap x) id s=(match x.ev s.r with
  |.p (.nils _ _)=>some (true,.p (.int .i64 (0:Nat)),s)
  |_=>none):=rfl
theorem zdj (G:FuncId→List D→D→Prop) (dd:Option Nat) (T sz b:Nat) (z:D) (x n:Opd) (g:Option (Nat×Bool)) (K:St→Prop) (s:St):step G ⟨dd,.appZ T sz b z x n,g⟩ K s=fin dd K (ev (.appZ T sz b z x n) (dd.getD 0) s):=rfl
theorem zdk (T sz bytes:Nat) (z:D) (x n:Opd) (id:Nat) (s:St):ev (.appZ T sz bytes z x n) id s=(match s.m id with
  |none=>match x.ev s.r,asI (n.ev s.r) with
   |.nils _ sz',some k=>if sz'=sz∧0<sz then some (decide (0<k∧bytes*k≤140737488355328∧k≤9223372036854775807),.slice id 0 k.toNat,⟨s.r,upd s.m id (some ⟨T,sz,.row (List.replicate k.toNat z),false⟩)⟩) else none
   |_,_=>none
  |some _=>none):=rfl
def bf:=an @zdh (an @zdi (an @zdj (an @zdk aa)))
theorem zdl (k:Nat) (hk:k≤1000000000):gh Tryz.prog AN 115 [.nils TT 8,J k] TT 8 []:=by
 have hn:¬ (k:Int)<0:=by omega
 have e0:(k:Int)-(0-0)=(k:Int):=by omega
 by_cases h:0<k
 ·have hp:(0:Int)<(k:Int):=by omega
  refine pV.conN rfl (by simp) ?_;(repeat first|with_reducible refine kp [0,1,6] ?_|simp only[kV,simprocAttr,bf,Option.map_some,Int.sub_zero,ax,hn]|refine aN ?_);(try simp only[kV,simprocAttr,bf,Option.map_some,Int.sub_zero,hn,hp,e0]);refine ulk ?_;(repeat first|with_reducible refine kp [0,1,16] ?_|simp only[kV,simprocAttr,bf,Option.map_some,Int.sub_zero,hn,hp,e0]|refine aN ?_);(try simp only[kV,simprocAttr,bf,Option.map_some,Int.sub_zero,hp,hn,e0,Int.toNat_natCast,Int.natCast_nonneg]);refine ulk ?_;(repeat first|simp only[kV,simprocAttr,bf,Option.map_some,Int.sub_zero,hp,hn,e0,Int.toNat_natCast,Int.natCast_nonneg]|refine aN ?_);refine⟨_,(Sub.toG [0] []).tr (Sub.cutG 22 0 TT 8 _ (by rfl) (by rfl)),?_⟩;refine ulk ?_;(repeat first|with_reducible refine kp [4] ?_|simp only[kV,simprocAttr,bf,Option.map_some,Int.sub_zero,ab,ah,af,ac,hp,hn,e0,Int.toNat_natCast,Int.natCast_nonneg]|refine aN ?_);exact .row (i:=22) (by rfl) (by simp[ac,ai]) (by simp[au,dw])
 ·obtain rfl:k=0:=by omega
  have hz:decide ((0:Int)<0)=false:=by decide
  have e2:(0:Int)-(0-0)=0:=by decide
  refine pV.conN rfl (by simp) ?_;(repeat first|with_reducible refine kp [0,1,6] ?_|simp only[kV,simprocAttr,bf,Option.map_some,Int.sub_zero,ax,hn]|refine aN ?_);(try simp only[kV,simprocAttr,bf,Option.map_some,Int.sub_zero,hn,hz,e2]);refine ulk ?_;(repeat first|with_reducible refine kp [0,1,16] ?_|simp only[kV,simprocAttr,bf,Option.map_some,Int.sub_zero,hn,hz,e2]|refine aN ?_);refine ulk ?_;(repeat first|simp only[kV,simprocAttr,bf,Option.map_some,Int.sub_zero,hz,e2]|refine aN ?_);refine⟨_,(Sub.toG [0] []).tr (Sub.nilPG 0 TT 8 (by rfl)),?_⟩;refine ulk ?_;(repeat first|with_reducible refine kp [4] ?_|simp only[kV,simprocAttr,bf,Option.map_some,Int.sub_zero,ab,ah,af,ac,hz,e2]|refine aN ?_);exact .nil rfl rfl
def szK (a b:List Tm):Nat→Nat
 |0=>0
 |1=>a.length
 |_=>a.length+b.length
def ccK (a b:List Tm):Nat→List Tm
 |0=>[]
 |1=>a
 |_=>a++b
abbrev LLM (T:Nat) (a b:List Tm):D:=.list T 1 [LM a,LM b]
theorem zdm (a b:List Tm):((szK a b 0=0∧szK a b 1=a.length)∧szK a b 2=a.length+b.length)∧(ccK a b 0=[]∧ccK a b 1=a)∧ccK a b 2=a++b:=⟨⟨⟨rfl,rfl⟩,rfl⟩,⟨rfl,rfl⟩,rfl⟩
def bP:=an @zdm bf
theorem zdn {T:Nat} (a b:List Tm) (h:a.length+b.length≤1000000000):gh Tryz.prog AN 85 [LLM T a b] TT 8 ((a++b).map tI):=by
 have gc:=(zdl (a.length+b.length) h).x;have n1:¬ (a.length:Int)<0:=by omega
 have l0:(0:Int)<2:=by decide
 have l1:(1:Int)<2:=by decide
 have l2:¬ (2:Int)<2:=by decide
 have n2:¬ (a.length:Int)+(b.length:Int)<0:=by omega
 refine BE.conN rfl (by simp) ?_;(repeat first|simp only[kV,simprocAttr,bf,Option.map_some,Int.sub_zero,bP,aX,Option.map_some,List.getD_cons_zero,List.getD_cons_succ,List.map_append,List.length_append,List.nil_append,aZ]|refine aN ?_);refine kp [0] ?_;(repeat first|simp only[kV,simprocAttr,bf,Option.map_some,Int.sub_zero,bP,aX,Option.map_some,List.getD_cons_zero,List.getD_cons_succ,List.map_append,List.length_append,List.nil_append,aZ]|refine aN ?_);refine kp [0,3] ?_;(repeat first|simp only[kV,simprocAttr,bf,Option.map_some,Int.sub_zero,bP,aX,Option.map_some,List.getD_cons_zero,List.getD_cons_succ,List.map_append,List.length_append,List.nil_append,aZ]|refine aN ?_);refine kp [0,3,9,10,11] ?_;(repeat first|simp only[kV,simprocAttr,bf,Option.map_some,Int.sub_zero,bP,aX,Option.map_some,List.getD_cons_zero,List.getD_cons_succ,List.map_append,List.length_append,List.nil_append,aZ]|refine aN ?_);refine aG (ι:=Nat) (fun k=>k≤2) (fun k=>⟨ai [(0,.p (LLM T a b)),(3,.p (J (szK a b k))),(9,.p (LLM T a b)),(10,.p (J 2)),(11,.p (J (kI k)))],au []⟩) (fun k=>2-k) 0 (Nat.zero_le _) (Sub.toG [0,3,9,10,11] [24,33]) ?_;intro k hk
 match k,hk with
 |0,_ =>
  (repeat first|with_reducible refine kp [0,3,9,10,11,12] ?_|simp only[kV,simprocAttr,bf,Option.map_some,Int.sub_zero,bP,aX,Option.map_some,List.getD_cons_zero,List.getD_cons_succ,List.map_append,List.length_append,List.nil_append,l0]|refine aN ?_);(try simp only[kV,simprocAttr,bf,Option.map_some,Int.sub_zero,bP,aX,Option.map_some,List.getD_cons_zero,List.getD_cons_succ,List.map_append,List.length_append,List.nil_append,l0,Int.zero_add]);refine ulk ?_;(repeat first|with_reducible refine kp [0,3,5,9,10,11,20] ?_|simp only[kV,simprocAttr,bf,Option.map_some,Int.sub_zero,bP,aX,Option.map_some,List.getD_cons_zero,List.getD_cons_succ,List.map_append,List.length_append,List.nil_append,l0,Int.zero_add]|refine aN ?_);(try simp only[kV,simprocAttr,bf,Option.map_some,Int.sub_zero,bP,aX,Option.map_some,List.getD_cons_zero,List.getD_cons_succ,List.map_append,List.length_append,List.nil_append,n1]);refine ulk ?_;(repeat first|with_reducible refine kp [0,3,9,10,11] ?_|simp only[kV,simprocAttr,bf,Option.map_some,Int.sub_zero,bP,aX,Option.map_some,List.getD_cons_zero,List.getD_cons_succ,List.map_append,List.length_append,List.nil_append,n1]|refine aN ?_);exact⟨1,by decide,(Sub.toG [0,3,9,10,11] [24,33]),by decide⟩
 |1,_ =>
  (repeat first|with_reducible refine kp [0,3,9,10,11,12] ?_|simp only[kV,simprocAttr,bf,Option.map_some,Int.sub_zero,bP,aX,Option.map_some,List.getD_cons_zero,List.getD_cons_succ,List.map_append,List.length_append,List.nil_append,l1]|refine aN ?_);refine ulk ?_;(repeat first|with_reducible refine kp [0,3,5,9,10,11,20] ?_|simp only[kV,simprocAttr,bf,Option.map_some,Int.sub_zero,bP,aX,Option.map_some,List.getD_cons_zero,List.getD_cons_succ,List.map_append,List.length_append,List.nil_append,l1]|refine aN ?_);(try simp only[kV,simprocAttr,bf,Option.map_some,Int.sub_zero,bP,aX,Option.map_some,List.getD_cons_zero,List.getD_cons_succ,List.map_append,List.length_append,List.nil_append,n2]);refine ulk ?_;(repeat first|with_reducible refine kp [0,3,9,10,11] ?_|simp only[kV,simprocAttr,bf,Option.map_some,Int.sub_zero,bP,aX,Option.map_some,List.getD_cons_zero,List.getD_cons_succ,List.map_append,List.length_append,List.nil_append,n2]|refine aN ?_);exact⟨2,by decide,(Sub.toG [0,3,9,10,11] [24,33]),by decide⟩
 |2,_ =>
  (repeat first|with_reducible refine kp [0,3,9,10,11,12] ?_|simp only[kV,simprocAttr,bf,Option.map_some,Int.sub_zero,bP,aX,Option.map_some,List.getD_cons_zero,List.getD_cons_succ,List.map_append,List.length_append,List.nil_append,l2]|refine aN ?_);refine ulk ?_;(repeat first|with_reducible refine kp [0,3] ?_|simp only[kV,simprocAttr,bf,Option.map_some,Int.sub_zero,bP,aX,Option.map_some,List.getD_cons_zero,List.getD_cons_succ,List.map_append,List.length_append,List.nil_append,l2]|refine aN ?_);refine⟨_,_,gc,ulc ?_⟩;(repeat first|simp only[kV,simprocAttr,bf,Option.map_some,Int.sub_zero,bP,aX,Option.map_some,List.getD_cons_zero,List.getD_cons_succ,List.map_append,List.length_append,List.nil_append]|refine aN ?_);refine kp [0,6] ?_;(repeat first|simp only[kV,simprocAttr,bf,Option.map_some,Int.sub_zero,bP,aX,Option.map_some,List.getD_cons_zero,List.getD_cons_succ,List.map_append,List.length_append,List.nil_append]|refine aN ?_);refine kp [6,25,26,27] ?_;(repeat first|simp only[kV,simprocAttr,bf,Option.map_some,Int.sub_zero,bP,aX,Option.map_some,List.getD_cons_zero,List.getD_cons_succ,List.map_append,List.length_append,List.nil_append]|refine aN ?_);refine aG (ι:=Nat) (fun k=>k≤2) (fun k=>⟨ai [(6,.slice 24 0 (ccK a b k).length),(25,.p (LLM T a b)),(26,.p (J 2)),(27,.p (J (kI k)))],au [(24,⟨TT,8,.row ((ccK a b k).map tI),false⟩)]⟩) (fun k=>2-k) 0 (Nat.zero_le _) (Sub.toG [6,25,26,27] []) ?_;intro k hk
  match k,hk with
  |0,_ =>
   (repeat first|with_reducible refine kp [6,25,26,27,28] ?_|simp only[kV,simprocAttr,bf,Option.map_some,Int.sub_zero,bP,aX,Option.map_some,List.getD_cons_zero,List.getD_cons_succ,List.map_append,List.length_append,List.nil_append,l0]|refine aN ?_);(try simp only[kV,simprocAttr,bf,Option.map_some,Int.sub_zero,bP,aX,Option.map_some,List.getD_cons_zero,List.getD_cons_succ,List.map_append,List.length_append,List.nil_append,l0,List.length_nil,List.map_nil]);refine ulk ?_;(repeat first|with_reducible refine kp [6,8,25,26,27] ?_|simp only[kV,simprocAttr,bf,Option.map_some,Int.sub_zero,bP,aX,Option.map_some,List.getD_cons_zero,List.getD_cons_succ,List.map_append,List.length_append,List.nil_append,l0,List.length_nil,List.map_nil]|refine aN ?_);exact⟨1,by decide,(Sub.toG [6,25,26,27] []),by decide⟩
  |1,_ =>
   (repeat first|with_reducible refine kp [6,25,26,27,28] ?_|simp only[kV,simprocAttr,bf,Option.map_some,Int.sub_zero,bP,aX,Option.map_some,List.getD_cons_zero,List.getD_cons_succ,List.map_append,List.length_append,List.nil_append,l1]|refine aN ?_);refine ulk ?_;(repeat first|with_reducible refine kp [6,8,25,26,27] ?_|simp only[kV,simprocAttr,bf,Option.map_some,Int.sub_zero,bP,aX,Option.map_some,List.getD_cons_zero,List.getD_cons_succ,List.map_append,List.length_append,List.nil_append,l1]|refine aN ?_);exact⟨2,by decide,by simp only[ccK,List.map_append,List.length_append];exact (Sub.toG [6,25,26,27] []),by decide⟩
  |2,_ =>
   (repeat first|with_reducible refine kp [6,25,26,27,28] ?_|simp only[kV,simprocAttr,bf,Option.map_some,Int.sub_zero,bP,aX,Option.map_some,List.getD_cons_zero,List.getD_cons_succ,List.map_append,List.length_append,List.nil_append,l2]|refine aN ?_);refine ulk ?_;(repeat first|with_reducible refine kp [2,6] ?_|simp only[kV,simprocAttr,bf,Option.map_some,Int.sub_zero,bP,aX,Option.map_some,List.getD_cons_zero,List.getD_cons_succ,List.map_append,List.length_append,List.nil_append,ab,ah,af,ac,l2]|refine aN ?_);exact .row (i:=24) (by rfl) (by simp[ac,ai]) (by simp[au])
theorem ze6 (a b:List Tm):tl (a++b)=tl a++tl b:=List.map_append
theorem t8 {a b:List Tm}{D X E Y:Nat} (ha:∀t∈a,Db D X t.1) (hb:∀t∈b,Db E Y t.1) (hD:0<D) (hE:0<E):∀t∈a++b,Db (D*E) (X*E+Y*D) t.1:=fun t ht=>by
 rcases List.mem_append.1 ht with ht | ht
 ·exact ((ha t ht).up hE).mono (by omega)
 ·have:=(hb t ht).up hD;rw[Nat.mul_comm E D] at this;exact this.mono (by omega)
theorem ze7 (n ord n' ord':Int) (a b:List Tm){D X E Y p:Nat} (ha:∀t∈a,Db D X t.1) (hb:∀t∈b,Db E Y t.1) (hD0:0<D) (hE0:0<E) (ga:∀t∈a,Ge t.2) (gb:∀t∈b,Ge t.2)
  (hl:a.length+b.length≤1000000000) (hD:D*E<2^p) (hX:(a.length+b.length)*(X*E+Y*D)<2^p) (hp:p≤2048000000000) :
  Con Tryz.prog AN 49 [SmD a n ord,SmD b n' ord'] (SmD (cnT ord (a++b)) n ord):=by
 have hge:∀t∈a++b,Ge t.2:=fun t ht=>by
  rcases List.mem_append.1 ht with ht | ht
  ·exact ga t ht
  ·exact gb t ht
 have mc:=(mI n ord (a++b) (t8 ha hb hD0 hE0) hge (by rw[List.length_append];exact hl) hD (by rw[List.length_append];exact hX) hp).x;have gc:=fun T=>(zdn (T:=T) a b hl).x
 refine Ft.con rfl (by simp) ?_;(repeat first|with_reducible refine kp [2,3,4] ?_|simp only[kV,simprocAttr,aa,Option.map_some,ax]|refine aN ?_);refine⟨_,_,gc _,ulc ?_⟩;(repeat first|simp only[kV,simprocAttr,aa,Option.map_some]|refine aN ?_);refine⟨_,_,mc,ulc ?_⟩;(repeat first|with_reducible refine kp [4] ?_|simp only[kV,simprocAttr,aa,Option.map_some,ab,ah,af,ac]|refine aN ?_)
abbrev At:=List UInt8×List Int
def atD (U:Nat) (t:At):D:=.agg [.str t.1,.list U 1 (t.2.map (D.int .i64))]
abbrev LTa (T U:Nat) (l:List At):D:=.list T 2 (l.map (atD U))
def wrT (n:Nat) (t:Tm):At:=(frText t.1.num t.1.den,(moL t.2).take n)
abbrev WR (n:Nat) (l:List Tm):List At:=l.map (wrT n)
theorem zfc (t:Tm) (n:Nat):List.take n (List.drop 4 (tI t).cells)=((moL t.2).take n).map (D.int .i64):=by rw[List.map_take];rfl
def csK:=an @List.replicate_zero.{0} (an @List.nil_append.{0} (an @Bool.false_or (an @true_and (an @Nat.le_refl (@List.take_length.{0})))))
theorem zfd {T:Nat} (l:List Int) (h:l.length≤1000000):Con Tryz.prog [] 93 [.list T 1 (l.map (D.int .i64))] (.list 3 1 (l.map (D.int .i64))):=by
 refine Fo.con rfl (by simp) ?_;(repeat first|simp only[kV,simprocAttr,aZ]|refine aN ?_);refine kp [0] ?_;(repeat first|simp only[kV,simprocAttr,aZ]|refine aN ?_);intro b hb;(repeat first|with_reducible refine kp [0,4] ?_|simp only[kV,simprocAttr]|refine aN ?_);refine⟨fun hc => ?_,fun hc => ?_⟩
 ·have hl:l=[]:=by
   rcases l with _ | ⟨x,l⟩
   ·rfl
   ·have:=hb (by simp);subst this;simp at hc
  subst hl;(try simp only[kV,simprocAttr]);refine ulk ?_;(repeat first|with_reducible refine kp [2] ?_|simp only[kV,simprocAttr,ab,ah,af,ac]|refine aN ?_)
 ·(try simp only[kV,simprocAttr,csK]);refine ulk ?_;(repeat first|with_reducible refine kp [0,2] ?_|simp only[kV,simprocAttr,ab,ah,af,ac,csK]|refine aN ?_)
theorem oC (n:Nat) (hn:n≤4) (ord:Int) (a:List Tm){p:Nat} (hA:Bc p a) (hp:p≤2048000000000) (hl:a.length≤1000000000) :
  Con Tryz.prog AN 60 [SmD a n ord] (LTa 83 3 (WR n a)):=by
 have hn4:(n:Int)≤4:=by omega
 have n8:4+n≤8:=by omega
 have n9:n≤9223372036854775807:=by omega
 refine Fi.con rfl (by simp) ?_;(repeat first|simp only[kV,simprocAttr,aa,Option.map_some,aZ]|refine aN ?_);refine kp [1] ?_;(repeat first|simp only[kV,simprocAttr,aa,Option.map_some,aZ]|refine aN ?_);refine kp [1,3] ?_;(repeat first|simp only[kV,simprocAttr,aa,Option.map_some,aZ]|refine aN ?_);refine kp [1,3,7,8,9] ?_;(repeat first|simp only[kV,simprocAttr,aa,Option.map_some,aZ]|refine aN ?_);refine aG (ι:=Nat) (fun i=>i≤a.length) (fun i=>⟨ai [(1,.ptr 1 0 0),(3,.slice 205 0 i),(7,.p (LM a)),(8,.p (J a.length)),(9,.p (J i))],
  au [(1,⟨96,3,.box (.p (SmD a n ord)),false⟩),(205,⟨83,2,.row ((WR n (a.take i)).map (atD 3)),false⟩)]⟩) (fun i=>a.length-i) 0 (Nat.zero_le _) (Sub.nilG 3 205 83 2) ?_
 intro i hi;by_cases h:i<a.length
 ·have hI:(i:Int)<(a.length:Int):=by omega
  have g1:=ci h;have hx:=hA _ (at_mem h);have hst:=gF h;have hlen:((WR n (a.take i)).map (atD 3)).length=i:=by rw[List.length_map,List.length_map,List.length_take,Nat.min_eq_left hi]
  generalize Sy.at_ a i=t at *;have c1:=zes t.1 p hx hp;have c2:=(zfd (T:=1000000) ((moL t.2).take n) (by simp[moL];omega)).mono (A':=AN) (by simp);have e1:=zfc t n;have f1:(WR n (a.take (i+1))).map (atD 3)=(WR n (a.take i)).map (atD 3)++[.agg [.str (frText t.1.num t.1.den),.list 3 1 (((moL t.2).take n).map (D.int .i64))]]:=by rw[hst];unfold WR;rw[List.map_append,List.map_append];rfl
  (repeat first|with_reducible refine kp [1,3,7,8,9,10] ?_|simp only[kV,simprocAttr,aa,Option.map_some,hI]|refine aN ?_);(try simp only[kV,simprocAttr,aa,Option.map_some,hI,g1,h]);refine ulk ?_;(repeat first|simp only[kV,simprocAttr,aa,Option.map_some,hI,g1,h]|refine aN ?_);refine kp [1,3,7,8,9] ?_;(repeat first|simp only[kV,simprocAttr,aa,Option.map_some,hI,g1,h]|refine aN ?_);refine i5 5 _ [1,3,5,7,8,9] (by rfl) ?_;refine ulk ?_;(repeat first|simp only[kV,simprocAttr,aa,Option.map_some,hI,g1,h]|refine aN ?_);refine⟨_,cx (c1),ulc ?_⟩;(repeat first|simp only[kV,simprocAttr,aa,Option.map_some,hn4,hn,e1,n8,n9,Bool.true_or,true_and]|refine aN ?_);refine⟨_,cx (c2),ulc ?_⟩;(repeat first|with_reducible refine kp [1,3,7,8,9] ?_|simp only[kV,simprocAttr,aa,Option.map_some,hn4,hn,e1,hlen]|refine aN ?_);exact⟨i+1,h,by rw[f1];exact (Sub.toG [1,3,7,8,9] [5,24]),by omega⟩
 ·have hI:¬ (i:Int)<(a.length:Int):=by omega
  obtain rfl:i=a.length:=by omega
  rw[List.take_length];(repeat first|with_reducible refine kp [1,3,7,8,9,10] ?_|simp only[kV,simprocAttr,aa,Option.map_some,hI]|refine aN ?_);refine ulk ?_;(repeat first|with_reducible refine kp [2,3] ?_|simp only[kV,simprocAttr,aa,Option.map_some,ab,ah,af,ac,hI]|refine aN ?_);rw[List.take_of_length_le (by simp)];simp only[Bool.or_true,if_true]
end Go.Proofs.YtbnhgnhgbhjkcaaGreat.M
