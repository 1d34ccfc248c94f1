/- Lemmas. -/
import Derived.Test.YtbnhgnhgbhjkcaaGreatQ44
set_option linter.defProp false
set_option linter.unusedSimpArgs false
set_option linter.unusedVariables false
namespace Go.Proofs.YtbnhgnhgbhjkcaaGreat.M
set_option linter.unusedSimpArgs false
open Go.RowKit
section
variable {w0:World}{base:Bs}{nt:Nat}{loc:aX}{s:St}{a:Act}{w:World}{OT:List TypeId}
theorem Rel.cut (h:Rel w0 base nt loc s a w){i:Nat} (k:Nat){T:TypeId}{sz:Nat}{l:List D} (hi:i≠aF) (hm:s.m i=some ⟨T,sz,.row l,false⟩):Rel w0 base nt loc ⟨s.r,upd s.m i (some ⟨T,sz,.row (l.take k),false⟩)⟩ a w:=by
 have hother:∀j o,upd s.m i (some ⟨T,sz,.row (l.take k),false⟩) j=some o→∃o0,s.m j=some o0∧o0.frz=o.frz:=by
  intro j o ho;by_cases e:j=i
  ·subst e;rw[aD] at ho;cases ho;exact⟨_,hm,rfl⟩
  ·rw[aC _ _ e] at ho;exact⟨o,ho,rfl⟩
 have hN:∀b,NB base s.m loc w b→NB base (upd s.m i (some ⟨T,sz,.row (l.take k),false⟩)) loc w b:=by
  rintro b hbN;refine⟨hbN.1,hbN.2.1,?_⟩;rintro⟨j,o,Lj,h1,h2,h3,h4,h5⟩;obtain⟨o0,g1,g2⟩:=hother j o h1;exact hbN.2.2 ⟨j,o0,Lj,g1,g2.trans h2,h3,h4,h5⟩
 refine⟨h.ext,h.defers,h.size,h.low,?_,fun t=>(h.tmps t).mono (fun _ _=>rfl) hN (fun _ _ h=>h),?_,?_,h.keepL.put fun e=>absurd e hi⟩
 ·intro j hj;dsimp only at hj;by_cases e:j=i
  ·subst e;rw[aD] at hj;cases hj
  ·rw[aC _ _ e] at hj;exact h.dom j hj
 ·intro j o ho;dsimp only at ho;by_cases e:j=i
  ·subst e;rw[aD] at ho;cases ho;obtain⟨L,hL,hok⟩:=h.objs j _ hm;refine⟨L,hL,hok.sz,fun hn => ?_,fun hn => ?_⟩
   ·have:=hok.nil hn;simp only[Cont.row.injEq] at this;subst this;simp
   obtain⟨c,fr,k1,k2,k3,k4,k5⟩:=hok.at_ hn;have k3':=k3.mono (w':=w) (loc':=loc) (fun _ _=>rfl) hN (fun _ _ h=>h);refine⟨c,fr,k1,k2,?_,k4,fun hf=>by cases hf⟩;obtain⟨c1,c2,c3⟩:=k3';refine⟨?_,fun e he=>c2 e (z9M he),fun x e y d hx hy => ?_⟩
   ·have:(l.take k).length*sz≤l.length*sz:=z92 _ (by rw[z9N];omega);exact z9E (Nat.add_le_add_left this _) c1
   ·refine c3 x e y d ?_ hy;rw[List.getElem?_take] at hx;split at hx
    ·exact hx
    ·cases hx
  ·rw[aC _ _ e] at ho;obtain⟨L,hL,hok⟩:=h.objs j o ho;refine⟨L,hL,hok.sz,hok.nil,fun hn => ?_⟩;obtain⟨c,fr,k1,k2,k3,k4,k5⟩:=hok.at_ hn;exact⟨c,fr,k1,k2,k3.mono (fun _ _=>rfl) hN (fun _ _ h=>h),k4,fun hf=>hN _ (k5 hf)⟩
 ·intro id id' o o' L L' h1 h2 h3 h4 h5 h6 h7 h8;obtain⟨o0,g1,g2⟩:=hother id o h1;obtain⟨o1,g3,g4⟩:=hother id' o' h2;exact h.inj id id' o0 o1 L L' g1 g3 (g2.trans h3) h4 h5 h6 h7 h8
theorem Sub.cut {i:Nat} (k:Nat){T:TypeId}{sz:Nat}{l:List D}{r:Nat→AV}{m:Mem} (hi:i≠aF) (hm:m i=some ⟨T,sz,.row l,false⟩):Sub OT ⟨r,m⟩ ⟨r,upd m i (some ⟨T,sz,.row (l.take k),false⟩)⟩:=by
 rintro C a w rfl ⟨⟨loc,hr⟩,h2⟩;refine⟨⟨_,hr.cut k hi hm⟩,fun j o ho => ?_⟩;dsimp only at ho;by_cases e:j=i
 ·subst e;rw[aD] at ho;cases ho;exact h2 j (⟨T,sz,.row l,false⟩:AObj) hm
 ·rw[aC _ _ e] at ho;exact h2 j o ho
theorem Sub.cutG (i k:Nat) (T:TypeId) (sz:Nat) (l:List D){R:List (Nat×AV)}{M:List (Nat×AObj)}{m':Mem} (hm:au M i=some ⟨T,sz,.row l,false⟩) (e:au (bR i ⟨T,sz,.row (l.take k),false⟩ M)=m') (hi:i≠aF:=by decide):Sub OT ⟨ar R,au M⟩ ⟨ar R,m'⟩:=by
 rw[←e,←dn];exact Sub.cut k hi hm
end
set_option linter.unusedSimpArgs false
set_option maxRecDepth 20000
set_option maxHeartbeats 1000000
open Go.RowKit
theorem Sub.nilP {OT:List TypeId}{r:Nat→AV}{m:Mem} (t:Nat) (T:TypeId) (sz:Nat) (hd:r t = .p (.nils T sz)):Sub OT ⟨r,m⟩ ⟨upd r t (.nils T sz),m⟩:=by
 rintro C a w-⟨⟨loc,hr⟩,h2⟩;refine⟨⟨loc,hr.ext,hr.defers,hr.size,hr.low,hr.dom,fun u => ?_,hr.objs,hr.inj,hr.keepL⟩,h2⟩;by_cases e:u=t
 ·subst e;simp only[aD];have:=hr.tmps u;dsimp only at this;rw[hd] at this;generalize a.tmps.getD u undef=v at this ⊢;cases this with
  |p _ _ hv =>
   cases hv;exact .nils T sz
 ·simp only[aC _ _ e];exact hr.tmps u
theorem Sub.nilPG {OT:List TypeId} (t:Nat) (T:TypeId) (sz:Nat){R:List (Nat×AV)}{M:List (Nat×AObj)} (hd:ar R t = .p (.nils T sz)):Sub OT ⟨ar R,au M⟩ ⟨ar (ej t (.nils T sz) R),au M⟩:=by
 rw[←gU];exact Sub.nilP t T sz hd
theorem zak (G:FuncId→List D→D→Prop) (dd:Option Nat) (x:Opd) (g:Option (Nat×Bool)) (K:St→Prop) (s:St):step G ⟨dd,.cap x,g⟩ K s=fin dd K (ev (.cap x) (dd.getD 0) s):=rfl
theorem zal (x:Opd) (id:Nat) (s:St):ev (.cap x) id s=(match x.ev s.r with
  |.p (.nils _ _)=>some (true,.p (.int .i64 (0:Nat)),s)
  |_=>none):=rfl
theorem zam (G:FuncId→List D→D→Prop) (dd:Option Nat) (T sz b:Nat) (z:D) (x n:Opd) (g:Option (Nat×Bool)) (K:St→Prop) (s:St):step G ⟨dd,.appZ T sz b z x n,g⟩ K s=fin dd K (ev (.appZ T sz b z x n) (dd.getD 0) s):=rfl
theorem zan (T sz bytes:Nat) (z:D) (x n:Opd) (id:Nat) (s:St):ev (.appZ T sz bytes z x n) id s=(match s.m id with
  |none=>match x.ev s.r,asI (n.ev s.r) with
   |.nils _ sz',some k=>if sz'=sz∧0<sz then some (decide (0<k∧bytes*k≤140737488355328∧k≤9223372036854775807),.slice id 0 k.toNat,⟨s.r,upd s.m id (some ⟨T,sz,.row (List.replicate k.toNat z),false⟩)⟩) else none
   |_,_=>none
  |some _=>none):=rfl
def aU:=an @zak (an @zal (an @zam (an @zan aa)))
theorem zao (k:Nat) (hk:k≤1000000000):fQ Tryz.prog AN 115 [.nils TT 8,J k] TT 8 []:=by
 have hn:¬ (k:Int)<0:=by omega
 have e0:(k:Int)-(0-0)=(k:Int):=by omega
 by_cases h:0<k
 ·have hp:(0:Int)<(k:Int):=by omega
  refine m0.conN rfl (by simp) ?_;(repeat first|with_reducible refine kp [0,1,6] ?_|simp only[kV,simprocAttr,aU,Option.map_some,z9G,ax,hn]|refine aN ?_);(try simp only[kV,simprocAttr,aU,Option.map_some,z9G,hn,hp,e0]);refine ulk ?_;(repeat first|with_reducible refine kp [0,1,16] ?_|simp only[kV,simprocAttr,aU,Option.map_some,z9G,hn,hp,e0]|refine aN ?_);(try simp only[kV,simprocAttr,aU,Option.map_some,z9G,hp,hn,e0,Int.toNat_natCast,Int.natCast_nonneg]);refine ulk ?_;(repeat first|simp only[kV,simprocAttr,aU,Option.map_some,z9G,hp,hn,e0,Int.toNat_natCast,Int.natCast_nonneg]|refine aN ?_);refine⟨_,(Sub.toG [0] []).tr (Sub.cutG 22 0 TT 8 _ (by rfl) (by rfl)),?_⟩;refine ulk ?_;(repeat first|with_reducible refine kp [4] ?_|simp only[kV,simprocAttr,aU,Option.map_some,z9G,af,ai,aq,ah,hp,hn,e0,Int.toNat_natCast,Int.natCast_nonneg]|refine aN ?_);exact .row (i:=22) (by rfl) (by simp[ah,ar]) (by simp[au,bR])
 ·obtain rfl:k=0:=by omega
  have hz:decide ((0:Int)<0)=false:=by decide
  have e2:(0:Int)-(0-0)=0:=by decide
  refine m0.conN rfl (by simp) ?_;(repeat first|with_reducible refine kp [0,1,6] ?_|simp only[kV,simprocAttr,aU,Option.map_some,z9G,ax,hn]|refine aN ?_);(try simp only[kV,simprocAttr,aU,Option.map_some,z9G,hn,hz,e2]);refine ulk ?_;(repeat first|with_reducible refine kp [0,1,16] ?_|simp only[kV,simprocAttr,aU,Option.map_some,z9G,hn,hz,e2]|refine aN ?_);refine ulk ?_;(repeat first|simp only[kV,simprocAttr,aU,Option.map_some,z9G,hz,e2]|refine aN ?_);refine⟨_,(Sub.toG [0] []).tr (Sub.nilPG 0 TT 8 (by rfl)),?_⟩;refine ulk ?_;(repeat first|with_reducible refine kp [4] ?_|simp only[kV,simprocAttr,aU,Option.map_some,z9G,af,ai,aq,ah,hz,e2]|refine aN ?_);exact .nil rfl rfl
def szK (a b:List Tm):Nat→Nat
 |0=>0
 |1=>a.length
 |_=>a.length+b.length
def ccK (a b:List Tm):Nat→List Tm
 |0=>[]
 |1=>a
 |_=>a++b
abbrev LLM (T:Nat) (a b:List Tm):D:=.list T 1 [LM a,LM b]
theorem zap (a b:List Tm):((szK a b 0=0∧szK a b 1=a.length)∧szK a b 2=a.length+b.length)∧(ccK a b 0=[]∧ccK a b 1=a)∧ccK a b 2=a++b:=⟨⟨⟨rfl,rfl⟩,rfl⟩,⟨rfl,rfl⟩,rfl⟩
def bS:=an @zap aU
theorem zaq {T:Nat} (a b:List Tm) (h:a.length+b.length≤1000000000):fQ Tryz.prog AN 85 [LLM T a b] TT 8 ((a++b).map tI):=by
 have gc:=(zao (a.length+b.length) h).x;have n1:¬ (a.length:Int)<0:=by omega
 have l0:(0:Int)<2:=by decide
 have l1:(1:Int)<2:=by decide
 have l2:¬ (2:Int)<2:=by decide
 have n2:¬ (a.length:Int)+(b.length:Int)<0:=by omega
 refine qU.conN rfl (by simp) ?_;(repeat first|simp only[kV,simprocAttr,aU,Option.map_some,z9G,bS,a8,z9J,z9I,z9U,z96,List.nil_append,aP]|refine aN ?_);refine kp [0] ?_;(repeat first|simp only[kV,simprocAttr,aU,Option.map_some,z9G,bS,a8,z9J,z9I,z9U,z96,List.nil_append,aP]|refine aN ?_);refine kp [0,3] ?_;(repeat first|simp only[kV,simprocAttr,aU,Option.map_some,z9G,bS,a8,z9J,z9I,z9U,z96,List.nil_append,aP]|refine aN ?_);refine kp [0,3,9,10,11] ?_;(repeat first|simp only[kV,simprocAttr,aU,Option.map_some,z9G,bS,a8,z9J,z9I,z9U,z96,List.nil_append,aP]|refine aN ?_);refine aB (ι:=Nat) (fun k=>k≤2) (fun k=>⟨ar [(0,.p (LLM T a b)),(3,.p (J (szK a b k))),(9,.p (LLM T a b)),(10,.p (J 2)),(11,.p (J (kI k)))],au []⟩) (fun k=>2-k) 0 (z9O _) (Sub.toG [0,3,9,10,11] [24,33]) ?_;intro k hk
 match k,hk with
 |0,_ =>
  (repeat first|with_reducible refine kp [0,3,9,10,11,12] ?_|simp only[kV,simprocAttr,aU,Option.map_some,z9G,bS,a8,z9J,z9I,z9U,z96,List.nil_append,l0]|refine aN ?_);(try simp only[kV,simprocAttr,aU,Option.map_some,z9G,bS,a8,z9J,z9I,z9U,z96,List.nil_append,l0,Int.zero_add]);refine ulk ?_;(repeat first|with_reducible refine kp [0,3,5,9,10,11,20] ?_|simp only[kV,simprocAttr,aU,Option.map_some,z9G,bS,a8,z9J,z9I,z9U,z96,List.nil_append,l0,Int.zero_add]|refine aN ?_);(try simp only[kV,simprocAttr,aU,Option.map_some,z9G,bS,a8,z9J,z9I,z9U,z96,List.nil_append,n1]);refine ulk ?_;(repeat first|with_reducible refine kp [0,3,9,10,11] ?_|simp only[kV,simprocAttr,aU,Option.map_some,z9G,bS,a8,z9J,z9I,z9U,z96,List.nil_append,n1]|refine aN ?_);exact⟨1,by decide,(Sub.toG [0,3,9,10,11] [24,33]),by decide⟩
 |1,_ =>
  (repeat first|with_reducible refine kp [0,3,9,10,11,12] ?_|simp only[kV,simprocAttr,aU,Option.map_some,z9G,bS,a8,z9J,z9I,z9U,z96,List.nil_append,l1]|refine aN ?_);refine ulk ?_;(repeat first|with_reducible refine kp [0,3,5,9,10,11,20] ?_|simp only[kV,simprocAttr,aU,Option.map_some,z9G,bS,a8,z9J,z9I,z9U,z96,List.nil_append,l1]|refine aN ?_);(try simp only[kV,simprocAttr,aU,Option.map_some,z9G,bS,a8,z9J,z9I,z9U,z96,List.nil_append,n2]);refine ulk ?_;(repeat first|with_reducible refine kp [0,3,9,10,11] ?_|simp only[kV,simprocAttr,aU,Option.map_some,z9G,bS,a8,z9J,z9I,z9U,z96,List.nil_append,n2]|refine aN ?_);exact⟨2,by decide,(Sub.toG [0,3,9,10,11] [24,33]),by decide⟩
 |2,_ =>
  (repeat first|with_reducible refine kp [0,3,9,10,11,12] ?_|simp only[kV,simprocAttr,aU,Option.map_some,z9G,bS,a8,z9J,z9I,z9U,z96,List.nil_append,l2]|refine aN ?_);refine ulk ?_;(repeat first|with_reducible refine kp [0,3] ?_|simp only[kV,simprocAttr,aU,Option.map_some,z9G,bS,a8,z9J,z9I,z9U,z96,List.nil_append,l2]|refine aN ?_);refine⟨_,_,gc,ulc ?_⟩;(repeat first|simp only[kV,simprocAttr,aU,Option.map_some,z9G,bS,a8,z9J,z9I,z9U,z96,List.nil_append]|refine aN ?_);refine kp [0,6] ?_;(repeat first|simp only[kV,simprocAttr,aU,Option.map_some,z9G,bS,a8,z9J,z9I,z9U,z96,List.nil_append]|refine aN ?_);refine kp [6,25,26,27] ?_;(repeat first|simp only[kV,simprocAttr,aU,Option.map_some,z9G,bS,a8,z9J,z9I,z9U,z96,List.nil_append]|refine aN ?_);refine aB (ι:=Nat) (fun k=>k≤2) (fun k=>⟨ar [(6,.slice 24 0 (ccK a b k).length),(25,.p (LLM T a b)),(26,.p (J 2)),(27,.p (J (kI k)))],au [(24,⟨TT,8,.row ((ccK a b k).map tI),false⟩)]⟩) (fun k=>2-k) 0 (z9O _) (Sub.toG [6,25,26,27] []) ?_;intro k hk
  match k,hk with
  |0,_ =>
   (repeat first|with_reducible refine kp [6,25,26,27,28] ?_|simp only[kV,simprocAttr,aU,Option.map_some,z9G,bS,a8,z9J,z9I,z9U,z96,List.nil_append,l0]|refine aN ?_);(try simp only[kV,simprocAttr,aU,Option.map_some,z9G,bS,a8,z9J,z9I,z9U,z96,List.nil_append,l0,List.length_nil,List.map_nil]);refine ulk ?_;(repeat first|with_reducible refine kp [6,8,25,26,27] ?_|simp only[kV,simprocAttr,aU,Option.map_some,z9G,bS,a8,z9J,z9I,z9U,z96,List.nil_append,l0,List.length_nil,List.map_nil]|refine aN ?_);exact⟨1,by decide,(Sub.toG [6,25,26,27] []),by decide⟩
  |1,_ =>
   (repeat first|with_reducible refine kp [6,25,26,27,28] ?_|simp only[kV,simprocAttr,aU,Option.map_some,z9G,bS,a8,z9J,z9I,z9U,z96,List.nil_append,l1]|refine aN ?_);refine ulk ?_;(repeat first|with_reducible refine kp [6,8,25,26,27] ?_|simp only[kV,simprocAttr,aU,Option.map_some,z9G,bS,a8,z9J,z9I,z9U,z96,List.nil_append,l1]|refine aN ?_);exact⟨2,by decide,by simp only[ccK,z9U,z96];exact (Sub.toG [6,25,26,27] []),by decide⟩
  |2,_ =>
   (repeat first|with_reducible refine kp [6,25,26,27,28] ?_|simp only[kV,simprocAttr,aU,Option.map_some,z9G,bS,a8,z9J,z9I,z9U,z96,List.nil_append,l2]|refine aN ?_);refine ulk ?_;(repeat first|with_reducible refine kp [2,6] ?_|simp only[kV,simprocAttr,aU,Option.map_some,z9G,bS,a8,z9J,z9I,z9U,z96,List.nil_append,af,ai,aq,ah,l2]|refine aN ?_);exact .row (i:=24) (by rfl) (by simp[ah,ar]) (by simp[au])
set_option linter.unusedSimpArgs false
set_option maxRecDepth 20000
set_option maxHeartbeats 2000000
open Go.RowKit
theorem zbJ (a b:List Tm):tl (a++b)=tl a++tl b:=z9U
theorem vy {a b:List Tm}{D X E Y:Nat} (ha:∀t∈a,Db D X t.1) (hb:∀t∈b,Db E Y t.1) (hD:0<D) (hE:0<E):∀t∈a++b,Db (D*E) (X*E+Y*D) t.1:=fun t ht=>by
 rcases z9y.1 ht with ht | ht
 ·exact ((ha t ht).up hE).mono (by omega)
 ·have:=(hb t ht).up hD;rw[z8U E D] at this;exact this.mono (by omega)
theorem zbK (n ord n' ord':Int) (a b:List Tm){D X E Y p:Nat} (ha:∀t∈a,Db D X t.1) (hb:∀t∈b,Db E Y t.1) (hD0:0<D) (hE0:0<E) (ga:∀t∈a,Ge t.2) (gb:∀t∈b,Ge t.2)
  (hl:a.length+b.length≤1000000000) (hD:D*E<2^p) (hX:(a.length+b.length)*(X*E+Y*D)<2^p) (hp:p≤2048000000000) :
  Con Tryz.prog AN 49 [SmD a n ord,SmD b n' ord'] (SmD (cnT ord (a++b)) n ord):=by
 have hge:∀t∈a++b,Ge t.2:=fun t ht=>by
  rcases z9y.1 ht with ht | ht
  ·exact ga t ht
  ·exact gb t ht
 have mc:=(kY n ord (a++b) (vy ha hb hD0 hE0) hge (by rw[z96];exact hl) hD (by rw[z96];exact hX) hp).x;have gc:=fun T=>(zaq (T:=T) a b hl).x
 refine rh.con rfl (by simp) ?_;(repeat first|with_reducible refine kp [2,3,4] ?_|simp only[kV,simprocAttr,aa,Option.map_some,ax]|refine aN ?_);refine⟨_,_,gc _,ulc ?_⟩;(repeat first|simp only[kV,simprocAttr,aa,Option.map_some]|refine aN ?_);refine⟨_,_,mc,ulc ?_⟩;(repeat first|with_reducible refine kp [4] ?_|simp only[kV,simprocAttr,aa,Option.map_some,af,ai,aq,ah]|refine aN ?_)
set_option linter.unusedSimpArgs false
open Go.RowKit
theorem zaS (n ord:Int):Con Tryz.prog [] 99 [J n,J ord] (SmD [] n ord):=by
 refine rk.con rfl (by simp) ?_;(repeat first|with_reducible refine kp [0,1,4] ?_|simp only[kV,simprocAttr,aa,Option.map_some,ax,af,ai,aq,ah]|refine aN ?_);rfl
set_option linter.unusedSimpArgs false
set_option maxRecDepth 20000
set_option maxHeartbeats 2000000
open Go.RowKit
abbrev At:=List UInt8×List Int
def atD (U:Nat) (t:At):D:=.agg [.str t.1,.list U 1 (t.2.map (D.int .i64))]
abbrev LTa (T U:Nat) (l:List At):D:=.list T 2 (l.map (atD U))
def wrT (n:Nat) (t:Tm):At:=(cN t.1.num t.1.den,(moL t.2).take n)
abbrev WR (n:Nat) (l:List Tm):List At:=l.map (wrT n)
theorem zbN (t:Tm) (n:Nat):List.take n (List.drop 4 (tI t).cells)=((moL t.2).take n).map (D.int .i64):=by rw[List.map_take];rfl
def csK:=an @List.replicate_zero.{0} (an @List.nil_append.{0} (an @Bool.false_or (an @true_and (an @Nat.le_refl (@List.take_length.{0})))))
theorem zbO {T:Nat} (l:List Int) (h:l.length≤1000000):Con Tryz.prog [] 93 [.list T 1 (l.map (D.int .i64))] (.list 3 1 (l.map (D.int .i64))):=by
 refine Ku.con rfl (by simp) ?_;(repeat first|simp only[kV,simprocAttr,aP]|refine aN ?_);refine kp [0] ?_;(repeat first|simp only[kV,simprocAttr,aP]|refine aN ?_);intro b hb;(repeat first|with_reducible refine kp [0,4] ?_|simp only[kV,simprocAttr]|refine aN ?_);refine⟨fun hc => ?_,fun hc => ?_⟩
 ·have hl:l=[]:=by
   rcases l with _ | ⟨x,l⟩
   ·rfl
   ·have:=hb (by simp);subst this;simp at hc
  subst hl;(try simp only[kV,simprocAttr]);refine ulk ?_;(repeat first|with_reducible refine kp [2] ?_|simp only[kV,simprocAttr,af,ai,aq,ah]|refine aN ?_)
 ·(try simp only[kV,simprocAttr,csK]);refine ulk ?_;(repeat first|with_reducible refine kp [0,2] ?_|simp only[kV,simprocAttr,af,ai,aq,ah,csK]|refine aN ?_)
theorem zbP (n:Nat) (hn:n≤4) (ord:Int) (a:List Tm){p:Nat} (hA:Bc p a) (hp:p≤2048000000000) (hl:a.length≤1000000000) :
  Con Tryz.prog AN 60 [SmD a n ord] (LTa 83 3 (WR n a)):=by
 have hn4:(n:Int)≤4:=by omega
 have n8:4+n≤8:=by omega
 have n9:n≤9223372036854775807:=by omega
 refine Kp.con rfl (by simp) ?_;(repeat first|simp only[kV,simprocAttr,aa,Option.map_some,aP]|refine aN ?_);refine kp [1] ?_;(repeat first|simp only[kV,simprocAttr,aa,Option.map_some,aP]|refine aN ?_);refine kp [1,3] ?_;(repeat first|simp only[kV,simprocAttr,aa,Option.map_some,aP]|refine aN ?_);refine kp [1,3,7,8,9] ?_;(repeat first|simp only[kV,simprocAttr,aa,Option.map_some,aP]|refine aN ?_);refine aB (ι:=Nat) (fun i=>i≤a.length) (fun i=>⟨ar [(1,.ptr 1 0 0),(3,.slice 205 0 i),(7,.p (LM a)),(8,.p (J a.length)),(9,.p (J i))],
  au [(1,⟨96,3,.box (.p (SmD a n ord)),false⟩),(205,⟨83,2,.row ((WR n (a.take i)).map (atD 3)),false⟩)]⟩) (fun i=>a.length-i) 0 (z9O _) (Sub.nilG 3 205 83 2) ?_
 intro i hi;by_cases h:i<a.length
 ·have hI:(i:Int)<(a.length:Int):=by omega
  have g1:=co h;have hx:=hA _ (at_mem h);have hst:=f8 h;have hlen:((WR n (a.take i)).map (atD 3)).length=i:=by rw[z9V,z9V,z9N,z9f hi]
  generalize Sy.at_ a i=t at *;have c1:=zbf t.1 p hx hp;have c2:=(zbO (T:=1000000) ((moL t.2).take n) (by simp[moL];omega)).mono (A':=AN) (by simp);have e1:=zbN t n;have f1:(WR n (a.take (i+1))).map (atD 3)=(WR n (a.take i)).map (atD 3)++[.agg [.str (cN t.1.num t.1.den),.list 3 1 (((moL t.2).take n).map (D.int .i64))]]:=by rw[hst];unfold WR;rw[z9U,z9U];rfl
  (repeat first|with_reducible refine kp [1,3,7,8,9,10] ?_|simp only[kV,simprocAttr,aa,Option.map_some,hI]|refine aN ?_);(try simp only[kV,simprocAttr,aa,Option.map_some,hI,g1,h]);refine ulk ?_;(repeat first|simp only[kV,simprocAttr,aa,Option.map_some,hI,g1,h]|refine aN ?_);refine kp [1,3,7,8,9] ?_;(repeat first|simp only[kV,simprocAttr,aa,Option.map_some,hI,g1,h]|refine aN ?_);refine iy 5 _ [1,3,5,7,8,9] (by rfl) ?_;refine ulk ?_;(repeat first|simp only[kV,simprocAttr,aa,Option.map_some,hI,g1,h]|refine aN ?_);refine⟨_,cx (c1),ulc ?_⟩;(repeat first|simp only[kV,simprocAttr,aa,Option.map_some,hn4,hn,e1,n8,n9,Bool.true_or,true_and]|refine aN ?_);refine⟨_,cx (c2),ulc ?_⟩;(repeat first|with_reducible refine kp [1,3,7,8,9] ?_|simp only[kV,simprocAttr,aa,Option.map_some,hn4,hn,e1,hlen]|refine aN ?_);exact⟨i+1,h,by rw[f1];exact (Sub.toG [1,3,7,8,9] [5,24]),by omega⟩
 ·have hI:¬ (i:Int)<(a.length:Int):=by omega
  obtain rfl:i=a.length:=by omega
  rw[z9x];(repeat first|with_reducible refine kp [1,3,7,8,9,10] ?_|simp only[kV,simprocAttr,aa,Option.map_some,hI]|refine aN ?_);refine ulk ?_;(repeat first|with_reducible refine kp [2,3] ?_|simp only[kV,simprocAttr,aa,Option.map_some,af,ai,aq,ah,hI]|refine aN ?_);rw[z93 (by simp)];simp only[Bool.or_true,if_true]
end Go.Proofs.YtbnhgnhgbhjkcaaGreat.M
