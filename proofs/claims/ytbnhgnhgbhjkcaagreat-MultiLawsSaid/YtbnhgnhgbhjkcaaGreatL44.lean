/- Lemmas. -/
import Derived.Test.YtbnhgnhgbhjkcaaGreatL43
set_option linter.defProp false
set_option linter.unusedSimpArgs false
set_option linter.unusedVariables false
namespace Go.Proofs.YtbnhgnhgbhjkcaaGreat.M
open Go.RowKit Go.Proofs.YtbnhgnhgbhjkcaaGreat.Sy
set_option maxRecDepth 20000
theorem zaO (rD:D):dk Tryz.prog AN 147 0 [LM [],J 0,J 0,cfD rD] TT 8 [] (.tup []) []:=by
 refine⟨by decide,by decide,rfl,rfl,fun _ => ?_,fun h=>absurd rfl h⟩;have hI:¬ (1:Int)<0:=by omega
 refine qA.con rfl (by simp) ?_;(repeat first|simp only[kV,simprocAttr,aD,ed]|refine aN ?_);refine kp [0,1,2,3,8] ?_;(repeat first|simp only[kV,simprocAttr,aD,ed]|refine aN ?_);refine aL (ι:=Unit) (fun _=>True) (fun _=>⟨ar [(0,.p (LM [])),(1,.p (J 0)),(2,.p (J 0)),(3,.p (cfD rD)),(8,.p (J 1))],ay []⟩) (fun _=>0) () trivial (Sub.toG [0,1,2,3,8] []) ?_;intro _ _;(repeat first|with_reducible refine kp [0,1,2,3,8,14] ?_|simp only[kV,simprocAttr,aD,hI]|refine aN ?_);refine ulk ?_;(repeat first|simp only[kV,simprocAttr,aD,hI]|refine aN ?_);rfl
theorem zaP (rD:D):dk Tryz.prog AN 131 0 [LM [],J 0,cfD rD] TT 8 [] (.tup []) []:=by
 refine⟨by decide,by decide,rfl,rfl,fun _ => ?_,fun h=>absurd rfl h⟩;have c1:=(zaO rD).x;have hI:¬ (20:Int)≤0:=by omega
 have hI2:¬ (20:Int)<0:=by omega
 refine qE.con rfl (by simp) ?_;(repeat first|simp only[kV,simprocAttr,aD,bU]|refine aN ?_);refine kp [0,1,2,6] ?_;(repeat first|simp only[kV,simprocAttr,aD,bU]|refine aN ?_);refine kp [0,1,2,6,7,8] ?_;(repeat first|simp only[kV,simprocAttr,aD,bU]|refine aN ?_);refine aL (ι:=Unit) (fun _=>True) (fun _=>⟨ar [(0,.p (LM [])),(1,.p (J 0)),(2,.p (cfD rD)),(6,.p (J 20)),(7,.p (J 0)),(8,.p (J 20))],ay []⟩) (fun _=>0) () trivial (Sub.toG [0,1,2,6,7,8] []) ?_;intro _ _;(repeat first|with_reducible refine kp [0,1,2,6,7,8,13] ?_|simp only[kV,simprocAttr,aD,hI]|refine aN ?_);refine ulk ?_;(repeat first|with_reducible refine kp [0,1,2,6,7] ?_|simp only[kV,simprocAttr,aD,hI]|refine aN ?_);refine⟨_,_,c1,?_⟩;(repeat first|simp only[kV,simprocAttr,aD]|refine aN ?_);refine kp [0,1,2,6] ?_;(repeat first|simp only[kV,simprocAttr,aD]|refine aN ?_);refine aL (ι:=Unit) (fun _=>True) (fun _=>⟨ar [(0,.p (LM [])),(1,.p (J 0)),(2,.p (cfD rD)),(6,.p (J 20))],ay []⟩) (fun _=>0) () trivial (Sub.toG [0,1,2,6] []) ?_;intro _ _;(repeat first|with_reducible refine kp [0,1,2,6,30] ?_|simp only[kV,simprocAttr,aD,hI2]|refine aN ?_);refine ulk ?_;(repeat first|simp only[kV,simprocAttr,aD,hI2]|refine aN ?_);rfl
theorem zaQ (rD:D) (l:List Tm) (lt:Tm→Tm→Bool) (cz:Tm→Tm→Int) (ho:Ord (aH lt)) (hc:Cmp rD l lt cz) (hl:l.length≤1000000000) :
  dk Tryz.prog AN 109 0 [LM l,cfD rD] TT 8 (l.map tI) (.tup []) ((iY rD lt l).map tI):=by
 have hp:=(vt ho hc hl).2;have hlen:=hp.length_eq;refine⟨by decide,by decide,rfl,by simpa using hlen,fun h0 => ?_,fun h0 => ?_⟩
 ·obtain rfl:l=[]:=by simpa using h0
  have c1:=(zaP rD).x;refine qF.con rfl (by simp) ?_;(repeat first|simp only[kV,simprocAttr,aD,aB]|refine aN ?_);refine⟨_,_,c1,?_⟩;(repeat first|simp only[kV,simprocAttr,aD]|refine aN ?_);rfl
 ·have hlp:0<l.length:=by
   rcases l with _ | ⟨x,l⟩
   ·exact absurd rfl h0
   ·simp
  have c1:=(iu (by decide) rfl hlp hlen (za7 rD l lt cz ho hc hl hlp)).x;refine qF.conL rfl (by simp) rfl (by simp) ?_;(repeat first|simp only[kV,simprocAttr,aD,iA]|refine aN ?_);refine⟨_,_,c1,?_⟩;(repeat first|simp only[kV,simprocAttr,aD,h0]|refine aN ?_);exact ResLt.unit _
open Go.RowKit
def tl (l:List Tm):Mp.TL:=l.map fun x=>(x.1,moL x.2)
def ofM (x:Rat×Mp.Mo):Tm:=(x.1,x.2.getD 0 0,x.2.getD 1 0,x.2.getD 2 0,x.2.getD 3 0)
theorem YK (l:List Tm):(tl l).map ofM=l:=by
 unfold tl;rw[List.map_map];have:(ofM ∘ fun x:Tm=>((x.1,moL x.2):Rat×Mp.Mo))=id:=by funext x;rfl
 rw[this,List.map_id]
theorem dY (l:List Tm):Mp.Wd 4 (tl l):=fun x hx=>by
 obtain⟨y,_,rfl⟩:=List.mem_map.1 hx;rfl
theorem YL {l:Mp.TL} (h:Mp.Wd 4 l):tl (l.map ofM)=l:=by
 unfold tl;rw[List.map_map];refine (List.map_congr_left (g:=id) fun x hx => ?_).trans (List.map_id l);have h4:=h x hx;obtain⟨c,m⟩:=x;simp only at h4
 match m,h4 with
 |[a,b,c,d],_=>rfl
theorem jI {a b:Ex4} (h:moL a=moL b):a=b:=by
 obtain⟨a1,a2,a3,a4⟩:=a;obtain⟨b1,b2,b3,b4⟩:=b;simp only[moL,List.cons.injEq,and_true] at h;simp only[Prod.mk.injEq];exact h
def cnT (ord:Int) (l:List Tm):List Tm:=(Mp.canon ord (tl l)).map ofM
theorem fC (ord:Int) (l:List Tm):tl (cnT ord l)=Mp.canon ord (tl l):=YL (Mp.canon_wd (dY l))
theorem jJ (ord:Int) (l:List Tm):(cnT ord l).length≤l.length:=by
 have:=Mp.canon_len ord (tl l);unfold cnT;unfold tl at *;simpa using this
def joT (out:List Tm) (t:Tm):List Tm:=
 if 0<out.length∧(Sy.at_ out (out.length-1)).2=t.2 then out.set (out.length-1) ((Sy.at_ out (out.length-1)).1+t.1,(Sy.at_ out (out.length-1)).2) else out++[t]
theorem YM (ys:List Tm) (x:Tm):Sy.at_ (ys++[x]) ys.length=x:=by simp[Sy.at_]
theorem YN (t:Tm):joT [] t=[t]:=rfl
theorem tX (ys:List Tm) (x t:Tm):joT (ys++[x]) t=if x.2=t.2 then ys++[(x.1+t.1,x.2)] else ys++[x]++[t]:=by
 unfold joT;have e:(ys++[x]).length-1=ys.length:=by simp
 rw[e,YM];by_cases h:x.2=t.2
 ·rw[if_pos ⟨by simp,h⟩,if_pos h];simp
 ·rw[if_neg (fun hh=>h hh.2),if_neg h]
theorem YO (out:List Tm) (t:Tm):tl (joT out t)=Mp.joinR (tl out) (t.1,moL t.2):=by
 rcases List.eq_nil_or_concat out with rfl | ⟨ys,x,rfl⟩
 ·rfl
 ·rw[List.concat_eq_append,tX];have e:tl (ys++[x])=tl ys++[(x.1,moL x.2)]:=by simp[tl]
  unfold Mp.joinR;rw[e,List.getLast?_concat,List.dropLast_concat];simp only;by_cases h:x.2=t.2
  ·rw[if_pos h,if_pos (by rw[h])];simp[tl]
  ·rw[if_neg h,if_neg (fun hh=>h (jI hh))];simp[tl]
def joL (l:List Tm) (k:Nat):List Tm:=(l.take k).foldl joT []
theorem ls {l:List Tm}{k:Nat} (h:k<l.length):joL l (k+1)=joT (joL l k) (Sy.at_ l k):=by
 unfold joL;rw[fJ h,List.foldl_append];rfl
theorem YP (out:List Tm) (t:Tm):(joT out t).length≤out.length+1∧0<(joT out t).length:=by
 unfold joT;split
 ·rename_i h;rw[List.length_set];exact⟨by omega,h.1⟩
 ·simp
theorem tY {l:List Tm}:∀{k:Nat},k≤l.length→(joL l k).length≤k∧(0<k→0<(joL l k).length)
 |0,_=>⟨by simp[joL],fun h=>absurd h (by omega)⟩
 |k+1,h=>by
  have ih:=(tY (l:=l) (k:=k) (by omega)).1;have:=YP (joL l k) (Sy.at_ l k);rw[ls h];exact⟨by omega,fun _=>this.2⟩
theorem YQ {out:List Tm}{t:Tm}{D X Y:Nat} (ho:∀x∈out,Db D X x.1) (ht:Db D Y t.1):∀x∈joT out t,Db D (X+Y) x.1:=by
 rcases List.eq_nil_or_concat out with rfl | ⟨ys,z,rfl⟩
 ·intro x hx;rw[YN,List.mem_singleton] at hx;rw[hx];exact ht.mono (by omega)
 ·rw[List.concat_eq_append] at *;rw[tX];intro x hx;split at hx
  ·rcases List.mem_append.1 hx with hx | hx
   ·exact (ho x (List.mem_append_left _ hx)).mono (by omega)
   ·rw[List.mem_singleton] at hx;rw[hx];exact (ho z (by simp)).add ht
  ·rcases List.mem_append.1 hx with hx | hx
   ·exact (ho x hx).mono (by omega)
   ·rw[List.mem_singleton] at hx;rw[hx];exact ht.mono (by omega)
theorem ox {l:List Tm}{D X:Nat} (h:∀x∈l,Db D X x.1):∀{k:Nat},k≤l.length→∀x∈joL l k,Db D (k*X) x.1
 |0,_=>fun x hx=>by simp[joL] at hx
 |k+1,hk=>by
  rw[ls hk,Nat.succ_mul];exact YQ (ox h (by omega)) (h _ (at_mem hk))
theorem t6 {ord:Int}{l:List Tm} (hs:Mp.Wso ord (tl l)):∀{k:Nat},k≤l.length→Mp.Jn ord (tl l) k (tl (joL l k))
 |0,_=>Mp.Jn.rf ord _
 |k+1,hk=>by
  rw[ls hk,YO];refine (t6 hs (by omega)).step hs ?_;unfold tl;rw[List.getElem?_map,List.getElem?_eq_getElem hk,show Sy.at_ l k=l[k]'hk by simp[Sy.at_,show k<l.length from hk]];rfl
theorem YR {ord:Int}{l:List Tm} (h:Sy.Srt (aH (ltT ord)) l 0 l.length):Mp.Wso ord (tl l):=by
 unfold Mp.Wso tl;rw[List.pairwise_map,List.pairwise_iff_getElem];intro i j hi hj hij;have:=h i j (by omega) hij hj;unfold aH ltT at this;rw[show Sy.at_ l i=l[i] by simp[Sy.at_,hi],show Sy.at_ l j=l[j] by simp[Sy.at_,hj]] at this;have h1:Mp.ahead ord (moL l[j].2) (moL l[i].2)=false:=by simpa using this
 cases h2:Mp.ahead ord (moL l[i].2) (moL l[j].2) with
 |true=>exact .inr rfl
 |false=>exact .inl (Mp.ahead_tot (ord:=ord) rfl h2 h1)
theorem YS (q:List Tm):tl (nzF q)=(tl q).filter fun x=>x.1≠0:=by
 unfold tl nzF;rw[List.filter_map];congr 1
 apply List.filter_congr;intro x _;unfold zr;simp
theorem t7 {ord:Int}{l s:List Tm} (hs:Sy.Srt (aH (ltT ord)) s 0 s.length) (hp:s.Perm l):nzF (joL s s.length)=cnT ord l:=by
 have hj:=t6 (YR hs) (Nat.le_refl _);have h1:(tl s).length=s.length:=by simp[tl]
 rw[←h1] at hj;have hd:=hj.done (n:=4) (l0:=tl l) (hp.map _) (dY l) (dY _);rw[h1] at hd;rw[←YS] at hd;rw[←YK (nzF _),hd];rfl
theorem YT {ord:Int}{l s:List Tm}{D X:Nat} (hs:Sy.Srt (aH (ltT ord)) s 0 s.length) (hp:s.Perm l) (h:∀x∈l,Db D X x.1):∀x∈cnT ord l,Db D (l.length*X) x.1:=fun x hx=>by
 rw[←t7 hs hp] at hx;have:=ox (l:=s) (D:=D) (X:=X) (fun y hy=>h y (hp.mem_iff.1 hy)) (Nat.le_refl _) x (List.mem_filter.1 hx).1
 rwa[hp.length_eq] at this
set_option maxHeartbeats 4000000
theorem Sub.revG {OT:List TypeId} (t:Nat) (d:D){R:List (Nat×AV)}{M:List (Nat×AObj)} (hd:(ar R t).toD false (ay M) 20=some d):Sub OT ⟨ar R,ay M⟩ ⟨ar (fL t (.p d) R),ay M⟩:=by
 rw[←i6];exact Sub.reveal t d hd
theorem SQ (T sz:Nat) (l:List D) (a b:D):bR 1 T sz l [a,b]=⟨ar [(0,.p a),(1,.slice 999999 0 l.length)],ay [(999999,⟨T,sz,.row l,false⟩)]⟩:=by
 unfold bR;congr 1
 funext i
 match i with
 |0=>rfl
 |1=>rfl
 |i+2=>simp[ar]
theorem SR (G:FuncId→List D→D→Prop) (dd:Option Nat) (ag:Bool) (sz:Nat) (x:Opd) (g:Option (Nat×Bool)) (K:St→Prop) (s:St):step G ⟨dd,.loadP ag sz x,g⟩ K s=fin dd K (ev (.loadP ag sz x) (dd.getD 0) s):=rfl
theorem SS (ag:Bool) (sz:Nat) (x:Opd) (id:Nat) (s:St):ev (.loadP ag sz x) id s=(match x.ev s.r with
  |.p (.ref d)=>if d.isAgg=ag then some (decide (d.cells.length=sz∧0<sz),.p d,s) else none
  |_=>none):=rfl
theorem ST (G:FuncId→List D→D→Prop) (dd:Option Nat) (sz:Nat) (x i:Opd) (g:Option (Nat×Bool)) (K:St→Prop) (s:St):step G ⟨dd,.indexAddrP sz x i,g⟩ K s=fin dd K (ev (.indexAddrP sz x i) (dd.getD 0) s):=rfl
theorem SU (sz:Nat) (x i:Opd) (id:Nat) (s:St):ev (.indexAddrP sz x i) id s=(match x.ev s.r,asI (i.ev s.r) with
  |.p (.list _ sz' t),some n=>if sz=sz' then some (decide (0≤n∧n<t.length),.p (.ref (t.getD n.toNat default)),s) else none
  |_,_=>none):=rfl
theorem SW (n ord:Int):(rgD n ord).isAgg=true:=rfl
theorem SX (n ord:Int):(rgD n ord).cells=[J n,J ord]:=rfl
theorem SY (k:Nat) (n ord:Int) (a b c d:AV):cJ [AV.p (.list 145 8 []),.p (J 0),.p (J 0)] (ar [(2,a),(4,b),(5,c),(52,.p (rgD n ord)),(50,d),(51,.slice 205 0 k)]) [(0,1,Opd.t 51),(1,2,Opd.t 52)]=some [.slice 205 0 k,.p (J n),.p (J ord)]:=rfl
theorem SZ (k:Nat) (n ord:Int):AV.mk [.slice 205 0 k,.p (J n),.p (J ord)] = .agg [.slice 205 0 k,.p (J n),.p (J ord)]:=rfl
theorem S0 (k:Nat) (n ord:Int):(AV.agg [.slice 205 0 k,.p (J n),.p (J ord)]).cells.length=3:=rfl
theorem S1 (k:Nat) (n ord:Int):(AV.agg [.slice 205 0 k,.p (J n),.p (J ord)]).cells.all AV.one=true:=rfl
theorem S2 (n ord:Int) (a b c d:AV):cJ [AV.p (.list 145 8 []),.p (J 0),.p (J 0)] (ar [(2,a),(4,b),(5,c),(52,.p (rgD n ord)),(50,d),(51,.p (.list TT 8 []))]) [(0,1,Opd.t 51),(1,2,Opd.t 52)]=some [.p (LM []),.p (J n),.p (J ord)]:=rfl
theorem S3 (n ord:Int):AV.mk [.p (LM []),.p (J n),.p (J ord)] = .p (.agg [LM [],J n,J ord]):=rfl
theorem S4 (n ord:Int):(AV.p (.agg [LM [],J n,J ord])).cells.length=3:=rfl
theorem S5 (n ord:Int):(AV.p (.agg [LM [],J n,J ord])).cells.all AV.one=true:=rfl
def S6:=an @S2 (an @S3 (an @S4 (@S5)))
def S7:=an @SY (an @SZ (an @S0 (@S1)))
abbrev SmD (l:List Tm) (n ord:Int):D:=.agg [LM l,J n,J ord]
theorem S8 (s:List D) (o2:AObj) (row:List D) (l:List Tm) (n ord:Int) (h1:row.take l.length=l.map tI) (h2:l.length≤row.length):ResLt ⟨ar [(4,.ptr 4 0 0)],ay [(999999,⟨TT,8,.row s,false⟩),(2,o2),(4,⟨96,3,.box (.agg [.slice 205 0 l.length,.p (J n),.p (J ord)]),false⟩),(205,⟨TT,8,.row row,false⟩)]⟩ [(4,some (true,3))] (SmD l n ord):=by
 refine .plain ?_ (fun m h=>by cases h);generalize hM:ay [(999999,(⟨TT,8,.row s,false⟩:AObj)),(2,o2),(4,⟨96,3,.box (.agg [.slice 205 0 l.length,.p (J n),.p (J ord)]),false⟩),(205,⟨TT,8,.row row,false⟩)]=M;have m4:M 4=some ⟨96,3,.box (.agg [.slice 205 0 l.length,.p (J n),.p (J ord)]),false⟩:=by rw[←hM];rfl
 have m5:M 205=some ⟨TT,8,.row row,false⟩:=by rw[←hM];rfl
 have e1:af (eo ⟨ar [(4,.ptr 4 0 0)],M⟩) (4,some (true,3))=some (.agg [.slice 205 0 l.length,.p (J n),.p (J ord)]):=by
  have:(eo ⟨ar [(4,.ptr 4 0 0)],M⟩).m 4=M 4:=rfl;unfold af;simp only[show (eo ⟨ar [(4,.ptr 4 0 0)],M⟩).r 4 = .ptr 4 0 0 from rfl,this,m4];rfl
 have e2:AV.toD true (eo ⟨ar [(4,.ptr 4 0 0)],M⟩).m 20 (.agg [.slice 205 0 l.length,.p (J n),.p (J ord)])=some (SmD l n ord):=by
  have h205:(eo ⟨ar [(4,.ptr 4 0 0)],M⟩).m 205=M 205:=rfl;rw[m5] at h205;simp[AV.toD,dg,h205,h2,h1]
 unfold ai ah ah;rw[e1];simp only[e2]
theorem S9 (x:Rat):(qI x).cells.length=4:=rfl
theorem Ta (x:Rat):(qI x).cells.all D.one=true:=rfl
theorem Tb (y:Tm) (c:Rat):D.agg ((tI y).cells.take 0++(qI c).cells++(tI y).cells.drop 4)=tI (c,y.2):=rfl
def bH:=an @S9 (an @Ta (an @Tb (an @SR (an @SS (an @ST (an @SU (an @SW (an @SX aD))))))))
noncomputable def srtM (n ord:Int) (l:List Tm):List Tm:=iY (rgD n ord) (ltT ord) l
theorem rP (n ord:Int){l:List Tm} (hg:∀x∈l,Ge x.2) (hl:l.length≤1000000000):Sy.Srt (aH (ltT ord)) (srtM n ord l) 0 (srtM n ord l).length∧(srtM n ord l).Perm l:=by
 obtain⟨h1,h2⟩:=vt (uL ord) (uK n ord l hg) hl;exact⟨by unfold srtM;rw[h2.length_eq];exact h1,h2⟩
theorem jp (n ord:Int) (l:List Tm){D X b:Nat} (hd:∀x∈l,Db D X x.1) (hg:∀x∈l,Ge x.2) (hl:l.length≤1000000000) (hD:D<2^b) (hX:l.length*X<2^b) (hb:b≤2048000000000) :
  dk Tryz.prog AN 84 1 [rgD n ord,LM l] TT 8 (l.map tI) (SmD (cnT ord l) n ord) ((srtM n ord l).map tI):=by
 have so:dk Tryz.prog AN 109 0 [LM l,cfD (rgD n ord)] TT 8 (l.map tI) (.tup []) ((srtM n ord l).map tI):=zaQ (rgD n ord) l _ _ (uL ord) (uK n ord l hg) hl;obtain⟨s1,s2⟩:=rP n ord hg hl;have hsl:=s2.length_eq;refine⟨by decide,by decide,rfl,by simpa using hsl,fun h0 => ?_,fun h0 => ?_⟩
 ·obtain rfl:l=[]:=by simpa using h0
  have hs0:srtM n ord []=[]:=s2.eq_nil;rw[hs0] at so;have c1:=so.x;have c3:=(uQ [] (n:=b) (fun x hx=>by cases hx) hb (by simp)).x;have hI:¬ (0:Int)<0:=by omega
  show Con _ _ _ _ (SmD [] n ord)
  refine qK.con rfl (by simp) ?_;(repeat first|simp only[kV,simprocAttr,bH,aQ,Option.map_some,beq_self_eq_true,aB]|refine aN ?_);refine⟨_,(Sub.to [1,2,4] (by rfl)).tr (Sub.showG 2 2 _ (.ref (rgD n ord)) (by rfl) (by rfl)),?_⟩;refine ulk ?_;(repeat first|simp only[kV,simprocAttr,bH,aQ,Option.map_some,beq_self_eq_true]|refine aN ?_);refine⟨_,_,c1,?_⟩;(repeat first|simp only[kV,simprocAttr,bH,aQ,Option.map_some,beq_self_eq_true]|refine aN ?_);refine kp [1,2,4] ?_;(repeat first|simp only[kV,simprocAttr,bH,aQ,Option.map_some,beq_self_eq_true]|refine aN ?_);refine kp [1,2,4,5] ?_;(repeat first|simp only[kV,simprocAttr,bH,aQ,Option.map_some,beq_self_eq_true]|refine aN ?_);refine kp [2,4,5,12,13,14] ?_;(repeat first|simp only[kV,simprocAttr,bH,aQ,Option.map_some,beq_self_eq_true]|refine aN ?_);refine aL (ι:=Unit) (fun _=>True) (fun _=>⟨ar [(2,.p (.ref (rgD n ord))),(4,.ptr 4 0 0),(5,.p (LM [])),(12,.p (LM [])),(13,.p (J 0)),(14,.p (J 0))],
   ay [(2,⟨94,2,.box (.p (rgD n ord)),true⟩),(4,⟨96,3,.box (.p (SmD [] 0 0)),false⟩)]⟩) (fun _=>0) () trivial ((Sub.revG 5 (LM []) (by rfl)).tr (Sub.toG [2,4,5,12,13,14] [7,47])) ?_
  intro _ _;(repeat first|with_reducible refine kp [2,4,5,12,13,14,15] ?_|simp only[kV,simprocAttr,bH,aQ,Option.map_some,beq_self_eq_true,hI]|refine aN ?_);refine ulk ?_;(repeat first|with_reducible refine kp [2,4,5] ?_|simp only[kV,simprocAttr,bH,aQ,Option.map_some,beq_self_eq_true,hI]|refine aN ?_);refine⟨_,_,c3,ulc ?_⟩;(repeat first|with_reducible refine kp [4] ?_|simp only[kV,simprocAttr,bH,aQ,Option.map_some,beq_self_eq_true,ae,ai,ah,af,S6]|refine aN ?_);rfl
 ·have c1:=so.x;have hlp:0<l.length:=by
   rcases l with _ | ⟨x,l⟩
   ·exact absurd rfl h0
   ·simp
  have hsd:∀x∈srtM n ord l,Db D X x.1:=fun x hx=>hd x (s2.mem_iff.1 hx)
  have hcn:=t7 s1 s2;generalize srtM n ord l=s at *;refine qK.conL rfl (by simp) rfl (by simp) ?_;(repeat first|simp only[kV,simprocAttr,bH,aQ,Option.map_some,beq_self_eq_true,SQ]|refine aN ?_);refine⟨_,(Sub.to [1,2,4] (by rfl)).tr (Sub.showG 2 2 _ (.ref (rgD n ord)) (by rfl) (by rfl)),?_⟩;refine ulk ?_;(repeat first|simp only[kV,simprocAttr,bH,aQ,Option.map_some,beq_self_eq_true]|refine aN ?_);refine⟨_,_,c1,?_⟩;(repeat first|simp only[kV,simprocAttr,bH,aQ,Option.map_some,beq_self_eq_true,h0]|refine aN ?_);refine kp [1,2,4] ?_;(repeat first|simp only[kV,simprocAttr,bH,aQ,Option.map_some,beq_self_eq_true,h0]|refine aN ?_);refine kp [1,2,4,5] ?_;(repeat first|simp only[kV,simprocAttr,bH,aQ,Option.map_some,beq_self_eq_true,h0]|refine aN ?_);refine kp [2,4,5,12,13,14] ?_;(repeat first|simp only[kV,simprocAttr,bH,aQ,Option.map_some,beq_self_eq_true,h0]|refine aN ?_);refine aL (ι:=Nat) (fun k=>k≤l.length) (fun k=>⟨ar [(2,.p (.ref (rgD n ord))),(4,.ptr 4 0 0),(5,.slice 205 0 (joL s k).length),(12,.slice 999999 0 l.length),(13,.p (J l.length)),(14,.p (J k))],
   ay [(999999,⟨TT,8,.row (s.map tI),false⟩),(2,⟨94,2,.box (.p (rgD n ord)),true⟩),(4,⟨96,3,.box (.p (SmD [] 0 0)),false⟩),(205,⟨TT,8,.row ((joL s k).map tI),false⟩)]⟩) (fun k=>l.length-k) 0 (Nat.zero_le _) (Sub.nilG 5 205 TT 8) ?_
  intro k hk;obtain⟨q1,q2⟩:=tY (l:=s) (k:=k) (by omega);have q3:=ox hsd (k:=k) (by omega);by_cases h:k<l.length
  ·have hI:(k:Int)<(l.length:Int):=by omega
   have g1:=ch (l:=s) (i:=k) (by omega);have hks:k<s.length:=by omega
   have hst:=ls (l:=s) (k:=k) (by omega);have ht1:Bq b (Sy.at_ s k).1:=(hsd _ (at_mem hks)).Bq hD (Nat.lt_of_le_of_lt (by have:=Nat.mul_le_mul_right X hlp;omega) hX);generalize joL s k=q at *;generalize Sy.at_ s k=t at *;by_cases hq0:0<q.length
   ·obtain⟨m,hm⟩:∃m,q.length=m+1:=⟨q.length-1,by omega⟩
    have e0:((q.length:Nat):Int)-1=(m:Int):=by omega
    have e1:(0:Int)≤(m:Int):=by omega
    have hmq:m<q.length:=by omega
    have g2:=ch (l:=q) (i:=m) hmq;have hq1:Bq b (Sy.at_ q m).1:=(q3 _ (at_mem hmq)).Bq hD (Nat.lt_of_le_of_lt (Nat.mul_le_mul_right X (by omega)) hX);have hm1:q.length-1=m:=by omega
    rw[joT,hm1] at hst;by_cases he:(Sy.at_ q m).2=t.2
    ·have he1:([(Sy.at_ q m).2.1,(Sy.at_ q m).2.2.1,(Sy.at_ q m).2.2.2.1,(Sy.at_ q m).2.2.2.2]=[t.2.1,t.2.2.1,t.2.2.2.1,t.2.2.2.2])=True:=eq_true (congrArg moL he);rw[if_pos ⟨hq0,he⟩] at hst;have c2:=ZV (Sy.at_ q m).1 t.1 b hq1 ht1 hb;have f1:(joL s (k+1)).map tI=(q.map tI).set m (tI ((Sy.at_ q m).1+t.1,(Sy.at_ q m).2)):=by rw[hst,List.map_set]
     have f2:(joL s (k+1)).length=q.length:=by rw[hst,List.length_set]
     (repeat first|with_reducible refine kp [2,4,5,12,13,14,15] ?_|simp only[kV,simprocAttr,bH,aQ,Option.map_some,beq_self_eq_true,hI]|refine aN ?_);(try simp only[kV,simprocAttr,bH,aQ,Option.map_some,beq_self_eq_true,hI,g1,hks,e0,e1,hmq,g2]);refine ulk ?_;(repeat first|with_reducible refine kp [2,4,5,7,8,12,13,14,32] ?_|simp only[kV,simprocAttr,bH,aQ,Option.map_some,beq_self_eq_true,hI,g1,hks,e0,e1,hmq,g2]|refine aN ?_);(try simp only[kV,simprocAttr,bH,aQ,Option.map_some,beq_self_eq_true,he1,g2,hmq]);refine ulk ?_;(repeat first|simp only[kV,simprocAttr,bH,aQ,Option.map_some,beq_self_eq_true,he1,g2,hmq]|refine aN ?_);refine⟨_,cx (c2),ulc ?_⟩;(repeat first|with_reducible refine kp [2,4,5,12,13,14] ?_|simp only[kV,simprocAttr,bH,aQ,Option.map_some,beq_self_eq_true,g2,hmq]|refine aN ?_);exact⟨k+1,h,by rw[f1,f2];exact (Sub.toG [2,4,5,12,13,14] [7,47]),by omega⟩
    ·have he1:([(Sy.at_ q m).2.1,(Sy.at_ q m).2.2.1,(Sy.at_ q m).2.2.2.1,(Sy.at_ q m).2.2.2.2]=[t.2.1,t.2.2.1,t.2.2.2.1,t.2.2.2.2])=False:=eq_false fun e=>he (jI e)
     rw[if_neg (fun hh=>he hh.2)] at hst;have f1:(joL s (k+1)).map tI=q.map tI++[tI t]:=by rw[hst,List.map_append];rfl
     have f2:(joL s (k+1)).length=q.length+1:=by rw[hst,List.length_append];rfl
     (repeat first|with_reducible refine kp [2,4,5,12,13,14,15] ?_|simp only[kV,simprocAttr,bH,aQ,Option.map_some,beq_self_eq_true,hI]|refine aN ?_);(try simp only[kV,simprocAttr,bH,aQ,Option.map_some,beq_self_eq_true,hI,g1,hks,e0,e1,hmq,g2]);refine ulk ?_;(repeat first|with_reducible refine kp [2,4,5,7,8,12,13,14,32] ?_|simp only[kV,simprocAttr,bH,aQ,Option.map_some,beq_self_eq_true,hI,g1,hks,e0,e1,hmq,g2]|refine aN ?_);(try simp only[kV,simprocAttr,bH,aQ,Option.map_some,beq_self_eq_true,he1,g2,hmq]);refine ulk ?_;(repeat first|with_reducible refine kp [2,4,5,12,13,14] ?_|simp only[kV,simprocAttr,bH,aQ,Option.map_some,beq_self_eq_true,he1,g2,hmq]|refine aN ?_);exact⟨k+1,h,by rw[f1,f2];exact (Sub.toG [2,4,5,12,13,14] [7,47]),by omega⟩
   ·have hqn:q=[]:=by
     rcases q with _ | ⟨z,q⟩
     ·rfl
     ·exact absurd (Nat.succ_pos _) hq0
    subst hqn;have hst2:joL s (k+1)=[t]:=by rw[hst];rfl
    have f1:(joL s (k+1)).map tI=[tI t]:=by rw[hst2];rfl
    have f2:(joL s (k+1)).length=1:=by rw[hst2];rfl
    have e1:¬ (0:Int)≤0-1:=by omega
    (repeat first|with_reducible refine kp [2,4,5,12,13,14,15] ?_|simp only[kV,simprocAttr,bH,aQ,Option.map_some,beq_self_eq_true,hI]|refine aN ?_);(try simp only[kV,simprocAttr,bH,aQ,Option.map_some,beq_self_eq_true,hI,g1,hks,e1,List.length_nil,List.map_nil]);refine ulk ?_;(repeat first|with_reducible refine kp [2,4,5,7,8,12,13,14,32] ?_|simp only[kV,simprocAttr,bH,aQ,Option.map_some,beq_self_eq_true,hI,g1,hks,e1,List.length_nil,List.map_nil]|refine aN ?_);refine ulk ?_;(repeat first|with_reducible refine kp [2,4,5,12,13,14] ?_|simp only[kV,simprocAttr,bH,aQ,Option.map_some,beq_self_eq_true,List.length_nil,List.map_nil]|refine aN ?_);exact⟨k+1,h,by rw[f1,f2];exact (Sub.toG [2,4,5,12,13,14] [7,47]),by omega⟩
  ·have hI:¬ (k:Int)<(l.length:Int):=by omega
   obtain rfl:k=l.length:=by omega
   rw[hsl] at hcn;have q4:=q2 hlp;have hqn:¬ (joL s l.length).map tI=[]:=fun e=>by
    rw[List.map_eq_nil_iff] at e;rw[e] at q4;cases q4
   have hbc:Bc b (joL s l.length):=fun x hx=>(q3 x hx).Bq hD hX
   have c3:=(uQ (joL s l.length) hbc hb (by omega)).x;rw[hcn] at c3;generalize joL s l.length=q at *;(repeat first|with_reducible refine kp [2,4,5,12,13,14,15] ?_|simp only[kV,simprocAttr,bH,aQ,Option.map_some,beq_self_eq_true,hI]|refine aN ?_);refine ulk ?_;(repeat first|with_reducible refine kp [2,4,5] ?_|simp only[kV,simprocAttr,bH,aQ,Option.map_some,beq_self_eq_true,hI]|refine aN ?_);refine⟨_,_,c3,ulc ?_⟩;(repeat first|with_reducible refine kp [4] ?_|simp only[kV,simprocAttr,bH,aQ,Option.map_some,beq_self_eq_true,ae,ai,ah,af,hqn,S7]|refine aN ?_);have hdl:(dlF q).take (cnT ord l).length=(cnT ord l).map tI:=by
    rw[←hcn];unfold dlF;exact List.take_left' (by simp)
   have hln:(cnT ord l).length≤(dlF q).length:=by rw[uP,←hcn];exact uO q
   exact S8 _ _ _ _ _ _ hdl hln
def Gx (E:Int) (e:Ex4):Prop:=(0≤e.1∧e.1≤E)∧(0≤e.2.1∧e.2.1≤E)∧(0≤e.2.2.1∧e.2.2.1≤E)∧(0≤e.2.2.2∧e.2.2.2≤E)
theorem Gx.ge {E:Int}{e:Ex4} (h:Gx E e) (hE:E≤1000000000000):Ge e:=by
 unfold Gx at h;unfold Ge;omega
def fh (a b:Ex4):Ex4:=(a.1+b.1,a.2.1+b.2.1,a.2.2.1+b.2.2.1,a.2.2.2+b.2.2.2)
theorem Gx.add {E F:Int}{a b:Ex4} (h:Gx E a) (k:Gx F b):Gx (E+F) (fh a b):=by
 unfold Gx fh at *;simp only;omega
def plK (a b:Ex4):Nat→Ex4
 |0=>a
 |1=>(a.1+b.1,a.2)
 |2=>(a.1+b.1,a.2.1+b.2.1,a.2.2)
 |3=>(a.1+b.1,a.2.1+b.2.1,a.2.2.1+b.2.2.1,a.2.2.2)
 |_=>fh a b
def kI:Nat→Int
 |0=>0
 |1=>1
 |2=>2
 |3=>3
 |_=>4
theorem TX:((kI 0=0∧kI 1=1)∧kI 2=2∧kI 3=3)∧kI 4=4:=by decide
theorem TY (a b:Ex4):plK a b 0=a∧plK a b 1=(a.1+b.1,a.2)∧plK a b 2=(a.1+b.1,a.2.1+b.2.1,a.2.2)∧plK a b 3=(a.1+b.1,a.2.1+b.2.1,a.2.2.1+b.2.2.1,a.2.2.2)∧plK a b 4=fh a b:=⟨rfl,rfl,rfl,rfl,rfl⟩
theorem T3 (e:Ex4):(AV.p (moD e)).get 0 1 4 false=some (.p (J e.1))∧(AV.p (moD e)).get 1 1 4 false=some (.p (J e.2.1))∧(AV.p (moD e)).get 2 1 4 false=some (.p (J e.2.2.1))∧(AV.p (moD e)).get 3 1 4 false=some (.p (J e.2.2.2)):=⟨rfl,rfl,rfl,rfl⟩
theorem T4 (e:Ex4) (x:Int):(AV.mk ((AV.p (moD e)).cells.take 0++(AV.p (J x)).cells++(AV.p (moD e)).cells.drop 1) = .p (moD (x,e.2))∧AV.mk ((AV.p (moD e)).cells.take 1++(AV.p (J x)).cells++(AV.p (moD e)).cells.drop 2) = .p (moD (e.1,x,e.2.2)))∧AV.mk ((AV.p (moD e)).cells.take 2++(AV.p (J x)).cells++(AV.p (moD e)).cells.drop 3) = .p (moD (e.1,e.2.1,x,e.2.2.2))∧AV.mk ((AV.p (moD e)).cells.take 3++(AV.p (J x)).cells++(AV.p (moD e)).cells.drop 4) = .p (moD (e.1,e.2.1,e.2.2.1,x)):=⟨⟨rfl,rfl⟩,rfl,rfl⟩
theorem T5 (e:Ex4):(AV.p (moD e)).cells.length=4∧(AV.p (moD e)).cells.all AV.one=true∧(AV.p (moD e)).get 0 4 4 true=some (.p (moD e)):=⟨rfl,rfl,rfl⟩
theorem T6 (x:Int):(AV.p (J x)).cells.length=1∧(AV.p (J x)).cells.all AV.one=true:=⟨rfl,rfl⟩
def a7:=an TX (an @TY (an @T3 (an @T4 (an @T5 (an @T6 csI)))))
theorem T7 (a b:Ex4) (ha:Ge a) (hb:Ge b):Con Tryz.prog [] 87 [moD a,moD b] (moD (fh a b)):=by
 unfold Ge at ha hb;refine Fb.con rfl (by simp) ?_;(repeat first|simp only[kV,simprocAttr,a7,aB]|refine aN ?_);refine kp [2,3,4] ?_;(repeat first|simp only[kV,simprocAttr,a7,aB]|refine aN ?_);refine kp [2,3,4,6] ?_;(repeat first|simp only[kV,simprocAttr,a7,aB]|refine aN ?_);refine aL (ι:=Nat) (fun k=>k≤4) (fun k=>⟨ar [(2,.ptr 2 0 0),(3,.ptr 3 0 0),(4,.ptr 4 0 0),(6,.p (J (kI k)))],ay [(2,⟨143,4,.box (.p (moD (plK a b k))),false⟩),(3,⟨143,4,.box (.p (moD b)),false⟩),(4,⟨143,4,.box (.p (moD (0,0,0,0))),false⟩)]⟩) (fun k=>4-k) 0 (Nat.zero_le _) (Sub.toG [2,3,4,6] []) ?_;intro k hk
 match k,hk with
 |0,_ =>
  (repeat first|with_reducible refine kp [2,3,4,6,7] ?_|simp only[kV,simprocAttr,a7]|refine aN ?_);refine ulk ?_;(repeat first|with_reducible refine kp [2,3,4,5,6] ?_|simp only[kV,simprocAttr,a7]|refine aN ?_);exact⟨1,by decide,(Sub.toG [2,3,4,6] []),by decide⟩
 |1,_ =>
  (repeat first|with_reducible refine kp [2,3,4,6,7] ?_|simp only[kV,simprocAttr,a7]|refine aN ?_);refine ulk ?_;(repeat first|with_reducible refine kp [2,3,4,5,6] ?_|simp only[kV,simprocAttr,a7]|refine aN ?_);exact⟨2,by decide,(Sub.toG [2,3,4,6] []),by decide⟩
 |2,_ =>
  (repeat first|with_reducible refine kp [2,3,4,6,7] ?_|simp only[kV,simprocAttr,a7]|refine aN ?_);refine ulk ?_;(repeat first|with_reducible refine kp [2,3,4,5,6] ?_|simp only[kV,simprocAttr,a7]|refine aN ?_);exact⟨3,by decide,(Sub.toG [2,3,4,6] []),by decide⟩
 |3,_ =>
  (repeat first|with_reducible refine kp [2,3,4,6,7] ?_|simp only[kV,simprocAttr,a7]|refine aN ?_);refine ulk ?_;(repeat first|with_reducible refine kp [2,3,4,5,6] ?_|simp only[kV,simprocAttr,a7]|refine aN ?_);exact⟨4,by decide,(Sub.toG [2,3,4,6] []),by decide⟩
 |4,_ =>
  (repeat first|with_reducible refine kp [2,3,4,6,7] ?_|simp only[kV,simprocAttr,a7]|refine aN ?_);refine ulk ?_;(repeat first|with_reducible refine kp [2,4] ?_|simp only[kV,simprocAttr,a7,ae,ai,ah,af]|refine aN ?_)
end Go.Proofs.YtbnhgnhgbhjkcaaGreat.M
