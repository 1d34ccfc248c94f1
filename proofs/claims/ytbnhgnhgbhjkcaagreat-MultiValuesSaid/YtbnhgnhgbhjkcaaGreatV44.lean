/- Lemmas. -/
import Derived.Test.YtbnhgnhgbhjkcaaGreatV43
set_option linter.defProp false
set_option linter.unusedSimpArgs false
set_option linter.unusedVariables false
namespace Go.Proofs.YtbnhgnhgbhjkcaaGreat.M
open Go.RowKit Go.Proofs.YtbnhgnhgbhjkcaaGreat.Sy
set_option maxRecDepth 20000
theorem zda (rD:D):cZ Tryz.prog AN 147 0 [LM [],J 0,J 0,cfD rD] TT 8 [] (.tup []) []:=by
 refine⟨by decide,by decide,rfl,rfl,fun _ => ?_,fun h=>absurd rfl h⟩;have hI:¬ (1:Int)<0:=by omega
 refine qj.con rfl (by simp) ?_;(repeat first|simp only[kV,simprocAttr,aC,gi]|refine aN ?_);refine kp [0,1,2,3,8] ?_;(repeat first|simp only[kV,simprocAttr,aC,gi]|refine aN ?_);refine aE (ι:=Unit) (fun _=>True) (fun _=>⟨ai [(0,.p (LM [])),(1,.p (J 0)),(2,.p (J 0)),(3,.p (cfD rD)),(8,.p (J 1))],aw []⟩) (fun _=>0) () trivial (Sub.toG [0,1,2,3,8] []) ?_;intro _ _;(repeat first|with_reducible refine kp [0,1,2,3,8,14] ?_|simp only[kV,simprocAttr,aC,hI]|refine aN ?_);refine ulk ?_;(repeat first|simp only[kV,simprocAttr,aC,hI]|refine aN ?_);rfl
theorem zdb (rD:D):cZ Tryz.prog AN 131 0 [LM [],J 0,cfD rD] TT 8 [] (.tup []) []:=by
 refine⟨by decide,by decide,rfl,rfl,fun _ => ?_,fun h=>absurd rfl h⟩;have c1:=(zda rD).x;have hI:¬ (20:Int)≤0:=by omega
 have hI2:¬ (20:Int)<0:=by omega
 refine qo.con rfl (by simp) ?_;(repeat first|simp only[kV,simprocAttr,aC,bh]|refine aN ?_);refine kp [0,1,2,6] ?_;(repeat first|simp only[kV,simprocAttr,aC,bh]|refine aN ?_);refine kp [0,1,2,6,7,8] ?_;(repeat first|simp only[kV,simprocAttr,aC,bh]|refine aN ?_);refine aE (ι:=Unit) (fun _=>True) (fun _=>⟨ai [(0,.p (LM [])),(1,.p (J 0)),(2,.p (cfD rD)),(6,.p (J 20)),(7,.p (J 0)),(8,.p (J 20))],aw []⟩) (fun _=>0) () trivial (Sub.toG [0,1,2,6,7,8] []) ?_;intro _ _;(repeat first|with_reducible refine kp [0,1,2,6,7,8,13] ?_|simp only[kV,simprocAttr,aC,hI]|refine aN ?_);refine ulk ?_;(repeat first|with_reducible refine kp [0,1,2,6,7] ?_|simp only[kV,simprocAttr,aC,hI]|refine aN ?_);refine⟨_,_,c1,?_⟩;(repeat first|simp only[kV,simprocAttr,aC]|refine aN ?_);refine kp [0,1,2,6] ?_;(repeat first|simp only[kV,simprocAttr,aC]|refine aN ?_);refine aE (ι:=Unit) (fun _=>True) (fun _=>⟨ai [(0,.p (LM [])),(1,.p (J 0)),(2,.p (cfD rD)),(6,.p (J 20))],aw []⟩) (fun _=>0) () trivial (Sub.toG [0,1,2,6] []) ?_;intro _ _;(repeat first|with_reducible refine kp [0,1,2,6,30] ?_|simp only[kV,simprocAttr,aC,hI2]|refine aN ?_);refine ulk ?_;(repeat first|simp only[kV,simprocAttr,aC,hI2]|refine aN ?_);rfl
theorem zdc (rD:D) (l:List Tm) (lt:Tm→Tm→Bool) (cz:Tm→Tm→Int) (ho:Ord (aH lt)) (hc:Cmp rD l lt cz) (hl:l.length≤1000000000) :
  cZ Tryz.prog AN 109 0 [LM l,cfD rD] TT 8 (l.map tI) (.tup []) ((iO rD lt l).map tI):=by
 have hp:=(vm ho hc hl).2;have hlen:=hp.length_eq;refine⟨by decide,by decide,rfl,by simpa using hlen,fun h0 => ?_,fun h0 => ?_⟩
 ·obtain rfl:l=[]:=by simpa using h0
  have c1:=(zdb rD).x;refine qr.con rfl (by simp) ?_;(repeat first|simp only[kV,simprocAttr,aC,ax]|refine aN ?_);refine⟨_,_,c1,?_⟩;(repeat first|simp only[kV,simprocAttr,aC]|refine aN ?_);rfl
 ·have hlp:0<l.length:=by
   rcases l with _ | ⟨x,l⟩
   ·exact absurd rfl h0
   ·simp
  have c1:=(ib (by decide) rfl hlp hlen (zdy rD l lt cz ho hc hl hlp)).x;refine qr.conL rfl (by simp) rfl (by simp) ?_;(repeat first|simp only[kV,simprocAttr,aC,im]|refine aN ?_);refine⟨_,_,c1,?_⟩;(repeat first|simp only[kV,simprocAttr,aC,h0]|refine aN ?_);exact ResLt.unit _
open Go.RowKit
def tl (l:List Tm):Mp.TL:=l.map fun x=>(x.1,moL x.2)
def ofM (x:Rat×Mp.Mo):Tm:=(x.1,x.2.getD 0 0,x.2.getD 1 0,x.2.getD 2 0,x.2.getD 3 0)
theorem zbg (l:List Tm):(tl l).map ofM=l:=by
 unfold tl;rw[List.map_map];have:(ofM ∘ fun x:Tm=>((x.1,moL x.2):Rat×Mp.Mo))=id:=by funext x;rfl
 rw[this,List.map_id]
theorem iA (l:List Tm):Mp.Wd 4 (tl l):=fun x hx=>by
 obtain⟨y,_,rfl⟩:=List.mem_map.1 hx;rfl
theorem zbh {l:Mp.TL} (h:Mp.Wd 4 l):tl (l.map ofM)=l:=by
 unfold tl;rw[List.map_map];refine (List.map_congr_left (g:=id) fun x hx => ?_).trans (List.map_id l);have h4:=h x hx;obtain⟨c,m⟩:=x;simp only at h4
 match m,h4 with
 |[a,b,c,d],_=>rfl
theorem jw {a b:Ex4} (h:moL a=moL b):a=b:=by
 obtain⟨a1,a2,a3,a4⟩:=a;obtain⟨b1,b2,b3,b4⟩:=b;simp only[moL,List.cons.injEq,and_true] at h;simp only[Prod.mk.injEq];exact h
def cnT (ord:Int) (l:List Tm):List Tm:=(Mp.canon ord (tl l)).map ofM
theorem iB (ord:Int) (l:List Tm):tl (cnT ord l)=Mp.canon ord (tl l):=zbh (Mp.canon_wd (iA l))
theorem lj (ord:Int) (l:List Tm):(cnT ord l).length≤l.length:=by
 have:=Mp.canon_len ord (tl l);unfold cnT;unfold tl at *;simpa using this
def joT (out:List Tm) (t:Tm):List Tm:=
 if 0<out.length∧(Sy.at_ out (out.length-1)).2=t.2 then out.set (out.length-1) ((Sy.at_ out (out.length-1)).1+t.1,(Sy.at_ out (out.length-1)).2) else out++[t]
theorem zbi (ys:List Tm) (x:Tm):Sy.at_ (ys++[x]) ys.length=x:=by simp[Sy.at_]
theorem zbj (t:Tm):joT [] t=[t]:=rfl
theorem tS (ys:List Tm) (x t:Tm):joT (ys++[x]) t=if x.2=t.2 then ys++[(x.1+t.1,x.2)] else ys++[x]++[t]:=by
 unfold joT;have e:(ys++[x]).length-1=ys.length:=by simp
 rw[e,zbi];by_cases h:x.2=t.2
 ·rw[if_pos ⟨by simp,h⟩,if_pos h];simp
 ·rw[if_neg (fun hh=>h hh.2),if_neg h]
theorem zbk (out:List Tm) (t:Tm):tl (joT out t)=Mp.joinR (tl out) (t.1,moL t.2):=by
 rcases List.eq_nil_or_concat out with rfl | ⟨ys,x,rfl⟩
 ·rfl
 ·rw[List.concat_eq_append,tS];have e:tl (ys++[x])=tl ys++[(x.1,moL x.2)]:=by simp[tl]
  unfold Mp.joinR;rw[e,List.getLast?_concat,List.dropLast_concat];simp only;by_cases h:x.2=t.2
  ·rw[if_pos h,if_pos (by rw[h])];simp[tl]
  ·rw[if_neg h,if_neg (fun hh=>h (jw hh))];simp[tl]
def joL (l:List Tm) (k:Nat):List Tm:=(l.take k).foldl joT []
theorem lk {l:List Tm}{k:Nat} (h:k<l.length):joL l (k+1)=joT (joL l k) (Sy.at_ l k):=by
 unfold joL;rw[gQ h,List.foldl_append];rfl
theorem zbl (out:List Tm) (t:Tm):(joT out t).length≤out.length+1∧0<(joT out t).length:=by
 unfold joT;split
 ·rename_i h;rw[List.length_set];exact⟨by omega,h.1⟩
 ·simp
theorem tT {l:List Tm}:∀{k:Nat},k≤l.length→(joL l k).length≤k∧(0<k→0<(joL l k).length)
 |0,_=>⟨by simp[joL],fun h=>absurd h (by omega)⟩
 |k+1,h=>by
  have ih:=(tT (l:=l) (k:=k) (by omega)).1;have:=zbl (joL l k) (Sy.at_ l k);rw[lk h];exact⟨by omega,fun _=>this.2⟩
theorem zbm {out:List Tm}{t:Tm}{D X Y:Nat} (ho:∀x∈out,Db D X x.1) (ht:Db D Y t.1):∀x∈joT out t,Db D (X+Y) x.1:=by
 rcases List.eq_nil_or_concat out with rfl | ⟨ys,z,rfl⟩
 ·intro x hx;rw[zbj,List.mem_singleton] at hx;rw[hx];exact ht.mono (by omega)
 ·rw[List.concat_eq_append] at *;rw[tS];intro x hx;split at hx
  ·rcases List.mem_append.1 hx with hx | hx
   ·exact (ho x (List.mem_append_left _ hx)).mono (by omega)
   ·rw[List.mem_singleton] at hx;rw[hx];exact (ho z (by simp)).add ht
  ·rcases List.mem_append.1 hx with hx | hx
   ·exact (ho x hx).mono (by omega)
   ·rw[List.mem_singleton] at hx;rw[hx];exact ht.mono (by omega)
theorem od {l:List Tm}{D X:Nat} (h:∀x∈l,Db D X x.1):∀{k:Nat},k≤l.length→∀x∈joL l k,Db D (k*X) x.1
 |0,_=>fun x hx=>by simp[joL] at hx
 |k+1,hk=>by
  rw[lk hk,Nat.succ_mul];exact zbm (od h (by omega)) (h _ (at_mem hk))
theorem tU {ord:Int}{l:List Tm} (hs:Mp.Wso ord (tl l)):∀{k:Nat},k≤l.length→Mp.Jn ord (tl l) k (tl (joL l k))
 |0,_=>Mp.Jn.rf ord _
 |k+1,hk=>by
  rw[lk hk,zbk];refine (tU hs (by omega)).step hs ?_;unfold tl;rw[List.getElem?_map,List.getElem?_eq_getElem hk,show Sy.at_ l k=l[k]'hk by simp[Sy.at_,show k<l.length from hk]];rfl
theorem zbn {ord:Int}{l:List Tm} (h:Sy.Srt (aH (ltT ord)) l 0 l.length):Mp.Wso ord (tl l):=by
 unfold Mp.Wso tl;rw[List.pairwise_map,List.pairwise_iff_getElem];intro i j hi hj hij;have:=h i j (by omega) hij hj;unfold aH ltT at this;rw[show Sy.at_ l i=l[i] by simp[Sy.at_,hi],show Sy.at_ l j=l[j] by simp[Sy.at_,hj]] at this;have h1:Mp.ahead ord (moL l[j].2) (moL l[i].2)=false:=by simpa using this
 cases h2:Mp.ahead ord (moL l[i].2) (moL l[j].2) with
 |true=>exact .inr rfl
 |false=>exact .inl (Mp.ahead_tot (ord:=ord) rfl h2 h1)
theorem zbo (q:List Tm):tl (nzF q)=(tl q).filter fun x=>x.1≠0:=by
 unfold tl nzF;rw[List.filter_map];congr 1
 apply List.filter_congr;intro x _;unfold zr;simp
theorem tV {ord:Int}{l s:List Tm} (hs:Sy.Srt (aH (ltT ord)) s 0 s.length) (hp:s.Perm l):nzF (joL s s.length)=cnT ord l:=by
 have hj:=tU (zbn hs) (Nat.le_refl _);have h1:(tl s).length=s.length:=by simp[tl]
 rw[←h1] at hj;have hd:=hj.done (n:=4) (l0:=tl l) (hp.map _) (iA l) (iA _);rw[h1] at hd;rw[←zbo] at hd;rw[←zbg (nzF _),hd];rfl
theorem zbp {ord:Int}{l s:List Tm}{D X:Nat} (hs:Sy.Srt (aH (ltT ord)) s 0 s.length) (hp:s.Perm l) (h:∀x∈l,Db D X x.1):∀x∈cnT ord l,Db D (l.length*X) x.1:=fun x hx=>by
 rw[←tV hs hp] at hx;have:=od (l:=s) (D:=D) (X:=X) (fun y hy=>h y (hp.mem_iff.1 hy)) (Nat.le_refl _) x (List.mem_filter.1 hx).1
 rwa[hp.length_eq] at this
set_option maxHeartbeats 4000000
theorem Sub.revG {OT:List TypeId} (t:Nat) (d:D){R:List (Nat×AV)}{M:List (Nat×AObj)} (hd:(ai R t).toD false (aw M) 20=some d):Sub OT ⟨ai R,aw M⟩ ⟨ai (fu t (.p d) R),aw M⟩:=by
 rw[←jJ];exact Sub.reveal t d hd
theorem Vt (T sz:Nat) (l:List D) (a b:D):bM 1 T sz l [a,b]=⟨ai [(0,.p a),(1,.slice 999999 0 l.length)],aw [(999999,⟨T,sz,.row l,false⟩)]⟩:=by
 unfold bM;congr 1
 funext i
 match i with
 |0=>rfl
 |1=>rfl
 |i+2=>simp[ai]
theorem Vu (G:FuncId→List D→D→Prop) (dd:Option Nat) (ag:Bool) (sz:Nat) (x:Opd) (g:Option (Nat×Bool)) (K:St→Prop) (s:St):step G ⟨dd,.loadP ag sz x,g⟩ K s=fin dd K (ev (.loadP ag sz x) (dd.getD 0) s):=rfl
theorem Vv (ag:Bool) (sz:Nat) (x:Opd) (id:Nat) (s:St):ev (.loadP ag sz x) id s=(match x.ev s.r with
  |.p (.ref d)=>if d.isAgg=ag then some (decide (d.cells.length=sz∧0<sz),.p d,s) else none
  |_=>none):=rfl
theorem Vw (G:FuncId→List D→D→Prop) (dd:Option Nat) (sz:Nat) (x i:Opd) (g:Option (Nat×Bool)) (K:St→Prop) (s:St):step G ⟨dd,.indexAddrP sz x i,g⟩ K s=fin dd K (ev (.indexAddrP sz x i) (dd.getD 0) s):=rfl
theorem Vx (sz:Nat) (x i:Opd) (id:Nat) (s:St):ev (.indexAddrP sz x i) id s=(match x.ev s.r,asI (i.ev s.r) with
  |.p (.list _ sz' t),some n=>if sz=sz' then some (decide (0≤n∧n<t.length),.p (.ref (t.getD n.toNat default)),s) else none
  |_,_=>none):=rfl
theorem Vy (n ord:Int):(rgD n ord).isAgg=true:=rfl
theorem Vz (n ord:Int):(rgD n ord).cells=[J n,J ord]:=rfl
theorem VA (k:Nat) (n ord:Int) (a b c d:AV):cV [AV.p (.list 145 8 []),.p (J 0),.p (J 0)] (ai [(2,a),(4,b),(5,c),(52,.p (rgD n ord)),(50,d),(51,.slice 205 0 k)]) [(0,1,Opd.t 51),(1,2,Opd.t 52)]=some [.slice 205 0 k,.p (J n),.p (J ord)]:=rfl
theorem VB (k:Nat) (n ord:Int):AV.mk [.slice 205 0 k,.p (J n),.p (J ord)] = .agg [.slice 205 0 k,.p (J n),.p (J ord)]:=rfl
theorem VC (k:Nat) (n ord:Int):(AV.agg [.slice 205 0 k,.p (J n),.p (J ord)]).cells.length=3:=rfl
theorem VD (k:Nat) (n ord:Int):(AV.agg [.slice 205 0 k,.p (J n),.p (J ord)]).cells.all AV.one=true:=rfl
theorem VE (n ord:Int) (a b c d:AV):cV [AV.p (.list 145 8 []),.p (J 0),.p (J 0)] (ai [(2,a),(4,b),(5,c),(52,.p (rgD n ord)),(50,d),(51,.p (.list TT 8 []))]) [(0,1,Opd.t 51),(1,2,Opd.t 52)]=some [.p (LM []),.p (J n),.p (J ord)]:=rfl
theorem VF (n ord:Int):AV.mk [.p (LM []),.p (J n),.p (J ord)] = .p (.agg [LM [],J n,J ord]):=rfl
theorem VG (n ord:Int):(AV.p (.agg [LM [],J n,J ord])).cells.length=3:=rfl
theorem VH (n ord:Int):(AV.p (.agg [LM [],J n,J ord])).cells.all AV.one=true:=rfl
def VI:=an @VE (an @VF (an @VG (@VH)))
def VJ:=an @VA (an @VB (an @VC (@VD)))
abbrev SmD (l:List Tm) (n ord:Int):D:=.agg [LM l,J n,J ord]
theorem VK (s:List D) (o2:AObj) (row:List D) (l:List Tm) (n ord:Int) (h1:row.take l.length=l.map tI) (h2:l.length≤row.length):ResLt ⟨ai [(4,.ptr 4 0 0)],aw [(999999,⟨TT,8,.row s,false⟩),(2,o2),(4,⟨96,3,.box (.agg [.slice 205 0 l.length,.p (J n),.p (J ord)]),false⟩),(205,⟨TT,8,.row row,false⟩)]⟩ [(4,some (true,3))] (SmD l n ord):=by
 refine .plain ?_ (fun m h=>by cases h);generalize hM:aw [(999999,(⟨TT,8,.row s,false⟩:AObj)),(2,o2),(4,⟨96,3,.box (.agg [.slice 205 0 l.length,.p (J n),.p (J ord)]),false⟩),(205,⟨TT,8,.row row,false⟩)]=M;have m4:M 4=some ⟨96,3,.box (.agg [.slice 205 0 l.length,.p (J n),.p (J ord)]),false⟩:=by rw[←hM];rfl
 have m5:M 205=some ⟨TT,8,.row row,false⟩:=by rw[←hM];rfl
 have e1:af (dR ⟨ai [(4,.ptr 4 0 0)],M⟩) (4,some (true,3))=some (.agg [.slice 205 0 l.length,.p (J n),.p (J ord)]):=by
  have:(dR ⟨ai [(4,.ptr 4 0 0)],M⟩).m 4=M 4:=rfl;unfold af;simp only[show (dR ⟨ai [(4,.ptr 4 0 0)],M⟩).r 4 = .ptr 4 0 0 from rfl,this,m4];rfl
 have e2:AV.toD true (dR ⟨ai [(4,.ptr 4 0 0)],M⟩).m 20 (.agg [.slice 205 0 l.length,.p (J n),.p (J ord)])=some (SmD l n ord):=by
  have h205:(dR ⟨ai [(4,.ptr 4 0 0)],M⟩).m 205=M 205:=rfl;rw[m5] at h205;simp[AV.toD,cU,h205,h2,h1]
 unfold ah ae ae;rw[e1];simp only[e2]
theorem VL (x:Rat):(qI x).cells.length=4:=rfl
theorem VM (x:Rat):(qI x).cells.all D.one=true:=rfl
theorem VN (y:Tm) (c:Rat):D.agg ((tI y).cells.take 0++(qI c).cells++(tI y).cells.drop 4)=tI (c,y.2):=rfl
def bl:=an @VL (an @VM (an @VN (an @Vu (an @Vv (an @Vw (an @Vx (an @Vy (an @Vz aC))))))))
noncomputable def srtM (n ord:Int) (l:List Tm):List Tm:=iO (rgD n ord) (ltT ord) l
theorem rE (n ord:Int){l:List Tm} (hg:∀x∈l,Ge x.2) (hl:l.length≤1000000000):Sy.Srt (aH (ltT ord)) (srtM n ord l) 0 (srtM n ord l).length∧(srtM n ord l).Perm l:=by
 obtain⟨h1,h2⟩:=vm (uK ord) (uJ n ord l hg) hl;exact⟨by unfold srtM;rw[h2.length_eq];exact h1,h2⟩
theorem m9 (n ord:Int) (l:List Tm){D X b:Nat} (hd:∀x∈l,Db D X x.1) (hg:∀x∈l,Ge x.2) (hl:l.length≤1000000000) (hD:D<2^b) (hX:l.length*X<2^b) (hb:b≤2048000000000) :
  cZ Tryz.prog AN 84 1 [rgD n ord,LM l] TT 8 (l.map tI) (SmD (cnT ord l) n ord) ((srtM n ord l).map tI):=by
 have so:cZ Tryz.prog AN 109 0 [LM l,cfD (rgD n ord)] TT 8 (l.map tI) (.tup []) ((srtM n ord l).map tI):=zdc (rgD n ord) l _ _ (uK ord) (uJ n ord l hg) hl;obtain⟨s1,s2⟩:=rE n ord hg hl;have hsl:=s2.length_eq;refine⟨by decide,by decide,rfl,by simpa using hsl,fun h0 => ?_,fun h0 => ?_⟩
 ·obtain rfl:l=[]:=by simpa using h0
  have hs0:srtM n ord []=[]:=s2.eq_nil;rw[hs0] at so;have c1:=so.x;have c3:=(uP [] (n:=b) (fun x hx=>by cases hx) hb (by simp)).x;have hI:¬ (0:Int)<0:=by omega
  show Con _ _ _ _ (SmD [] n ord)
  refine qu.con rfl (by simp) ?_;(repeat first|simp only[kV,simprocAttr,bl,aO,Option.map_some,beq_self_eq_true,ax]|refine aN ?_);refine⟨_,(Sub.to [1,2,4] (by rfl)).tr (Sub.showG 2 2 _ (.ref (rgD n ord)) (by rfl) (by rfl)),?_⟩;refine ulk ?_;(repeat first|simp only[kV,simprocAttr,bl,aO,Option.map_some,beq_self_eq_true]|refine aN ?_);refine⟨_,_,c1,?_⟩;(repeat first|simp only[kV,simprocAttr,bl,aO,Option.map_some,beq_self_eq_true]|refine aN ?_);refine kp [1,2,4] ?_;(repeat first|simp only[kV,simprocAttr,bl,aO,Option.map_some,beq_self_eq_true]|refine aN ?_);refine kp [1,2,4,5] ?_;(repeat first|simp only[kV,simprocAttr,bl,aO,Option.map_some,beq_self_eq_true]|refine aN ?_);refine kp [2,4,5,12,13,14] ?_;(repeat first|simp only[kV,simprocAttr,bl,aO,Option.map_some,beq_self_eq_true]|refine aN ?_);refine aE (ι:=Unit) (fun _=>True) (fun _=>⟨ai [(2,.p (.ref (rgD n ord))),(4,.ptr 4 0 0),(5,.p (LM [])),(12,.p (LM [])),(13,.p (J 0)),(14,.p (J 0))],
   aw [(2,⟨94,2,.box (.p (rgD n ord)),true⟩),(4,⟨96,3,.box (.p (SmD [] 0 0)),false⟩)]⟩) (fun _=>0) () trivial ((Sub.revG 5 (LM []) (by rfl)).tr (Sub.toG [2,4,5,12,13,14] [7,47])) ?_
  intro _ _;(repeat first|with_reducible refine kp [2,4,5,12,13,14,15] ?_|simp only[kV,simprocAttr,bl,aO,Option.map_some,beq_self_eq_true,hI]|refine aN ?_);refine ulk ?_;(repeat first|with_reducible refine kp [2,4,5] ?_|simp only[kV,simprocAttr,bl,aO,Option.map_some,beq_self_eq_true,hI]|refine aN ?_);refine⟨_,_,c3,ulc ?_⟩;(repeat first|with_reducible refine kp [4] ?_|simp only[kV,simprocAttr,bl,aO,Option.map_some,beq_self_eq_true,ac,ah,ae,af,VI]|refine aN ?_);rfl
 ·have c1:=so.x;have hlp:0<l.length:=by
   rcases l with _ | ⟨x,l⟩
   ·exact absurd rfl h0
   ·simp
  have hsd:∀x∈srtM n ord l,Db D X x.1:=fun x hx=>hd x (s2.mem_iff.1 hx)
  have hcn:=tV s1 s2;generalize srtM n ord l=s at *;refine qu.conL rfl (by simp) rfl (by simp) ?_;(repeat first|simp only[kV,simprocAttr,bl,aO,Option.map_some,beq_self_eq_true,Vt]|refine aN ?_);refine⟨_,(Sub.to [1,2,4] (by rfl)).tr (Sub.showG 2 2 _ (.ref (rgD n ord)) (by rfl) (by rfl)),?_⟩;refine ulk ?_;(repeat first|simp only[kV,simprocAttr,bl,aO,Option.map_some,beq_self_eq_true]|refine aN ?_);refine⟨_,_,c1,?_⟩;(repeat first|simp only[kV,simprocAttr,bl,aO,Option.map_some,beq_self_eq_true,h0]|refine aN ?_);refine kp [1,2,4] ?_;(repeat first|simp only[kV,simprocAttr,bl,aO,Option.map_some,beq_self_eq_true,h0]|refine aN ?_);refine kp [1,2,4,5] ?_;(repeat first|simp only[kV,simprocAttr,bl,aO,Option.map_some,beq_self_eq_true,h0]|refine aN ?_);refine kp [2,4,5,12,13,14] ?_;(repeat first|simp only[kV,simprocAttr,bl,aO,Option.map_some,beq_self_eq_true,h0]|refine aN ?_);refine aE (ι:=Nat) (fun k=>k≤l.length) (fun k=>⟨ai [(2,.p (.ref (rgD n ord))),(4,.ptr 4 0 0),(5,.slice 205 0 (joL s k).length),(12,.slice 999999 0 l.length),(13,.p (J l.length)),(14,.p (J k))],
   aw [(999999,⟨TT,8,.row (s.map tI),false⟩),(2,⟨94,2,.box (.p (rgD n ord)),true⟩),(4,⟨96,3,.box (.p (SmD [] 0 0)),false⟩),(205,⟨TT,8,.row ((joL s k).map tI),false⟩)]⟩) (fun k=>l.length-k) 0 (Nat.zero_le _) (Sub.nilG 5 205 TT 8) ?_
  intro k hk;obtain⟨q1,q2⟩:=tT (l:=s) (k:=k) (by omega);have q3:=od hsd (k:=k) (by omega);by_cases h:k<l.length
  ·have hI:(k:Int)<(l.length:Int):=by omega
   have g1:=bY (l:=s) (i:=k) (by omega);have hks:k<s.length:=by omega
   have hst:=lk (l:=s) (k:=k) (by omega);have ht1:Bq b (Sy.at_ s k).1:=(hsd _ (at_mem hks)).Bq hD (Nat.lt_of_le_of_lt (by have:=Nat.mul_le_mul_right X hlp;omega) hX);generalize joL s k=q at *;generalize Sy.at_ s k=t at *;by_cases hq0:0<q.length
   ·obtain⟨m,hm⟩:∃m,q.length=m+1:=⟨q.length-1,by omega⟩
    have e0:((q.length:Nat):Int)-1=(m:Int):=by omega
    have e1:(0:Int)≤(m:Int):=by omega
    have hmq:m<q.length:=by omega
    have g2:=bY (l:=q) (i:=m) hmq;have hq1:Bq b (Sy.at_ q m).1:=(q3 _ (at_mem hmq)).Bq hD (Nat.lt_of_le_of_lt (Nat.mul_le_mul_right X (by omega)) hX);have hm1:q.length-1=m:=by omega
    rw[joT,hm1] at hst;by_cases he:(Sy.at_ q m).2=t.2
    ·have he1:([(Sy.at_ q m).2.1,(Sy.at_ q m).2.2.1,(Sy.at_ q m).2.2.2.1,(Sy.at_ q m).2.2.2.2]=[t.2.1,t.2.2.1,t.2.2.2.1,t.2.2.2.2])=True:=eq_true (congrArg moL he);rw[if_pos ⟨hq0,he⟩] at hst;have c2:=zcg (Sy.at_ q m).1 t.1 b hq1 ht1 hb;have f1:(joL s (k+1)).map tI=(q.map tI).set m (tI ((Sy.at_ q m).1+t.1,(Sy.at_ q m).2)):=by rw[hst,List.map_set]
     have f2:(joL s (k+1)).length=q.length:=by rw[hst,List.length_set]
     (repeat first|with_reducible refine kp [2,4,5,12,13,14,15] ?_|simp only[kV,simprocAttr,bl,aO,Option.map_some,beq_self_eq_true,hI]|refine aN ?_);(try simp only[kV,simprocAttr,bl,aO,Option.map_some,beq_self_eq_true,hI,g1,hks,e0,e1,hmq,g2]);refine ulk ?_;(repeat first|with_reducible refine kp [2,4,5,7,8,12,13,14,32] ?_|simp only[kV,simprocAttr,bl,aO,Option.map_some,beq_self_eq_true,hI,g1,hks,e0,e1,hmq,g2]|refine aN ?_);(try simp only[kV,simprocAttr,bl,aO,Option.map_some,beq_self_eq_true,he1,g2,hmq]);refine ulk ?_;(repeat first|simp only[kV,simprocAttr,bl,aO,Option.map_some,beq_self_eq_true,he1,g2,hmq]|refine aN ?_);refine⟨_,cx (c2),ulc ?_⟩;(repeat first|with_reducible refine kp [2,4,5,12,13,14] ?_|simp only[kV,simprocAttr,bl,aO,Option.map_some,beq_self_eq_true,g2,hmq]|refine aN ?_);exact⟨k+1,h,by rw[f1,f2];exact (Sub.toG [2,4,5,12,13,14] [7,47]),by omega⟩
    ·have he1:([(Sy.at_ q m).2.1,(Sy.at_ q m).2.2.1,(Sy.at_ q m).2.2.2.1,(Sy.at_ q m).2.2.2.2]=[t.2.1,t.2.2.1,t.2.2.2.1,t.2.2.2.2])=False:=eq_false fun e=>he (jw e)
     rw[if_neg (fun hh=>he hh.2)] at hst;have f1:(joL s (k+1)).map tI=q.map tI++[tI t]:=by rw[hst,List.map_append];rfl
     have f2:(joL s (k+1)).length=q.length+1:=by rw[hst,List.length_append];rfl
     (repeat first|with_reducible refine kp [2,4,5,12,13,14,15] ?_|simp only[kV,simprocAttr,bl,aO,Option.map_some,beq_self_eq_true,hI]|refine aN ?_);(try simp only[kV,simprocAttr,bl,aO,Option.map_some,beq_self_eq_true,hI,g1,hks,e0,e1,hmq,g2]);refine ulk ?_;(repeat first|with_reducible refine kp [2,4,5,7,8,12,13,14,32] ?_|simp only[kV,simprocAttr,bl,aO,Option.map_some,beq_self_eq_true,hI,g1,hks,e0,e1,hmq,g2]|refine aN ?_);(try simp only[kV,simprocAttr,bl,aO,Option.map_some,beq_self_eq_true,he1,g2,hmq]);refine ulk ?_;(repeat first|with_reducible refine kp [2,4,5,12,13,14] ?_|simp only[kV,simprocAttr,bl,aO,Option.map_some,beq_self_eq_true,he1,g2,hmq]|refine aN ?_);exact⟨k+1,h,by rw[f1,f2];exact (Sub.toG [2,4,5,12,13,14] [7,47]),by omega⟩
   ·have hqn:q=[]:=by
     rcases q with _ | ⟨z,q⟩
     ·rfl
     ·exact absurd (Nat.succ_pos _) hq0
    subst hqn;have hst2:joL s (k+1)=[t]:=by rw[hst];rfl
    have f1:(joL s (k+1)).map tI=[tI t]:=by rw[hst2];rfl
    have f2:(joL s (k+1)).length=1:=by rw[hst2];rfl
    have e1:¬ (0:Int)≤0-1:=by omega
    (repeat first|with_reducible refine kp [2,4,5,12,13,14,15] ?_|simp only[kV,simprocAttr,bl,aO,Option.map_some,beq_self_eq_true,hI]|refine aN ?_);(try simp only[kV,simprocAttr,bl,aO,Option.map_some,beq_self_eq_true,hI,g1,hks,e1,List.length_nil,List.map_nil]);refine ulk ?_;(repeat first|with_reducible refine kp [2,4,5,7,8,12,13,14,32] ?_|simp only[kV,simprocAttr,bl,aO,Option.map_some,beq_self_eq_true,hI,g1,hks,e1,List.length_nil,List.map_nil]|refine aN ?_);refine ulk ?_;(repeat first|with_reducible refine kp [2,4,5,12,13,14] ?_|simp only[kV,simprocAttr,bl,aO,Option.map_some,beq_self_eq_true,List.length_nil,List.map_nil]|refine aN ?_);exact⟨k+1,h,by rw[f1,f2];exact (Sub.toG [2,4,5,12,13,14] [7,47]),by omega⟩
  ·have hI:¬ (k:Int)<(l.length:Int):=by omega
   obtain rfl:k=l.length:=by omega
   rw[hsl] at hcn;have q4:=q2 hlp;have hqn:¬ (joL s l.length).map tI=[]:=fun e=>by
    rw[List.map_eq_nil_iff] at e;rw[e] at q4;cases q4
   have hbc:Bc b (joL s l.length):=fun x hx=>(q3 x hx).Bq hD hX
   have c3:=(uP (joL s l.length) hbc hb (by omega)).x;rw[hcn] at c3;generalize joL s l.length=q at *;(repeat first|with_reducible refine kp [2,4,5,12,13,14,15] ?_|simp only[kV,simprocAttr,bl,aO,Option.map_some,beq_self_eq_true,hI]|refine aN ?_);refine ulk ?_;(repeat first|with_reducible refine kp [2,4,5] ?_|simp only[kV,simprocAttr,bl,aO,Option.map_some,beq_self_eq_true,hI]|refine aN ?_);refine⟨_,_,c3,ulc ?_⟩;(repeat first|with_reducible refine kp [4] ?_|simp only[kV,simprocAttr,bl,aO,Option.map_some,beq_self_eq_true,ac,ah,ae,af,hqn,VJ]|refine aN ?_);have hdl:(dlF q).take (cnT ord l).length=(cnT ord l).map tI:=by
    rw[←hcn];unfold dlF;exact List.take_left' (by simp)
   have hln:(cnT ord l).length≤(dlF q).length:=by rw[uO,←hcn];exact uN q
   exact VK _ _ _ _ _ _ hdl hln
def Gx (E:Int) (e:Ex4):Prop:=(0≤e.1∧e.1≤E)∧(0≤e.2.1∧e.2.1≤E)∧(0≤e.2.2.1∧e.2.2.1≤E)∧(0≤e.2.2.2∧e.2.2.2≤E)
theorem Gx.ge {E:Int}{e:Ex4} (h:Gx E e) (hE:E≤1000000000000):Ge e:=by
 unfold Gx at h;unfold Ge;omega
def r9 (a b:Ex4):Ex4:=(a.1+b.1,a.2.1+b.2.1,a.2.2.1+b.2.2.1,a.2.2.2+b.2.2.2)
def plK (a b:Ex4):Nat→Ex4
 |0=>a
 |1=>(a.1+b.1,a.2)
 |2=>(a.1+b.1,a.2.1+b.2.1,a.2.2)
 |3=>(a.1+b.1,a.2.1+b.2.1,a.2.2.1+b.2.2.1,a.2.2.2)
 |_=>r9 a b
def kI:Nat→Int
 |0=>0
 |1=>1
 |2=>2
 |3=>3
 |_=>4
theorem Wx:((kI 0=0∧kI 1=1)∧kI 2=2∧kI 3=3)∧kI 4=4:=by decide
theorem Wy (a b:Ex4):plK a b 0=a∧plK a b 1=(a.1+b.1,a.2)∧plK a b 2=(a.1+b.1,a.2.1+b.2.1,a.2.2)∧plK a b 3=(a.1+b.1,a.2.1+b.2.1,a.2.2.1+b.2.2.1,a.2.2.2)∧plK a b 4=r9 a b:=⟨rfl,rfl,rfl,rfl,rfl⟩
theorem Wz (e:Ex4):(AV.p (moD e)).get 0 1 4 false=some (.p (J e.1))∧(AV.p (moD e)).get 1 1 4 false=some (.p (J e.2.1))∧(AV.p (moD e)).get 2 1 4 false=some (.p (J e.2.2.1))∧(AV.p (moD e)).get 3 1 4 false=some (.p (J e.2.2.2)):=⟨rfl,rfl,rfl,rfl⟩
theorem WA (e:Ex4) (x:Int):(AV.mk ((AV.p (moD e)).cells.take 0++(AV.p (J x)).cells++(AV.p (moD e)).cells.drop 1) = .p (moD (x,e.2))∧AV.mk ((AV.p (moD e)).cells.take 1++(AV.p (J x)).cells++(AV.p (moD e)).cells.drop 2) = .p (moD (e.1,x,e.2.2)))∧AV.mk ((AV.p (moD e)).cells.take 2++(AV.p (J x)).cells++(AV.p (moD e)).cells.drop 3) = .p (moD (e.1,e.2.1,x,e.2.2.2))∧AV.mk ((AV.p (moD e)).cells.take 3++(AV.p (J x)).cells++(AV.p (moD e)).cells.drop 4) = .p (moD (e.1,e.2.1,e.2.2.1,x)):=⟨⟨rfl,rfl⟩,rfl,rfl⟩
theorem WB (e:Ex4):(AV.p (moD e)).cells.length=4∧(AV.p (moD e)).cells.all AV.one=true∧(AV.p (moD e)).get 0 4 4 true=some (.p (moD e)):=⟨rfl,rfl,rfl⟩
theorem WC (x:Int):(AV.p (J x)).cells.length=1∧(AV.p (J x)).cells.all AV.one=true:=⟨rfl,rfl⟩
def WD:=an Wx (an @Wy (an @Wz (an @WA (an @WB (an @WC csI)))))
theorem Uq (i:Nat) (l:List D):fH i (.agg l) = .p (.agg l):=rfl
theorem Ur (T sz:Nat) (l:List D):dM T sz (.agg l) = .agg l:=rfl
theorem Us (l:List Tm) (n ord:Int):(AV.p (SmD l n ord)).get 0 1 3 false=some (.p (LM l))∧(AV.p (SmD l n ord)).get 1 2 3 true=some (.p (rgD n ord)):=⟨rfl,rfl⟩
theorem Ut (l:List Tm) (n ord:Int):(AV.p (SmD l n ord)).cells.length=3∧(AV.p (SmD l n ord)).cells.all AV.one=true∧(AV.p (SmD l n ord)).get 0 3 3 true=some (.p (SmD l n ord)):=⟨rfl,rfl,rfl⟩
abbrev zT:List AV:=[.p (.bool false),.p (.list 173 1 []),.p (.bool false),.p (.list 173 1 []),.p (J 0),.p (J 0),.p (J 0),.p (J 0)]
theorem Uu (t:Tm):AV.mk ((tI t).cells.map AV.p) = .p (tI t):=rfl
theorem Uv (t:Tm):cD ((tI t).cells.map AV.p)=some (tI t).cells:=rfl
theorem Uw (t:Tm):D.agg (tI t).cells=tI t:=rfl
def Ux:=an @Uv (an @Uw (an @Uq (an @Ur (an @Us (an @Ut (an @Uu (an @ite_self.{1} (an bl WD))))))))
def dQ (e:Ex4) (v:Nat) (x:Int):Ex4:=match v with
 |0=>(x,e.2)
 |1=>(e.1,x,e.2.2)
 |2=>(e.1,e.2.1,x,e.2.2.2)
 |_=>(e.1,e.2.1,e.2.2.1,x)
theorem nQ (e:Ex4){v:Nat} (h:v<4) (x:Int):moL (dQ e v x)=(moL e).set v x:=by
 match v,h with
 |0,_=>rfl
 |1,_=>rfl
 |2,_=>rfl
 |3,_=>rfl
def exE (e:Ex4) (v:Nat):Int:=(moL e).getD v 0
theorem jq {E:Int}{e:Ex4} (h:Gx E e){v:Nat} (hv:v<4):0≤exE e v∧exE e v≤E:=by
 obtain⟨h1,h2,h3,h4⟩:=h
 match v,hv with
 |0,_=>exact h1
 |1,_=>exact h2
 |2,_=>exact h3
 |3,_=>exact h4
theorem tu {E:Int}{e:Ex4} (h:Gx E e){v:Nat} (hv:v<4){x:Int} (h0:0≤x) (hx:x≤E):Gx E (dQ e v x):=by
 obtain⟨h1,h2,h3,h4⟩:=h
 match v,hv with
 |0,_=>exact⟨⟨h0,hx⟩,h2,h3,h4⟩
 |1,_=>exact⟨h1,⟨h0,hx⟩,h3,h4⟩
 |2,_=>exact⟨h1,h2,⟨h0,hx⟩,h4⟩
 |3,_=>exact⟨h1,h2,h3,h0,hx⟩
theorem nR (t:Tm){v:Nat} (h:v<4):(tI t).cells[4+v]? = some (J (exE t.2 v)):=by
 match v,h with
 |0,_=>rfl
 |1,_=>rfl
 |2,_=>rfl
 |3,_=>rfl
theorem tw (t:Tm) (x:Int){v:Nat} (h:v<4):cD (((tI t).cells.map AV.p).take (4+v)++[AV.p (J x)]++((tI t).cells.map AV.p).drop (4+v+1))=some (tI (t.1,dQ t.2 v x)).cells:=by
 match v,h with
 |0,_=>rfl
 |1,_=>rfl
 |2,_=>rfl
 |3,_=>rfl
theorem YM (t:Tm) (q:Rat):AV.mk ((AV.p (tI t)).cells.take 0++(AV.p (qI q)).cells++(AV.p (tI t)).cells.drop 4) = .p (tI (q,t.2)):=rfl
theorem YN (q:Rat):(AV.p (qI q)).get 0 4 4 true=some (.p (qI q))∧(AV.p (qI q)).cells.length=4∧(AV.p (qI q)).cells.all AV.one=true∧(AV.p (qI q)).isAgg=some true:=⟨rfl,rfl,rfl,rfl⟩
def fixT (v:Nat) (x:Rat) (a:List Tm):List Tm:=a.map fun t=>(t.1*x^(exE t.2 v).toNat,dQ t.2 v 0)
theorem tx {v:Nat} (h:v<4) (x:Rat) (a:List Tm):tl (fixT v x a)=Mp.fixL v x (tl a):=by
 unfold fixT Mp.fixL tl;rw[List.map_map,List.map_map];refine List.map_congr_left fun t _ => ?_
 simp only[Function.comp,nQ t.2 h];rfl
theorem gM (v:Nat) (x:Rat) (a:List Tm):(fixT v x a).length=a.length:=List.length_map _
theorem YO (v:Nat) (x:Rat) (a:List Tm){i:Nat} (h:i<a.length):fixT v x (a.take (i+1))=fixT v x (a.take i)++[((Sy.at_ a i).1*x^(exE (Sy.at_ a i).2 v).toNat,dQ (Sy.at_ a i).2 v 0)]:=by
 rw[gQ h];unfold fixT;rw[List.map_append];rfl
theorem tz {D X E Y:Nat}{c x:Rat} (hc:Db D X c) (hx:Db E Y x):∀k,Db (D*E^k) (X*Y^k) (c*x^k)
 |0=>by rw[Nat.pow_zero,Nat.pow_zero,Nat.mul_one,Nat.mul_one,Rat.pow_zero,Rat.mul_one];exact hc
 |k+1=>by
  have:=(tz hc hx k).mul hx;rw[Nat.pow_succ,Nat.pow_succ,←Nat.mul_assoc,←Nat.mul_assoc,Rat.pow_succ,←Rat.mul_assoc];exact this
theorem nS {D X E Y M:Nat}{c x:Rat} (hc:Db D X c) (hx:Db E Y x) (hE:0<E) (hY:0<Y){k:Nat} (hk:k≤M):Db (D*E^M) (X*(Y*E)^M) (c*x^k):=by
 have h:=(tz hc hx k).up (E:=E^(M-k)) (Nat.pow_pos hE);have e1:D*E^k*E^(M-k)=D*E^M:=by rw[Nat.mul_assoc,←Nat.pow_add,Nat.add_sub_cancel' hk]
 rw[e1] at h;refine h.mono ?_;rw[Nat.mul_pow,Nat.mul_assoc];refine Nat.mul_le_mul_left _ (Nat.mul_le_mul (Nat.pow_le_pow_right hY hk) (Nat.pow_le_pow_right hE (Nat.sub_le _ _)))
theorem tA {v:Nat} (hv:v<4){x:Rat}{a:List Tm}{D X E Y M:Nat}{G:Int} (ha:∀t∈a,Db D X t.1) (hx:Db E Y x) (hE:0<E) (hY:0<Y) (ga:∀t∈a,Gx G t.2) (hG:G≤M):∀t∈fixT v x a,Db (D*E^M) (X*(Y*E)^M) t.1:=fun t ht=>by
 obtain⟨y,hy,rfl⟩:=List.mem_map.1 ht;have:=jq (ga y hy) hv;exact nS (ha y hy) hx hE hY (by omega)
theorem nT {v:Nat} (hv:v<4){x:Rat}{a:List Tm}{G:Int} (ga:∀t∈a,Gx G t.2) (hG:0≤G):∀t∈fixT v x a,Gx G t.2:=fun t ht=>by
 obtain⟨y,hy,rfl⟩:=List.mem_map.1 ht;exact tu (ga y hy) hv (Int.le_refl _) hG
theorem YP (q:Rat):((qI q).cells.map AV.p).all AV.one=true:=rfl
theorem YQ (q:Rat):(qI q).isAgg=true:=rfl
def ci:=an @YQ (an @YP (an @YM (an @YN Ux)))
theorem YR (n ord:Int) (v:Nat) (hv:v<4) (x:Rat) (a:List Tm){D X E Y M p:Nat}{G:Int} (ha:∀t∈a,Db D X t.1) (hx:Db E Y x) (hE:0<E) (hY:0<Y) (ga:∀t∈a,Gx G t.2) (hG0:0≤G) (hG:G≤M) (hM:M≤1000000000000)
  (hl:a.length≤1000000000) (hD:D*E^M<2^p) (hX:a.length*(X*(Y*E)^M)<2^p) (hB:Bq p x) (hp:p≤2048000000000) :
  Con Tryz.prog AN 57 [SmD a n ord,J v,qI x] (SmD (cnT ord (fixT v x a)) n ord):=by
 have hge:∀t∈fixT v x a,Ge t.2:=fun t ht=>(nT hv ga hG0 t ht).ge (by omega)
 have hdb:=tA hv ha hx hE hY ga hG;have mc:=(m9 n ord (fixT v x a) hdb hge (by rw[gM];exact hl) hD (by rw[gM];exact hX) hp).x;have hlt:∀i,i≤a.length→(fixT v x (a.take i)).length=i:=fun i hi=>by rw[gM,List.length_take,Nat.min_eq_left hi]
 refine FV.con rfl (by simp) ?_;(repeat first|simp only[kV,simprocAttr,ci,Option.map_some,bh]|refine aN ?_);refine kp [1,3,5,6] ?_;(repeat first|simp only[kV,simprocAttr,ci,Option.map_some,bh]|refine aN ?_);refine kp [1,3,5,6,7] ?_;(repeat first|simp only[kV,simprocAttr,ci,Option.map_some,bh]|refine aN ?_);refine kp [1,3,5,6,7,11,12,13] ?_;(repeat first|simp only[kV,simprocAttr,ci,Option.map_some,bh]|refine aN ?_);refine aE (ι:=Nat) (fun i=>i≤a.length) (fun i=>⟨ai [(1,.p (J v)),(3,.ptr 3 0 0),(5,.ptr 5 0 0),(6,.ptr 6 0 0),(7,.slice 205 0 (fixT v x (a.take i)).length),(11,.p (LM a)),(12,.p (J a.length)),(13,.p (J i))],
  aw [(3,⟨96,3,.box (.p (SmD a n ord)),false⟩),(5,⟨88,4,.box (.p (qI x)),false⟩),(6,⟨96,3,.box (.p (SmD [] 0 0)),false⟩),(205,⟨TT,8,.row ((fixT v x (a.take i)).map tI),false⟩)]⟩) (fun i=>a.length-i) 0 (Nat.zero_le _) (Sub.nilG 7 205 TT 8) ?_
 intro i hi;by_cases h:i<a.length
 ·have hI:(i:Int)<(a.length:Int):=by omega
  have g1:=bY h;have hst:=YO v x a h;have hlen:=hlt i hi;have ht:=ha _ (at_mem h);have gt:=ga _ (at_mem h);have hxe:=jq gt hv;have hpos:1≤a.length:=by omega
  have hbq:∀k,k≤M→Bq p ((Sy.at_ a i).1*x^k):=fun k hk=>(nS ht hx hE hY hk).Bq hD (Nat.lt_of_le_of_lt (by have:=Nat.mul_le_mul_right (X*(Y*E)^M) hpos;omega) hX)
  generalize fixT v x (a.take i)=q at *;generalize Sy.at_ a i=t at *;obtain⟨c,e⟩:=t;simp only at hst ht gt hxe hbq;obtain⟨m,hm⟩:∃m:Nat,exE e v=(m:Int):=⟨(exE e v).toNat,by omega⟩
  have gv:=nR (c,e) hv;simp only[hm] at gv;rw[hm,Int.toNat_natCast] at hst;rw[hm] at hxe;have hv4:(v:Int)<4:=by omega
  (repeat first|with_reducible refine kp [1,3,5,6,7,11,12,13,14] ?_|simp only[kV,simprocAttr,ci,Option.map_some,hI]|refine aN ?_);(try simp only[kV,simprocAttr,ci,Option.map_some,hI,g1,h,gv,hv4,hv]);refine ulk ?_;(repeat first|simp only[kV,simprocAttr,ci,Option.map_some,hI,g1,h,gv,hv4,hv]|refine aN ?_);refine kp [1,3,5,6,7,11,12,13] ?_;(repeat first|simp only[kV,simprocAttr,ci,Option.map_some,hI,g1,h,gv,hv4,hv]|refine aN ?_);refine kp [1,3,5,6,7,9,11,12,13] ?_;(repeat first|simp only[kV,simprocAttr,ci,Option.map_some,hI,g1,h,gv,hv4,hv]|refine aN ?_);refine kp [1,3,5,6,7,9,11,12,13,20,21] ?_;(repeat first|simp only[kV,simprocAttr,ci,Option.map_some,hI,g1,h,gv,hv4,hv]|refine aN ?_);have hbx:=hB;refine aE (ι:=Nat) (fun k=>k≤m) (fun k=>⟨ai [(1,.p (J v)),(3,.ptr 3 0 0),(5,.ptr 5 0 0),(6,.ptr 6 0 0),(7,.slice 205 0 q.length),(9,.ptr 9 0 0),(11,.p (LM a)),(12,.p (J a.length)),(13,.p (J i)),(20,.p (J m)),(21,.p (J k))],
   aw [(3,⟨96,3,.box (.p (SmD a n ord)),false⟩),(5,⟨88,4,.box (.p (qI x)),false⟩),(6,⟨96,3,.box (.p (SmD [] 0 0)),false⟩),(205,⟨TT,8,.row (q.map tI),false⟩),(9,⟨TT,8,.box (.p (tI (c*x^k,e))),false⟩)]⟩) (fun k=>m-k) 0 (Nat.zero_le _) (by rw[Rat.pow_zero,Rat.mul_one];exact (Sub.toG [1,3,5,6,7,9,11,12,13,20,21] [34])) ?_
  intro k hk;by_cases h':k<m
  ·have hJ:(k:Int)<(m:Int):=by omega
   have c1:=uE (c*x^k) x p (hbq k (by omega)) hB hp;have e1:c*x^k*x=c*x^(k+1):=by rw[Rat.pow_succ,Rat.mul_assoc]
   rw[e1] at c1;(repeat first|with_reducible refine kp [1,3,5,6,7,9,11,12,13,20,21,22] ?_|simp only[kV,simprocAttr,ci,Option.map_some,hJ]|refine aN ?_);refine ulk ?_;(repeat first|with_reducible refine kp [1,3,5,6,7,9,11,12,13,20,21] ?_|simp only[kV,simprocAttr,ci,Option.map_some,hJ]|refine aN ?_);refine⟨_,cx (c1),ulc ?_⟩;(repeat first|with_reducible refine kp [1,3,5,6,7,9,11,12,13,20,21] ?_|simp only[kV,simprocAttr,ci,Option.map_some]|refine aN ?_);exact⟨k+1,h',(Sub.toG [1,3,5,6,7,9,11,12,13,20,21] [34]),by omega⟩
  ·have hJ:¬ (k:Int)<(m:Int):=by omega
   obtain rfl:k=m:=by omega
   have f1:(fixT v x (a.take (i+1))).map tI=q.map tI++[tI (c*x^k,dQ e v 0)]:=by rw[hst,List.map_append];rfl
   have f2:(fixT v x (a.take (i+1))).length=q.length+1:=by rw[hst,List.length_append];rfl
   generalize c*x^k=c2 at *;have pv:=tw (c2,e) 0 hv;have hv7:4+v≤7:=by omega
   (repeat first|with_reducible refine kp [1,3,5,6,7,9,11,12,13,20,21,22] ?_|simp only[kV,simprocAttr,ci,Option.map_some,hJ]|refine aN ?_);(try simp only[kV,simprocAttr,ci,Option.map_some,hJ,pv,hv4,hv,hv7]);refine ulk ?_;(repeat first|with_reducible refine kp [1,3,5,6,7,9,11,12,13] ?_|simp only[kV,simprocAttr,ci,Option.map_some,hJ,pv,hv4,hv,hv7]|refine aN ?_);exact⟨i+1,h,by rw[f1,f2];exact (Sub.toG [1,3,5,6,7,11,12,13] [9,34]),by omega⟩
 ·have hI:¬ (i:Int)<(a.length:Int):=by omega
  obtain rfl:i=a.length:=by omega
  rw[List.take_length];(repeat first|with_reducible refine kp [1,3,5,6,7,11,12,13,14] ?_|simp only[kV,simprocAttr,ci,Option.map_some,hI]|refine aN ?_);refine ulk ?_;(repeat first|with_reducible refine kp [3,6,7] ?_|simp only[kV,simprocAttr,ci,Option.map_some,hI]|refine aN ?_);refine⟨_,_,mc,ulc ?_⟩;(repeat first|with_reducible refine kp [6] ?_|simp only[kV,simprocAttr,ci,Option.map_some,ac,ah,ae,af]|refine aN ?_)
end Go.Proofs.YtbnhgnhgbhjkcaaGreat.M
