/- Lemmas. -/
import Derived.Test.YtbnhgnhgbhjkcaaGreatQ43
set_option linter.defProp false
set_option linter.unusedSimpArgs false
set_option linter.unusedVariables false
namespace Go.Proofs.YtbnhgnhgbhjkcaaGreat.M
set_option linter.unusedSimpArgs false
open Go.RowKit
def tl (l:List Tm):Mp.TL:=l.map fun x=>(x.1,moL x.2)
def ofM (x:Rat×Mp.Mo):Tm:=(x.1,x.2.getD 0 0,x.2.getD 1 0,x.2.getD 2 0,x.2.getD 3 0)
theorem zaa (l:List Tm):(tl l).map ofM=l:=by
 unfold tl;rw[List.map_map];have:(ofM ∘ fun x:Tm=>((x.1,moL x.2):Rat×Mp.Mo))=id:=by funext x;rfl
 rw[this,List.map_id]
theorem lJ (l:List Tm):Mp.Wd 4 (tl l):=fun x hx=>by
 obtain⟨y,_,rfl⟩:=z9Q.1 hx;rfl
theorem zab {l:Mp.TL} (h:Mp.Wd 4 l):tl (l.map ofM)=l:=by
 unfold tl;rw[List.map_map];refine (List.map_congr_left (g:=id) fun x hx => ?_).trans (List.map_id l);have h4:=h x hx;obtain⟨c,m⟩:=x;simp only at h4
 match m,h4 with
 |[a,b,c,d],_=>rfl
theorem lK {a b:Ex4} (h:moL a=moL b):a=b:=by
 obtain⟨a1,a2,a3,a4⟩:=a;obtain⟨b1,b2,b3,b4⟩:=b;simp only[moL,List.cons.injEq,and_true] at h;simp only[z97];exact h
def cnT (ord:Int) (l:List Tm):List Tm:=(Mp.canon ord (tl l)).map ofM
theorem iF (ord:Int) (l:List Tm):tl (cnT ord l)=Mp.canon ord (tl l):=zab (Mp.canon_wd (lJ l))
theorem lL (ord:Int) (l:List Tm):(cnT ord l).length≤l.length:=by
 have:=Mp.canon_len ord (tl l);unfold cnT;unfold tl at *;simpa using this
def joT (out:List Tm) (t:Tm):List Tm:=
 if 0<out.length∧(Sy.at_ out (out.length-1)).2=t.2 then out.set (out.length-1) ((Sy.at_ out (out.length-1)).1+t.1,(Sy.at_ out (out.length-1)).2) else out++[t]
theorem zac (ys:List Tm) (x:Tm):Sy.at_ (ys++[x]) ys.length=x:=by simp[Sy.at_]
theorem zad (t:Tm):joT [] t=[t]:=rfl
theorem uu (ys:List Tm) (x t:Tm):joT (ys++[x]) t=if x.2=t.2 then ys++[(x.1+t.1,x.2)] else ys++[x]++[t]:=by
 unfold joT;have e:(ys++[x]).length-1=ys.length:=by simp
 rw[e,zac];by_cases h:x.2=t.2
 ·rw[if_pos ⟨by simp,h⟩,if_pos h];simp
 ·rw[if_neg (fun hh=>h hh.2),if_neg h]
theorem zae (out:List Tm) (t:Tm):tl (joT out t)=Mp.joinR (tl out) (t.1,moL t.2):=by
 rcases List.eq_nil_or_concat out with rfl | ⟨ys,x,rfl⟩
 ·rfl
 ·rw[List.concat_eq_append,uu];have e:tl (ys++[x])=tl ys++[(x.1,moL x.2)]:=by simp[tl]
  unfold Mp.joinR;rw[e,List.getLast?_concat,List.dropLast_concat];simp only;by_cases h:x.2=t.2
  ·rw[if_pos h,if_pos (by rw[h])];simp[tl]
  ·rw[if_neg h,if_neg (fun hh=>h (lK hh))];simp[tl]
def joL (l:List Tm) (k:Nat):List Tm:=(l.take k).foldl joT []
theorem lM {l:List Tm}{k:Nat} (h:k<l.length):joL l (k+1)=joT (joL l k) (Sy.at_ l k):=by
 unfold joL;rw[f8 h,List.foldl_append];rfl
theorem zaf (out:List Tm) (t:Tm):(joT out t).length≤out.length+1∧0<(joT out t).length:=by
 unfold joT;split
 ·rename_i h;rw[z9R];exact⟨by omega,h.1⟩
 ·simp
theorem uv {l:List Tm}:∀{k:Nat},k≤l.length→(joL l k).length≤k∧(0<k→0<(joL l k).length)
 |0,_=>⟨by simp[joL],fun h=>absurd h (by omega)⟩
 |k+1,h=>by
  have ih:=(uv (l:=l) (k:=k) (by omega)).1;have:=zaf (joL l k) (Sy.at_ l k);rw[lM h];exact⟨by omega,fun _=>this.2⟩
theorem zag {out:List Tm}{t:Tm}{D X Y:Nat} (ho:∀x∈out,Db D X x.1) (ht:Db D Y t.1):∀x∈joT out t,Db D (X+Y) x.1:=by
 rcases List.eq_nil_or_concat out with rfl | ⟨ys,z,rfl⟩
 ·intro x hx;rw[zad,z9e] at hx;rw[hx];exact ht.mono (by omega)
 ·rw[List.concat_eq_append] at *;rw[uu];intro x hx;split at hx
  ·rcases z9y.1 hx with hx | hx
   ·exact (ho x (List.mem_append_left _ hx)).mono (by omega)
   ·rw[z9e] at hx;rw[hx];exact (ho z (by simp)).add ht
  ·rcases z9y.1 hx with hx | hx
   ·exact (ho x hx).mono (by omega)
   ·rw[z9e] at hx;rw[hx];exact ht.mono (by omega)
theorem oO {l:List Tm}{D X:Nat} (h:∀x∈l,Db D X x.1):∀{k:Nat},k≤l.length→∀x∈joL l k,Db D (k*X) x.1
 |0,_=>fun x hx=>by simp[joL] at hx
 |k+1,hk=>by
  rw[lM hk,z8Z];exact zag (oO h (by omega)) (h _ (at_mem hk))
theorem uw {ord:Int}{l:List Tm} (hs:Mp.Wso ord (tl l)):∀{k:Nat},k≤l.length→Mp.Jn ord (tl l) k (tl (joL l k))
 |0,_=>Mp.Jn.rf ord _
 |k+1,hk=>by
  rw[lM hk,zae];refine (uw hs (by omega)).step hs ?_;unfold tl;rw[z9B,z9P hk,show Sy.at_ l k=l[k]'hk by simp[Sy.at_,show k<l.length from hk]];rfl
theorem zah {ord:Int}{l:List Tm} (h:Sy.Srt (aI (ltT ord)) l 0 l.length):Mp.Wso ord (tl l):=by
 unfold Mp.Wso tl;rw[List.pairwise_map,List.pairwise_iff_getElem];intro i j hi hj hij;have:=h i j (by omega) hij hj;unfold aI ltT at this;rw[show Sy.at_ l i=l[i] by simp[Sy.at_,hi],show Sy.at_ l j=l[j] by simp[Sy.at_,hj]] at this;have h1:Mp.ahead ord (moL l[j].2) (moL l[i].2)=false:=by simpa using this
 cases h2:Mp.ahead ord (moL l[i].2) (moL l[j].2) with
 |true=>exact .inr rfl
 |false=>exact .inl (Mp.ahead_tot (ord:=ord) rfl h2 h1)
theorem zai (q:List Tm):tl (nzF q)=(tl q).filter fun x=>x.1≠0:=by
 unfold tl nzF;rw[List.filter_map];congr 1
 apply List.filter_congr;intro x _;unfold zr;simp
theorem ux {ord:Int}{l s:List Tm} (hs:Sy.Srt (aI (ltT ord)) s 0 s.length) (hp:s.Perm l):nzF (joL s s.length)=cnT ord l:=by
 have hj:=uw (zah hs) (z95 _);have h1:(tl s).length=s.length:=by simp[tl]
 rw[←h1] at hj;have hd:=hj.done (n:=4) (l0:=tl l) (hp.map _) (lJ l) (lJ _);rw[h1] at hd;rw[←zai] at hd;rw[←zaa (nzF _),hd];rfl
theorem zaj {ord:Int}{l s:List Tm}{D X:Nat} (hs:Sy.Srt (aI (ltT ord)) s 0 s.length) (hp:s.Perm l) (h:∀x∈l,Db D X x.1):∀x∈cnT ord l,Db D (l.length*X) x.1:=fun x hx=>by
 rw[←ux hs hp] at hx;have:=oO (l:=s) (D:=D) (X:=X) (fun y hy=>h y (hp.mem_iff.1 hy)) (z95 _) x (List.mem_filter.1 hx).1
 rwa[hp.length_eq] at this
set_option linter.unusedSimpArgs false
set_option maxRecDepth 20000
set_option maxHeartbeats 4000000
open Go.RowKit
theorem Sub.revG {OT:List TypeId} (t:Nat) (d:D){R:List (Nat×AV)}{M:List (Nat×AObj)} (hd:(ar R t).toD false (au M) 20=some d):Sub OT ⟨ar R,au M⟩ ⟨ar (ej t (.p d) R),au M⟩:=by
 rw[←gU];exact Sub.reveal t d hd
theorem UC (T sz:Nat) (l:List D) (a b:D):bL 1 T sz l [a,b]=⟨ar [(0,.p a),(1,.slice 999999 0 l.length)],au [(999999,⟨T,sz,.row l,false⟩)]⟩:=by
 unfold bL;congr 1
 funext i
 match i with
 |0=>rfl
 |1=>rfl
 |i+2=>simp[ar]
theorem UD (G:FuncId→List D→D→Prop) (dd:Option Nat) (ag:Bool) (sz:Nat) (x:Opd) (g:Option (Nat×Bool)) (K:St→Prop) (s:St):step G ⟨dd,.loadP ag sz x,g⟩ K s=fin dd K (ev (.loadP ag sz x) (dd.getD 0) s):=rfl
theorem UE (ag:Bool) (sz:Nat) (x:Opd) (id:Nat) (s:St):ev (.loadP ag sz x) id s=(match x.ev s.r with
  |.p (.ref d)=>if d.isAgg=ag then some (decide (d.cells.length=sz∧0<sz),.p d,s) else none
  |_=>none):=rfl
theorem UF (G:FuncId→List D→D→Prop) (dd:Option Nat) (sz:Nat) (x i:Opd) (g:Option (Nat×Bool)) (K:St→Prop) (s:St):step G ⟨dd,.indexAddrP sz x i,g⟩ K s=fin dd K (ev (.indexAddrP sz x i) (dd.getD 0) s):=rfl
theorem UG (sz:Nat) (x i:Opd) (id:Nat) (s:St):ev (.indexAddrP sz x i) id s=(match x.ev s.r,asI (i.ev s.r) with
  |.p (.list _ sz' t),some n=>if sz=sz' then some (decide (0≤n∧n<t.length),.p (.ref (t.getD n.toNat default)),s) else none
  |_,_=>none):=rfl
theorem UH (n ord:Int):(rgD n ord).isAgg=true:=rfl
theorem UI (n ord:Int):(rgD n ord).cells=[J n,J ord]:=rfl
theorem UJ (k:Nat) (n ord:Int) (a b c d:AV):cJ [AV.p (.list 145 8 []),.p (J 0),.p (J 0)] (ar [(2,a),(4,b),(5,c),(52,.p (rgD n ord)),(50,d),(51,.slice 205 0 k)]) [(0,1,Opd.t 51),(1,2,Opd.t 52)]=some [.slice 205 0 k,.p (J n),.p (J ord)]:=rfl
theorem UK (k:Nat) (n ord:Int):AV.mk [.slice 205 0 k,.p (J n),.p (J ord)] = .agg [.slice 205 0 k,.p (J n),.p (J ord)]:=rfl
theorem UL (k:Nat) (n ord:Int):(AV.agg [.slice 205 0 k,.p (J n),.p (J ord)]).cells.length=3:=rfl
theorem UM (k:Nat) (n ord:Int):(AV.agg [.slice 205 0 k,.p (J n),.p (J ord)]).cells.all AV.one=true:=rfl
theorem UN (n ord:Int) (a b c d:AV):cJ [AV.p (.list 145 8 []),.p (J 0),.p (J 0)] (ar [(2,a),(4,b),(5,c),(52,.p (rgD n ord)),(50,d),(51,.p (.list TT 8 []))]) [(0,1,Opd.t 51),(1,2,Opd.t 52)]=some [.p (LM []),.p (J n),.p (J ord)]:=rfl
theorem UO (n ord:Int):AV.mk [.p (LM []),.p (J n),.p (J ord)] = .p (.agg [LM [],J n,J ord]):=rfl
theorem UP (n ord:Int):(AV.p (.agg [LM [],J n,J ord])).cells.length=3:=rfl
theorem UQ (n ord:Int):(AV.p (.agg [LM [],J n,J ord])).cells.all AV.one=true:=rfl
def UR:=an @UN (an @UO (an @UP (@UQ)))
def US:=an @UJ (an @UK (an @UL (@UM)))
abbrev SmD (l:List Tm) (n ord:Int):D:=.agg [LM l,J n,J ord]
theorem UT (s:List D) (o2:AObj) (row:List D) (l:List Tm) (n ord:Int) (h1:row.take l.length=l.map tI) (h2:l.length≤row.length):ResLt ⟨ar [(4,.ptr 4 0 0)],au [(999999,⟨TT,8,.row s,false⟩),(2,o2),(4,⟨96,3,.box (.agg [.slice 205 0 l.length,.p (J n),.p (J ord)]),false⟩),(205,⟨TT,8,.row row,false⟩)]⟩ [(4,some (true,3))] (SmD l n ord):=by
 refine .plain ?_ (fun m h=>by cases h);generalize hM:au [(999999,(⟨TT,8,.row s,false⟩:AObj)),(2,o2),(4,⟨96,3,.box (.agg [.slice 205 0 l.length,.p (J n),.p (J ord)]),false⟩),(205,⟨TT,8,.row row,false⟩)]=M;have m4:M 4=some ⟨96,3,.box (.agg [.slice 205 0 l.length,.p (J n),.p (J ord)]),false⟩:=by rw[←hM];rfl
 have m5:M 205=some ⟨TT,8,.row row,false⟩:=by rw[←hM];rfl
 have e1:ah (dY ⟨ar [(4,.ptr 4 0 0)],M⟩) (4,some (true,3))=some (.agg [.slice 205 0 l.length,.p (J n),.p (J ord)]):=by
  have:(dY ⟨ar [(4,.ptr 4 0 0)],M⟩).m 4=M 4:=rfl;unfold ah;simp only[show (dY ⟨ar [(4,.ptr 4 0 0)],M⟩).r 4 = .ptr 4 0 0 from rfl,this,m4];rfl
 have e2:AV.toD true (dY ⟨ar [(4,.ptr 4 0 0)],M⟩).m 20 (.agg [.slice 205 0 l.length,.p (J n),.p (J ord)])=some (SmD l n ord):=by
  have h205:(dY ⟨ar [(4,.ptr 4 0 0)],M⟩).m 205=M 205:=rfl;rw[m5] at h205;simp[AV.toD,dh,h205,h2,h1]
 unfold ai aq aq;rw[e1];simp only[e2]
theorem aZ (x:Rat):(qI x).cells.length=4:=rfl
theorem a6 (x:Rat):(qI x).cells.all D.one=true:=rfl
theorem UV (y:Tm) (c:Rat):D.agg ((tI y).cells.take 0++(qI c).cells++(tI y).cells.drop 4)=tI (c,y.2):=rfl
def bp:=an @aZ (an @a6 (an @UV (an @UD (an @UE (an @UF (an @UG (an @UH (an @UI aE))))))))
noncomputable def srtM (n ord:Int) (l:List Tm):List Tm:=iV (rgD n ord) (ltT ord) l
theorem sw (n ord:Int){l:List Tm} (hg:∀x∈l,Ge x.2) (hl:l.length≤1000000000):Sy.Srt (aI (ltT ord)) (srtM n ord l) 0 (srtM n ord l).length∧(srtM n ord l).Perm l:=by
 obtain⟨h1,h2⟩:=vZ (vn ord) (vm n ord l hg) hl;exact⟨by unfold srtM;rw[h2.length_eq];exact h1,h2⟩
theorem kY (n ord:Int) (l:List Tm){D X b:Nat} (hd:∀x∈l,Db D X x.1) (hg:∀x∈l,Ge x.2) (hl:l.length≤1000000000) (hD:D<2^b) (hX:l.length*X<2^b) (hb:b≤2048000000000) :
  du Tryz.prog AN 84 1 [rgD n ord,LM l] TT 8 (l.map tI) (SmD (cnT ord l) n ord) ((srtM n ord l).map tI):=by
 have so:du Tryz.prog AN 109 0 [LM l,cfD (rgD n ord)] TT 8 (l.map tI) (.tup []) ((srtM n ord l).map tI):=zb3 (rgD n ord) l _ _ (vn ord) (vm n ord l hg) hl;obtain⟨s1,s2⟩:=sw n ord hg hl;have hsl:=s2.length_eq;refine⟨by decide,by decide,rfl,by simpa using hsl,fun h0 => ?_,fun h0 => ?_⟩
 ·obtain rfl:l=[]:=by simpa using h0
  have hs0:srtM n ord []=[]:=s2.eq_nil;rw[hs0] at so;have c1:=so.x;have c3:=(vu [] (n:=b) (fun x hx=>by cases hx) hb (by simp)).x;have hI:¬ (0:Int)<0:=by omega
  show Con _ _ _ _ (SmD [] n ord)
  refine m6.con rfl (by simp) ?_;(repeat first|simp only[kV,simprocAttr,bp,aV,Option.map_some,z8S,ax]|refine aN ?_);refine⟨_,(Sub.to [1,2,4] (by rfl)).tr (Sub.showG 2 2 _ (.ref (rgD n ord)) (by rfl) (by rfl)),?_⟩;refine ulk ?_;(repeat first|simp only[kV,simprocAttr,bp,aV,Option.map_some,z8S]|refine aN ?_);refine⟨_,_,c1,?_⟩;(repeat first|simp only[kV,simprocAttr,bp,aV,Option.map_some,z8S]|refine aN ?_);refine kp [1,2,4] ?_;(repeat first|simp only[kV,simprocAttr,bp,aV,Option.map_some,z8S]|refine aN ?_);refine kp [1,2,4,5] ?_;(repeat first|simp only[kV,simprocAttr,bp,aV,Option.map_some,z8S]|refine aN ?_);refine kp [2,4,5,12,13,14] ?_;(repeat first|simp only[kV,simprocAttr,bp,aV,Option.map_some,z8S]|refine aN ?_);refine aB (ι:=Unit) (fun _=>True) (fun _=>⟨ar [(2,.p (.ref (rgD n ord))),(4,.ptr 4 0 0),(5,.p (LM [])),(12,.p (LM [])),(13,.p (J 0)),(14,.p (J 0))],
   au [(2,⟨94,2,.box (.p (rgD n ord)),true⟩),(4,⟨96,3,.box (.p (SmD [] 0 0)),false⟩)]⟩) (fun _=>0) () trivial ((Sub.revG 5 (LM []) (by rfl)).tr (Sub.toG [2,4,5,12,13,14] [7,47])) ?_
  intro _ _;(repeat first|with_reducible refine kp [2,4,5,12,13,14,15] ?_|simp only[kV,simprocAttr,bp,aV,Option.map_some,z8S,hI]|refine aN ?_);refine ulk ?_;(repeat first|with_reducible refine kp [2,4,5] ?_|simp only[kV,simprocAttr,bp,aV,Option.map_some,z8S,hI]|refine aN ?_);refine⟨_,_,c3,ulc ?_⟩;(repeat first|with_reducible refine kp [4] ?_|simp only[kV,simprocAttr,bp,aV,Option.map_some,z8S,af,ai,aq,ah,UR]|refine aN ?_);rfl
 ·have c1:=so.x;have hlp:0<l.length:=by
   rcases l with _ | ⟨x,l⟩
   ·exact absurd rfl h0
   ·simp
  have hsd:∀x∈srtM n ord l,Db D X x.1:=fun x hx=>hd x (s2.mem_iff.1 hx)
  have hcn:=ux s1 s2;generalize srtM n ord l=s at *;refine m6.conL rfl (by simp) rfl (by simp) ?_;(repeat first|simp only[kV,simprocAttr,bp,aV,Option.map_some,z8S,UC]|refine aN ?_);refine⟨_,(Sub.to [1,2,4] (by rfl)).tr (Sub.showG 2 2 _ (.ref (rgD n ord)) (by rfl) (by rfl)),?_⟩;refine ulk ?_;(repeat first|simp only[kV,simprocAttr,bp,aV,Option.map_some,z8S]|refine aN ?_);refine⟨_,_,c1,?_⟩;(repeat first|simp only[kV,simprocAttr,bp,aV,Option.map_some,z8S,h0]|refine aN ?_);refine kp [1,2,4] ?_;(repeat first|simp only[kV,simprocAttr,bp,aV,Option.map_some,z8S,h0]|refine aN ?_);refine kp [1,2,4,5] ?_;(repeat first|simp only[kV,simprocAttr,bp,aV,Option.map_some,z8S,h0]|refine aN ?_);refine kp [2,4,5,12,13,14] ?_;(repeat first|simp only[kV,simprocAttr,bp,aV,Option.map_some,z8S,h0]|refine aN ?_);refine aB (ι:=Nat) (fun k=>k≤l.length) (fun k=>⟨ar [(2,.p (.ref (rgD n ord))),(4,.ptr 4 0 0),(5,.slice 205 0 (joL s k).length),(12,.slice 999999 0 l.length),(13,.p (J l.length)),(14,.p (J k))],
   au [(999999,⟨TT,8,.row (s.map tI),false⟩),(2,⟨94,2,.box (.p (rgD n ord)),true⟩),(4,⟨96,3,.box (.p (SmD [] 0 0)),false⟩),(205,⟨TT,8,.row ((joL s k).map tI),false⟩)]⟩) (fun k=>l.length-k) 0 (z9O _) (Sub.nilG 5 205 TT 8) ?_
  intro k hk;obtain⟨q1,q2⟩:=uv (l:=s) (k:=k) (by omega);have q3:=oO hsd (k:=k) (by omega);by_cases h:k<l.length
  ·have hI:(k:Int)<(l.length:Int):=by omega
   have g1:=co (l:=s) (i:=k) (by omega);have hks:k<s.length:=by omega
   have hst:=lM (l:=s) (k:=k) (by omega);have ht1:Bq b (Sy.at_ s k).1:=(hsd _ (at_mem hks)).Bq hD (z9K (by have:=z92 X hlp;omega) hX);generalize joL s k=q at *;generalize Sy.at_ s k=t at *;by_cases hq0:0<q.length
   ·obtain⟨m,hm⟩:∃m,q.length=m+1:=⟨q.length-1,by omega⟩
    have e0:((q.length:Nat):Int)-1=(m:Int):=by omega
    have e1:(0:Int)≤(m:Int):=by omega
    have hmq:m<q.length:=by omega
    have g2:=co (l:=q) (i:=m) hmq;have hq1:Bq b (Sy.at_ q m).1:=(q3 _ (at_mem hmq)).Bq hD (z9K (z92 X (by omega)) hX);have hm1:q.length-1=m:=by omega
    rw[joT,hm1] at hst;by_cases he:(Sy.at_ q m).2=t.2
    ·have he1:([(Sy.at_ q m).2.1,(Sy.at_ q m).2.2.1,(Sy.at_ q m).2.2.2.1,(Sy.at_ q m).2.2.2.2]=[t.2.1,t.2.2.1,t.2.2.2.1,t.2.2.2.2])=True:=eq_true (congrArg moL he);rw[if_pos ⟨hq0,he⟩] at hst;have c2:=zbe (Sy.at_ q m).1 t.1 b hq1 ht1 hb;have f1:(joL s (k+1)).map tI=(q.map tI).set m (tI ((Sy.at_ q m).1+t.1,(Sy.at_ q m).2)):=by rw[hst,List.map_set]
     have f2:(joL s (k+1)).length=q.length:=by rw[hst,z9R]
     (repeat first|with_reducible refine kp [2,4,5,12,13,14,15] ?_|simp only[kV,simprocAttr,bp,aV,Option.map_some,z8S,hI]|refine aN ?_);(try simp only[kV,simprocAttr,bp,aV,Option.map_some,z8S,hI,g1,hks,e0,e1,hmq,g2]);refine ulk ?_;(repeat first|with_reducible refine kp [2,4,5,7,8,12,13,14,32] ?_|simp only[kV,simprocAttr,bp,aV,Option.map_some,z8S,hI,g1,hks,e0,e1,hmq,g2]|refine aN ?_);(try simp only[kV,simprocAttr,bp,aV,Option.map_some,z8S,he1,g2,hmq]);refine ulk ?_;(repeat first|simp only[kV,simprocAttr,bp,aV,Option.map_some,z8S,he1,g2,hmq]|refine aN ?_);refine⟨_,cx (c2),ulc ?_⟩;(repeat first|with_reducible refine kp [2,4,5,12,13,14] ?_|simp only[kV,simprocAttr,bp,aV,Option.map_some,z8S,g2,hmq]|refine aN ?_);exact⟨k+1,h,by rw[f1,f2];exact (Sub.toG [2,4,5,12,13,14] [7,47]),by omega⟩
    ·have he1:([(Sy.at_ q m).2.1,(Sy.at_ q m).2.2.1,(Sy.at_ q m).2.2.2.1,(Sy.at_ q m).2.2.2.2]=[t.2.1,t.2.2.1,t.2.2.2.1,t.2.2.2.2])=False:=eq_false fun e=>he (lK e)
     rw[if_neg (fun hh=>he hh.2)] at hst;have f1:(joL s (k+1)).map tI=q.map tI++[tI t]:=by rw[hst,z9U];rfl
     have f2:(joL s (k+1)).length=q.length+1:=by rw[hst,z96];rfl
     (repeat first|with_reducible refine kp [2,4,5,12,13,14,15] ?_|simp only[kV,simprocAttr,bp,aV,Option.map_some,z8S,hI]|refine aN ?_);(try simp only[kV,simprocAttr,bp,aV,Option.map_some,z8S,hI,g1,hks,e0,e1,hmq,g2]);refine ulk ?_;(repeat first|with_reducible refine kp [2,4,5,7,8,12,13,14,32] ?_|simp only[kV,simprocAttr,bp,aV,Option.map_some,z8S,hI,g1,hks,e0,e1,hmq,g2]|refine aN ?_);(try simp only[kV,simprocAttr,bp,aV,Option.map_some,z8S,he1,g2,hmq]);refine ulk ?_;(repeat first|with_reducible refine kp [2,4,5,12,13,14] ?_|simp only[kV,simprocAttr,bp,aV,Option.map_some,z8S,he1,g2,hmq]|refine aN ?_);exact⟨k+1,h,by rw[f1,f2];exact (Sub.toG [2,4,5,12,13,14] [7,47]),by omega⟩
   ·have hqn:q=[]:=by
     rcases q with _ | ⟨z,q⟩
     ·rfl
     ·exact absurd (Nat.succ_pos _) hq0
    subst hqn;have hst2:joL s (k+1)=[t]:=by rw[hst];rfl
    have f1:(joL s (k+1)).map tI=[tI t]:=by rw[hst2];rfl
    have f2:(joL s (k+1)).length=1:=by rw[hst2];rfl
    have e1:¬ (0:Int)≤0-1:=by omega
    (repeat first|with_reducible refine kp [2,4,5,12,13,14,15] ?_|simp only[kV,simprocAttr,bp,aV,Option.map_some,z8S,hI]|refine aN ?_);(try simp only[kV,simprocAttr,bp,aV,Option.map_some,z8S,hI,g1,hks,e1,List.length_nil,List.map_nil]);refine ulk ?_;(repeat first|with_reducible refine kp [2,4,5,7,8,12,13,14,32] ?_|simp only[kV,simprocAttr,bp,aV,Option.map_some,z8S,hI,g1,hks,e1,List.length_nil,List.map_nil]|refine aN ?_);refine ulk ?_;(repeat first|with_reducible refine kp [2,4,5,12,13,14] ?_|simp only[kV,simprocAttr,bp,aV,Option.map_some,z8S,List.length_nil,List.map_nil]|refine aN ?_);exact⟨k+1,h,by rw[f1,f2];exact (Sub.toG [2,4,5,12,13,14] [7,47]),by omega⟩
  ·have hI:¬ (k:Int)<(l.length:Int):=by omega
   obtain rfl:k=l.length:=by omega
   rw[hsl] at hcn;have q4:=q2 hlp;have hqn:¬ (joL s l.length).map tI=[]:=fun e=>by
    rw[List.map_eq_nil_iff] at e;rw[e] at q4;cases q4
   have hbc:Bc b (joL s l.length):=fun x hx=>(q3 x hx).Bq hD hX
   have c3:=(vu (joL s l.length) hbc hb (by omega)).x;rw[hcn] at c3;generalize joL s l.length=q at *;(repeat first|with_reducible refine kp [2,4,5,12,13,14,15] ?_|simp only[kV,simprocAttr,bp,aV,Option.map_some,z8S,hI]|refine aN ?_);refine ulk ?_;(repeat first|with_reducible refine kp [2,4,5] ?_|simp only[kV,simprocAttr,bp,aV,Option.map_some,z8S,hI]|refine aN ?_);refine⟨_,_,c3,ulc ?_⟩;(repeat first|with_reducible refine kp [4] ?_|simp only[kV,simprocAttr,bp,aV,Option.map_some,z8S,af,ai,aq,ah,hqn,US]|refine aN ?_);have hdl:(dlF q).take (cnT ord l).length=(cnT ord l).map tI:=by
    rw[←hcn];unfold dlF;exact List.take_left' (by simp)
   have hln:(cnT ord l).length≤(dlF q).length:=by rw[vt,←hcn];exact vr q
   exact UT _ _ _ _ _ _ hdl hln
set_option linter.unusedSimpArgs false
set_option maxRecDepth 20000
set_option maxHeartbeats 1000000
open Go.RowKit
def Gx (E:Int) (e:Ex4):Prop:=(0≤e.1∧e.1≤E)∧(0≤e.2.1∧e.2.1≤E)∧(0≤e.2.2.1∧e.2.2.1≤E)∧(0≤e.2.2.2∧e.2.2.2≤E)
theorem Gx.ge {E:Int}{e:Ex4} (h:Gx E e) (hE:E≤1000000000000):Ge e:=by
 unfold Gx at h;unfold Ge;omega
def eY (a b:Ex4):Ex4:=(a.1+b.1,a.2.1+b.2.1,a.2.2.1+b.2.2.1,a.2.2.2+b.2.2.2)
theorem Gx.add {E F:Int}{a b:Ex4} (h:Gx E a) (k:Gx F b):Gx (E+F) (eY a b):=by
 unfold Gx eY at *;simp only;omega
def plK (a b:Ex4):Nat→Ex4
 |0=>a
 |1=>(a.1+b.1,a.2)
 |2=>(a.1+b.1,a.2.1+b.2.1,a.2.2)
 |3=>(a.1+b.1,a.2.1+b.2.1,a.2.2.1+b.2.2.1,a.2.2.2)
 |_=>eY a b
def kI:Nat→Int
 |0=>0
 |1=>1
 |2=>2
 |3=>3
 |_=>4
theorem VD:((kI 0=0∧kI 1=1)∧kI 2=2∧kI 3=3)∧kI 4=4:=by decide
theorem VE (a b:Ex4):plK a b 0=a∧plK a b 1=(a.1+b.1,a.2)∧plK a b 2=(a.1+b.1,a.2.1+b.2.1,a.2.2)∧plK a b 3=(a.1+b.1,a.2.1+b.2.1,a.2.2.1+b.2.2.1,a.2.2.2)∧plK a b 4=eY a b:=⟨rfl,rfl,rfl,rfl,rfl⟩
theorem VF (e:Ex4):(AV.p (moD e)).get 0 1 4 false=some (.p (J e.1))∧(AV.p (moD e)).get 1 1 4 false=some (.p (J e.2.1))∧(AV.p (moD e)).get 2 1 4 false=some (.p (J e.2.2.1))∧(AV.p (moD e)).get 3 1 4 false=some (.p (J e.2.2.2)):=⟨rfl,rfl,rfl,rfl⟩
theorem VG (e:Ex4) (x:Int):(AV.mk ((AV.p (moD e)).cells.take 0++(AV.p (J x)).cells++(AV.p (moD e)).cells.drop 1) = .p (moD (x,e.2))∧AV.mk ((AV.p (moD e)).cells.take 1++(AV.p (J x)).cells++(AV.p (moD e)).cells.drop 2) = .p (moD (e.1,x,e.2.2)))∧AV.mk ((AV.p (moD e)).cells.take 2++(AV.p (J x)).cells++(AV.p (moD e)).cells.drop 3) = .p (moD (e.1,e.2.1,x,e.2.2.2))∧AV.mk ((AV.p (moD e)).cells.take 3++(AV.p (J x)).cells++(AV.p (moD e)).cells.drop 4) = .p (moD (e.1,e.2.1,e.2.2.1,x)):=⟨⟨rfl,rfl⟩,rfl,rfl⟩
theorem VH (e:Ex4):(AV.p (moD e)).cells.length=4∧(AV.p (moD e)).cells.all AV.one=true∧(AV.p (moD e)).get 0 4 4 true=some (.p (moD e)):=⟨rfl,rfl,rfl⟩
theorem VI (x:Int):(AV.p (J x)).cells.length=1∧(AV.p (J x)).cells.all AV.one=true:=⟨rfl,rfl⟩
def a8:=an VD (an @VE (an @VF (an @VG (an @VH (an @VI csI)))))
theorem VJ (a b:Ex4) (ha:Ge a) (hb:Ge b):Con Tryz.prog [] 87 [moD a,moD b] (moD (eY a b)):=by
 unfold Ge at ha hb;refine re.con rfl (by simp) ?_;(repeat first|simp only[kV,simprocAttr,a8,ax]|refine aN ?_);refine kp [2,3,4] ?_;(repeat first|simp only[kV,simprocAttr,a8,ax]|refine aN ?_);refine kp [2,3,4,6] ?_;(repeat first|simp only[kV,simprocAttr,a8,ax]|refine aN ?_);refine aB (ι:=Nat) (fun k=>k≤4) (fun k=>⟨ar [(2,.ptr 2 0 0),(3,.ptr 3 0 0),(4,.ptr 4 0 0),(6,.p (J (kI k)))],au [(2,⟨143,4,.box (.p (moD (plK a b k))),false⟩),(3,⟨143,4,.box (.p (moD b)),false⟩),(4,⟨143,4,.box (.p (moD (0,0,0,0))),false⟩)]⟩) (fun k=>4-k) 0 (z9O _) (Sub.toG [2,3,4,6] []) ?_;intro k hk
 match k,hk with
 |0,_ =>
  (repeat first|with_reducible refine kp [2,3,4,6,7] ?_|simp only[kV,simprocAttr,a8]|refine aN ?_);refine ulk ?_;(repeat first|with_reducible refine kp [2,3,4,5,6] ?_|simp only[kV,simprocAttr,a8]|refine aN ?_);exact⟨1,by decide,(Sub.toG [2,3,4,6] []),by decide⟩
 |1,_ =>
  (repeat first|with_reducible refine kp [2,3,4,6,7] ?_|simp only[kV,simprocAttr,a8]|refine aN ?_);refine ulk ?_;(repeat first|with_reducible refine kp [2,3,4,5,6] ?_|simp only[kV,simprocAttr,a8]|refine aN ?_);exact⟨2,by decide,(Sub.toG [2,3,4,6] []),by decide⟩
 |2,_ =>
  (repeat first|with_reducible refine kp [2,3,4,6,7] ?_|simp only[kV,simprocAttr,a8]|refine aN ?_);refine ulk ?_;(repeat first|with_reducible refine kp [2,3,4,5,6] ?_|simp only[kV,simprocAttr,a8]|refine aN ?_);exact⟨3,by decide,(Sub.toG [2,3,4,6] []),by decide⟩
 |3,_ =>
  (repeat first|with_reducible refine kp [2,3,4,6,7] ?_|simp only[kV,simprocAttr,a8]|refine aN ?_);refine ulk ?_;(repeat first|with_reducible refine kp [2,3,4,5,6] ?_|simp only[kV,simprocAttr,a8]|refine aN ?_);exact⟨4,by decide,(Sub.toG [2,3,4,6] []),by decide⟩
 |4,_ =>
  (repeat first|with_reducible refine kp [2,3,4,6,7] ?_|simp only[kV,simprocAttr,a8]|refine aN ?_);refine ulk ?_;(repeat first|with_reducible refine kp [2,4] ?_|simp only[kV,simprocAttr,a8,af,ai,aq,ah]|refine aN ?_)
set_option linter.unusedSimpArgs false
set_option maxRecDepth 20000
set_option maxHeartbeats 4000000
open Go.RowKit
def cG (x:Tm) (b:List Tm):List Tm:=b.map fun y=>(x.1*y.1,eY x.2 y.2)
def mulT (a b:List Tm):List Tm:=a.flatMap fun x=>cG x b
theorem S6 (a b:List Tm):tl (mulT a b)=Mp.mulL (tl a) (tl b):=by
 unfold mulT Mp.mulL tl cG;rw[List.map_flatMap,List.flatMap_map];congr 1
 funext x
 rw[List.map_map,List.map_map];congr 1
theorem rQ (x:Tm) (b:List Tm):(cG x b).length=b.length:=z9V _
theorem kQ (a b:List Tm):(mulT a b).length=a.length*b.length:=by
 unfold mulT;induction a with
 |nil=>simp
 |cons x a ih=>rw[List.flatMap_cons,z96,ih,rQ,List.length_cons,z8Z,Nat.add_comm]
theorem S7 (a b:List Tm){i:Nat} (h:i<a.length):mulT (a.take (i+1)) b=mulT (a.take i) b++cG (Sy.at_ a i) b:=by
 rw[f8 h];unfold mulT;rw[List.flatMap_append];simp
theorem S8 (x:Tm) (b:List Tm){j:Nat} (h:j<b.length):cG x (b.take (j+1))=cG x (b.take j)++[(x.1*(Sy.at_ b j).1,eY x.2 (Sy.at_ b j).2)]:=by
 rw[f8 h];unfold cG;rw[z9U];rfl
theorem rR {a b:List Tm}{D X E Y:Nat} (ha:∀x∈a,Db D X x.1) (hb:∀x∈b,Db E Y x.1):∀x∈mulT a b,Db (D*E) (X*Y) x.1:=fun x hx=>by
 obtain⟨y,hy,hx⟩:=List.mem_flatMap.1 hx;obtain⟨z,hz,rfl⟩:=z9Q.1 hx;exact (ha y hy).mul (hb z hz)
theorem rS {a b:List Tm}{E F:Int} (ha:∀x∈a,Gx E x.2) (hb:∀x∈b,Gx F x.2):∀x∈mulT a b,Gx (E+F) x.2:=fun x hx=>by
 obtain⟨y,hy,hx⟩:=List.mem_flatMap.1 hx;obtain⟨z,hz,rfl⟩:=z9Q.1 hx;exact (ha y hy).add (hb z hz)
theorem S9 (i:Nat) (l:List D):dR i (.agg l) = .p (.agg l):=rfl
theorem Ta (T sz:Nat) (l:List D):cQ T sz (.agg l) = .agg l:=rfl
theorem Tb (l:List Tm) (n ord:Int):(AV.p (SmD l n ord)).get 0 1 3 false=some (.p (LM l))∧(AV.p (SmD l n ord)).get 1 2 3 true=some (.p (rgD n ord)):=⟨rfl,rfl⟩
theorem Tc (l:List Tm) (n ord:Int):(AV.p (SmD l n ord)).cells.length=3∧(AV.p (SmD l n ord)).cells.all AV.one=true∧(AV.p (SmD l n ord)).get 0 3 3 true=some (.p (SmD l n ord)):=⟨rfl,rfl,rfl⟩
abbrev zT:List AV:=[.p (.bool false),.p (.list 173 1 []),.p (.bool false),.p (.list 173 1 []),.p (J 0),.p (J 0),.p (J 0),.p (J 0)]
theorem rT (i j:Nat) (q:Rat) (e:Ex4) (R:List (Nat×AV)) (h1:ar R i = .p (qI q)) (h2:ar R j = .p (moD e)):cJ zT (ar R) [(0,4,.t i),(4,4,.t j)]=some ((tI (q,e)).cells.map AV.p):=by
 have e1:(Opd.t i).ev (ar R) = .p (qI q):=h1;have e2:(Opd.t j).ev (ar R) = .p (moD e):=h2;rw[cJ.eq_2,e1];rw[if_pos ⟨rfl,by decide,rfl⟩,cJ.eq_2,e2];rw[if_pos ⟨rfl,z95 8,rfl⟩,cJ.eq_1];rfl
theorem Td (t:Tm):AV.mk ((tI t).cells.map AV.p) = .p (tI t):=rfl
theorem Te (t:Tm):dK ((tI t).cells.map AV.p)=some (tI t).cells:=rfl
theorem Tf (t:Tm):D.agg (tI t).cells=tI t:=rfl
def cA:=an @Te (an @Tf (an @S9 (an @Ta (an @Tb (an @Tc (an @Td (an @ite_self.{1} (an bp a8))))))))
theorem Tg (n ord n' ord':Int) (a b:List Tm){D X E Y p:Nat}{G H:Int} (ha:∀x∈a,Db D X x.1) (hb:∀x∈b,Db E Y x.1) (ga:∀x∈a,Gx G x.2) (gb:∀x∈b,Gx H x.2) (hG:0≤G) (hH:0≤H) (hGH:G+H≤1000000000000)
  (hl:a.length*b.length≤1000000000) (hla:a.length≤1000000000) (hlb:b.length≤1000000000) (hD:D*E<2^p) (hX:a.length*b.length*(X*Y)<2^p) (hA:Bc p a) (hB:Bc p b) (hp:p≤2048000000000) :
  Con Tryz.prog AN 50 [SmD a n ord,SmD b n' ord'] (SmD (cnT ord (mulT a b)) n ord):=by
 have hge:∀x∈mulT a b,Ge x.2:=fun x hx=>(rS ga gb x hx).ge hGH
 have mc:=(kY n ord (mulT a b) (rR ha hb) hge (by rw[kQ];exact hl) hD (by rw[kQ];exact hX) hp).x;have hiter:∀i,i≤a.length→(mulT (a.take i) b).length=i*b.length:=fun i hi=>by rw[kQ,z9N,z9f hi]
 refine ri.con rfl (by simp) ?_;(repeat first|simp only[kV,simprocAttr,cA,ax]|refine aN ?_);refine kp [2,3,4] ?_;(repeat first|simp only[kV,simprocAttr,cA,ax]|refine aN ?_);refine kp [2,3,4,5] ?_;(repeat first|simp only[kV,simprocAttr,cA,ax]|refine aN ?_);refine kp [2,3,4,5,11,12,13] ?_;(repeat first|simp only[kV,simprocAttr,cA,ax]|refine aN ?_);refine aB (ι:=Nat) (fun i=>i≤a.length) (fun i=>⟨ar [(2,.ptr 2 0 0),(3,.ptr 3 0 0),(4,.ptr 4 0 0),(5,.slice 205 0 (mulT (a.take i) b).length),(11,.p (LM a)),(12,.p (J a.length)),(13,.p (J i))],
  au [(2,⟨96,3,.box (.p (SmD a n ord)),false⟩),(3,⟨96,3,.box (.p (SmD b n' ord')),false⟩),(4,⟨96,3,.box (.p (SmD [] 0 0)),false⟩),(205,⟨TT,8,.row ((mulT (a.take i) b).map tI),false⟩)]⟩) (fun i=>a.length-i) 0 (z9O _) (Sub.nilG 5 205 TT 8) ?_
 intro i hi;by_cases h:i<a.length
 ·have hI:(i:Int)<(a.length:Int):=by omega
  have g1:=co h;have hst:=S7 a b h;have hlen:=hiter i hi;have hx:=hA _ (at_mem h);have gx:=(ga _ (at_mem h)).ge (by omega);have hmul:(i+1)*b.length≤a.length*b.length:=z92 _ h;rw[z8Z] at hmul;generalize mulT (a.take i) b=q at *;generalize Sy.at_ a i=x at *;(repeat first|with_reducible refine kp [2,3,4,5,11,12,13,14] ?_|simp only[kV,simprocAttr,cA,hI]|refine aN ?_);(try simp only[kV,simprocAttr,cA,hI,g1,h]);refine ulk ?_;(repeat first|simp only[kV,simprocAttr,cA,hI,g1,h]|refine aN ?_);refine kp [2,3,4,5,11,12,13] ?_;(repeat first|simp only[kV,simprocAttr,cA,hI,g1,h]|refine aN ?_);refine kp [2,3,4,5,7,11,12,13] ?_;(repeat first|simp only[kV,simprocAttr,cA,hI,g1,h]|refine aN ?_);refine kp [2,3,4,5,7,11,12,13,18,19,20] ?_;(repeat first|simp only[kV,simprocAttr,cA,hI,g1,h]|refine aN ?_);refine aB (ι:=Nat) (fun j=>j≤b.length) (fun j=>⟨ar [(2,.ptr 2 0 0),(3,.ptr 3 0 0),(4,.ptr 4 0 0),(5,.slice 205 0 (q++cG x (b.take j)).length),(7,.ptr 7 0 0),(11,.p (LM a)),(12,.p (J a.length)),(13,.p (J i)),(18,.p (LM b)),(19,.p (J b.length)),(20,.p (J j))],
   au [(2,⟨96,3,.box (.p (SmD a n ord)),false⟩),(3,⟨96,3,.box (.p (SmD b n' ord')),false⟩),(4,⟨96,3,.box (.p (SmD [] 0 0)),false⟩),(205,⟨TT,8,.row ((q++cG x (b.take j)).map tI),false⟩),(7,⟨TT,8,.box (.p (tI x)),false⟩)]⟩) (fun j=>b.length-j) 0 (z9O _) (by rw[show q++cG x (b.take 0)=q by simp[cG]];exact (Sub.toG [2,3,4,5,7,11,12,13,18,19,20] [9,36])) ?_
  intro j hj;by_cases h':j<b.length
  ·have hJ:(j:Int)<(b.length:Int):=by omega
   have g2:=co h';have hst2:=S8 x b h';have hy:=hB _ (at_mem h');have gy:=(gb _ (at_mem h')).ge (by omega);have hrl:(cG x (b.take j)).length=j:=by rw[rQ,z9N,z9f hj]
   generalize Sy.at_ b j=y at *;have c1:=vi x.1 y.1 p hx hy hp;have c2:=(VJ x.2 y.2 gx gy).mono (A':=AN) (by simp);have f1:(q++cG x (b.take (j+1))).map tI=(q++cG x (b.take j)).map tI++[tI (x.1*y.1,eY x.2 y.2)]:=by rw[hst2,←z9A,z9U];rfl
   have f2:(q++cG x (b.take (j+1))).length=(q++cG x (b.take j)).length+1:=by rw[hst2,←z9A,z96];rfl
   have hql:(q++cG x (b.take j)).length≤1000000000:=by rw[z96,hrl,hlen];omega
   generalize q++cG x (b.take j)=q2 at *;(repeat first|with_reducible refine kp [2,3,4,5,7,11,12,13,18,19,20,21] ?_|simp only[kV,simprocAttr,cA,hJ]|refine aN ?_);(try simp only[kV,simprocAttr,cA,hJ,g2,h']);refine ulk ?_;(repeat first|with_reducible refine kp [2,3,4,5,7,9,11,12,13,18,19,20] ?_|simp only[kV,simprocAttr,cA,hJ,g2,h']|refine aN ?_);refine⟨_,cx (c1),ulc ?_⟩;(repeat first|simp only[kV,simprocAttr,cA]|refine aN ?_);refine⟨_,cx (c2),ulc ?_⟩;(repeat first|with_reducible refine kp [2,3,4,5,7,11,12,13,18,19,20] ?_|simp only[kV,simprocAttr,cA,rT _ _ (x.1*y.1) (eY x.2 y.2)]|refine aN ?_);exact⟨j+1,h',by rw[f1,f2];exact (Sub.toG [2,3,4,5,7,11,12,13,18,19,20] [9,36]),by omega⟩
  ·have hJ:¬ (j:Int)<(b.length:Int):=by omega
   obtain rfl:j=b.length:=by omega
   have f1:q++cG x (b.take b.length)=mulT (a.take (i+1)) b:=by rw[z9x,hst]
   rw[f1];(repeat first|with_reducible refine kp [2,3,4,5,7,11,12,13,18,19,20,21] ?_|simp only[kV,simprocAttr,cA,hJ]|refine aN ?_);refine ulk ?_;(repeat first|with_reducible refine kp [2,3,4,5,11,12,13] ?_|simp only[kV,simprocAttr,cA,hJ]|refine aN ?_);exact⟨i+1,h,(Sub.toG [2,3,4,5,11,12,13] [7,9,36]),by omega⟩
 ·have hI:¬ (i:Int)<(a.length:Int):=by omega
  obtain rfl:i=a.length:=by omega
  rw[z9x];(repeat first|with_reducible refine kp [2,3,4,5,11,12,13,14] ?_|simp only[kV,simprocAttr,cA,hI]|refine aN ?_);refine ulk ?_;(repeat first|with_reducible refine kp [2,4,5] ?_|simp only[kV,simprocAttr,cA,hI]|refine aN ?_);refine⟨_,_,mc,ulc ?_⟩;(repeat first|with_reducible refine kp [4] ?_|simp only[kV,simprocAttr,cA,af,ai,aq,ah]|refine aN ?_)
set_option linter.unusedSimpArgs false
open Go.RowKit
theorem XL (t:Tm) (q:Rat):AV.mk ((AV.p (tI t)).cells.take 0++(AV.p (qI q)).cells++(AV.p (tI t)).cells.drop 4) = .p (tI (q,t.2)):=rfl
theorem XM (q:Rat):(AV.p (qI q)).get 0 4 4 true=some (.p (qI q))∧(AV.p (qI q)).cells.length=4∧(AV.p (qI q)).cells.all AV.one=true∧(AV.p (qI q)).isAgg=some true:=⟨rfl,rfl,rfl,rfl⟩
theorem XN (q:Rat):((qI q).cells.map AV.p).all AV.one=true:=rfl
theorem XO (q:Rat):(qI q).isAgg=true:=rfl
def XP:=an @XO (an @XN (an @XL (an @XM cA)))
set_option linter.unusedSimpArgs false
set_option maxRecDepth 20000
set_option maxHeartbeats 4000000
open Go.RowKit
def timT (k:Rat) (a:List Tm):List Tm:=a.map fun t=>(t.1*k,t.2)
theorem iD (k:Rat) (a:List Tm):(timT k a).length=a.length:=z9V _
theorem XQ (k:Rat) (a:List Tm){i:Nat} (h:i<a.length):timT k (a.take (i+1))=timT k (a.take i)++[((Sy.at_ a i).1*k,(Sy.at_ a i).2)]:=by
 rw[f8 h];unfold timT;rw[z9U];rfl
theorem t6 {k:Rat}{a:List Tm}{D X E Y:Nat} (ha:∀t∈a,Db D X t.1) (hk:Db E Y k):∀t∈timT k a,Db (D*E) (X*Y) t.1:=fun t ht=>by
 obtain⟨y,hy,rfl⟩:=z9Q.1 ht;exact (ha y hy).mul hk
theorem XR (t:Tm):D.agg (List.take 4 (List.drop 4 (tI t).cells))=moD t.2:=rfl
theorem XS (t:Tm):D.agg (List.take 4 (tI t).cells)=qI t.1:=rfl
theorem XT (q:Rat) (a b c d:AV):(8≤((qI q).cells.map AV.p++[a,b,c,d]).length)=True:=eq_true (z95 8)
theorem XU (q:Rat) (e:Ex4) (a b c d:AV):((qI q).cells.map AV.p++[a,b,c,d]).take 4++[AV.p (J e.1),AV.p (J e.2.1),AV.p (J e.2.2.1),AV.p (J e.2.2.2)]++((qI q).cells.map AV.p++[a,b,c,d]).drop 8=(tI (q,e)).cells.map AV.p:=rfl
def aa:=an @XT (an @XU (an @XR (an @XS XP)))
theorem XV (n ord:Int) (k:Rat) (a:List Tm){D X E Y p:Nat}{G:Int} (ha:∀t∈a,Db D X t.1) (hk:Db E Y k) (ga:∀t∈a,Gx G t.2) (hG:G≤1000000000000)
  (hl:a.length≤1000000000) (hD:D*E<2^p) (hX:a.length*(X*Y)<2^p) (hA:Bc p a) (hB:Bq p k) (hp:p≤2048000000000) :
  Con Tryz.prog AN 100 [SmD a n ord,qI k] (SmD (cnT ord (timT k a)) n ord):=by
 have hge:∀t∈timT k a,Ge t.2:=fun t ht=>by
  obtain⟨y,hy,rfl⟩:=z9Q.1 ht;exact (ga y hy).ge hG
 have mc:=(kY n ord (timT k a) (t6 ha hk) hge (by rw[iD];exact hl) hD (by rw[iD];exact hX) hp).x;have hlt:∀i,i≤a.length→(timT k (a.take i)).length=i:=fun i hi=>by rw[iD,z9N,z9f hi]
 refine rj.con rfl (by simp) ?_;(repeat first|simp only[kV,simprocAttr,aa,Option.map_some,ax]|refine aN ?_);refine kp [2,3,4] ?_;(repeat first|simp only[kV,simprocAttr,aa,Option.map_some,ax]|refine aN ?_);refine kp [2,3,4,5] ?_;(repeat first|simp only[kV,simprocAttr,aa,Option.map_some,ax]|refine aN ?_);refine kp [2,3,4,5,9,10,11] ?_;(repeat first|simp only[kV,simprocAttr,aa,Option.map_some,ax]|refine aN ?_);refine aB (ι:=Nat) (fun i=>i≤a.length) (fun i=>⟨ar [(2,.ptr 2 0 0),(3,.ptr 3 0 0),(4,.ptr 4 0 0),(5,.slice 205 0 (timT k (a.take i)).length),(9,.p (LM a)),(10,.p (J a.length)),(11,.p (J i))],
  au [(2,⟨96,3,.box (.p (SmD a n ord)),false⟩),(3,⟨88,4,.box (.p (qI k)),false⟩),(4,⟨96,3,.box (.p (SmD [] 0 0)),false⟩),(205,⟨TT,8,.row ((timT k (a.take i)).map tI),false⟩)]⟩) (fun i=>a.length-i) 0 (z9O _) (Sub.nilG 5 205 TT 8) ?_
 intro i hi;by_cases h:i<a.length
 ·have hI:(i:Int)<(a.length:Int):=by omega
  have g1:=co h;have hst:=XQ k a h;have hlen:=hlt i hi;have hx:=hA _ (at_mem h);generalize timT k (a.take i)=q at *;generalize Sy.at_ a i=t at *;have c1:=vi t.1 k p hx hB hp;have f1:(timT k (a.take (i+1))).map tI=q.map tI++[tI (t.1*k,t.2)]:=by rw[hst,z9U];rfl
  have f2:(timT k (a.take (i+1))).length=q.length+1:=by rw[hst,z96];rfl
  (repeat first|with_reducible refine kp [2,3,4,5,9,10,11,12] ?_|simp only[kV,simprocAttr,aa,Option.map_some,hI]|refine aN ?_);(try simp only[kV,simprocAttr,aa,Option.map_some,hI,g1,h]);refine ulk ?_;(repeat first|with_reducible refine kp [2,3,4,5,7,9,10,11] ?_|simp only[kV,simprocAttr,aa,Option.map_some,hI,g1,h]|refine aN ?_);refine⟨_,cx (c1),ulc ?_⟩;(repeat first|with_reducible refine kp [2,3,4,5,9,10,11] ?_|simp only[kV,simprocAttr,aa,Option.map_some,rT _ _ (t.1*k) t.2]|refine aN ?_);exact⟨i+1,h,by rw[f1,f2];exact (Sub.toG [2,3,4,5,9,10,11] [7,23]),by omega⟩
 ·have hI:¬ (i:Int)<(a.length:Int):=by omega
  obtain rfl:i=a.length:=by omega
  rw[z9x];(repeat first|with_reducible refine kp [2,3,4,5,9,10,11,12] ?_|simp only[kV,simprocAttr,aa,Option.map_some,hI]|refine aN ?_);refine ulk ?_;(repeat first|with_reducible refine kp [2,4,5] ?_|simp only[kV,simprocAttr,aa,Option.map_some,hI]|refine aN ?_);refine⟨_,_,mc,ulc ?_⟩;(repeat first|with_reducible refine kp [4] ?_|simp only[kV,simprocAttr,aa,Option.map_some,af,ai,aq,ah]|refine aN ?_)
end Go.Proofs.YtbnhgnhgbhjkcaaGreat.M
