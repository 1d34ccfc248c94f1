/- Lemmas. -/
import Derived.Test.YtdchbabgopglcaaC3
import Derived.Test.YtdchbabgopglcaaC5
namespace Go.Proofs.Ytdchbabgopglcaa.Z4
open Go.RowKit
def IsZ (w:World) (x:IV) (z:Int):Prop:=
 ∃l,IsL w x.s .i64 l∧Dig l∧Norm l∧z=sg x.n (valL l)∧(l=[]→x.n=false)∧Sm z
theorem IsZ.keep {w w':World}{x:IV}{z:Int} (h:IsZ w x z) (e:Ext w w'):IsZ w' x z:=by
 obtain⟨l,h1,h2⟩:=h;exact⟨l,h1.keep e,h2⟩
theorem IsZ.kept {w w':World}{x:IV}{z:Int} (h:IsZ w x z) (e:aZ 3 w w'):IsZ w' x z:=by
 obtain⟨l,h1,h2⟩:=h;exact⟨l,h1.kept e,h2⟩
theorem QO (w:World):IsZ w ⟨false,⟨none,0,0⟩⟩ 0:=⟨[],oK w _,(fun x hx=>by cases hx),.inl rfl,by simp[sg,valL],fun _=>rfl,qX⟩
def RetZ (w:World) (z:Int) (e:Ending) (w':World):Prop:=
 ∃x:IV,e = .returned (.agg #[.bool x.n,.slice x.s.a x.s.len x.s.cap])∧IsZ w' x z∧Ext w w'
def Av (W:World) (A:List SV) (s:SV):Prop:=∀b off sp,s.a=some ⟨b,off,sp⟩→W.heap.size≤b∨∃t∈A,∃off' sp',t.a=some ⟨b,off',sp'⟩
theorem Av.same {W:World}{A:List SV}{s t:SV} (ht:t∈A) (h:s.a=t.a):Av W A s:=fun _ _ _ e => .inr ⟨t,ht,_,_,h.symm.trans e⟩
theorem Av.nil {W:World}{A:List SV}{s:SV} (h:s.a=none):Av W A s:=fun _ _ _ e=>by rw[h] at e;cases e
def mn (w:World) (A:List SV) (z:Int) (e:Ending) (w':World):Prop:=
 ∃x:IV,e = .returned (.agg #[.bool x.n,.slice x.s.a x.s.len x.s.cap])∧IsZ w' x z∧Ext w w'∧Av w A x.s
theorem mn.ret {w:World}{A:List SV}{z:Int}{e:Ending}{w':World} (h:mn w A z e w'):RetZ w z e w':=by
 obtain⟨x,h1,h2,h3,_⟩:=h;exact⟨x,h1,h2,h3⟩
theorem IsZ.open_ {w:World}{x:IV}{z:Int} (h:IsZ w x z):∃l,IsL w x.s .i64 l∧Norm l∧Dig l∧l.length≤676622540800∧z=sg x.n (valL l)∧(l=[]→x.n=false)∧Sm z:=by
 obtain⟨l,h1,hd,h2,h3,h4,h5⟩:=h;refine⟨l,h1,h2,hd,?_,h3,h4,h5⟩;have hb:Bt (valL l) dH:=by
  rw[h3] at h5;exact h5.bt.le (by rw[fx];exact Nat.le_refl _)
 have:=len_of_bt hd h2 hb;rw[gU] at this;omega
theorem QP {w:World}{neg:Bool}{ao:Option Addr}{cap k:Nat}{l:List Int} (h:IsL w ⟨ao,l.length,cap⟩ .i64 l) (hd:Dig l) (hk:k+1≤l.length)
  (hz:∀j,k+1≤j→at_ l j=0) (hne:at_ l k≠0) (hcm:cap≤9223372036854775807) (hs:Sm (sg neg (valL l))):IsZ w ⟨neg,⟨ao,k+1,cap⟩⟩ (sg neg (valL l)):=by
 have hcap:l.length≤cap:=h.1.2.1;refine⟨l.take (k+1),h.take hk (by omega) (by omega),fun x hx=>hd x (List.mem_of_mem_take hx),.inr ?_,by rw[valL_take hz],fun e => ?_,hs⟩
 ·have:(l.take (k+1)).length-1=k:=by simp;omega
  rw[this];simpa[at_] using hne
 ·have:=congrArg List.length e;rw[List.length_take,List.length_nil] at this;omega
set_option maxHeartbeats 400000 in
theorem QQ (neg:Bool) (s:SV) (l:List Int) (w:World) (h:IsL w s .i64 l) (hd:Dig l) (hs:Sm (sg neg (valL l))) :
  Calls Try.prog 54 #[.bool neg,.slice s.a s.len s.cap] w (mn w [s] (sg neg (valL l))):=by
 obtain⟨ao,cap,rfl,hcap,hcm,hop⟩:=h.open_;replace hs:=hd_ hs;go_enter Try.func54,Try.ntmps54;go_wp2;go_loop [5] (fun n => ∃k:Nat,k≤l.length∧n = .int .i64 k∧(∀j,k≤j→at_ l j=0)) (fun n=>(intOf n).toNat)
 case atStart=>exact⟨l.length,Nat.le_refl _,rfl,fun j hj=>a8 hj⟩
 case round =>
  obtain⟨k,hk,rfl,hz⟩:=hrel
  match k,hk,hz with
  |0,hk,hz =>
   have H0:=hd_ (valL_zero (fun j=>hz j (by omega)));clear hz;go_wp2;refine bodyPost_ret (v:=.agg #[.bool false,.slice none 0 0]) (by simp[results,Try.results54,go_sem]) rfl ⟨⟨false,⟨none,0,0⟩⟩,rfl,?_,(Ext.rf _).al _,Av.nil rfl⟩;rw[H0.out];cases neg<;>exact QO _
  |k+1,hk,hz =>
   have Hz:=hd_ hz;clear hz;obtain⟨b,off,rfl,hb,hc⟩:=hop (by omega);have hbl:=hb.lt;have hc:=hc k (by omega);have hf:=hd.at_ k;by_cases h0:at_ l k=0
   ·have h0':(at_ l k == 0)=true:=by simp[h0]
    have H0:=hd_ h0;clear h0;go_wp2;go_round
    case rel=>exact⟨k,by omega,by go_num,fun j hj=>if e:j=k then by rw[e];exact H0.out else Hz.out j (by omega)⟩
    case measure=>first | (simp[intOf];done) | (simp[intOf];omega)
   ·have h0':(at_ l k == 0)=false:=by simp[h0]
    go_wp2;refine bodyPost_ret (v:=.agg #[.bool neg,.slice (some ⟨b,off,none⟩) (k+1) cap]) (by simp[results,Try.results54,go_sem]) rfl ⟨⟨neg,⟨some ⟨b,off,none⟩,k+1,cap⟩⟩,rfl,?_,?_,Av.same (.head _) rfl⟩
    ·exact (QP h hd hk Hz.out h0 hcm hs.out).keep (((Ext.rf _).al _))
    ·exact (Ext.rf _).al _
theorem made_any (neg:Bool) (s:SV) (l:List Int) (w:World) (h:IsL w s .i64 l) (hd:Dig l) (hs:Sm (sg neg (valL l))) :
  Calls Try.prog 54 #[.bool neg,.slice s.a s.len s.cap] w (RetZ w (sg neg (valL l))):=(QQ neg s l w h hd hs).mono fun _ _ h=>h.ret
end Go.Proofs.Ytdchbabgopglcaa.Z4
namespace Go.Proofs.Ytdchbabgopglcaa.M
open Go.RowKit
section
variable {P:Program}{w0:World}{base:Bs}{nt:Nat}{loc:aU}{s t:St}{a:Act}{w:World}{o:Oper}{id:Nat}{d:AV}
theorem nI {N:Nat→Prop}{cs:Array Value}{l:List D}{off sz:Nat}{ag:Bool}{e:D} (h1:cs.size=l.length) (h2:∀q∈l,q.one=true) (h3:∀i q,l[i]? = some q→V w N (cs.getD i undef) q)
  {T:TypeId} (hT:bM P T ag sz) (hp:eW l off sz ag=some e):∃v,(part T cs off).run P w = .ok v w∧V w N v e:=by
 unfold eW at hp;unfold part;simp only[Sem.run_bind,jV hT,Result.andThen];cases ag with
 |true =>
  simp only[if_true] at hp ⊢;split at hp
  ·rename_i hle;simp only[Option.some.injEq] at hp;subst hp;simp only[Sem.run_bind,cL hT,Result.andThen];refine⟨_,rfl,.agg _ _ (by simp;omega) (fun q hq=>h2 q (List.mem_of_mem_drop (List.mem_of_mem_take hq))) (fun i q hi => ?_)⟩;have hlt:i<sz:=by have:=(List.getElem?_eq_some_iff.1 hi).1;simp at this;omega
   rw[List.getElem?_take_of_lt hlt,List.getElem?_drop] at hi;have:=h3 _ q hi;simp only[Array.getD_eq_getD_getElem?] at this ⊢;rw[Array.getElem?_extract,if_pos (by omega)];exact this
  ·cases hp
 |false =>
  simp only[Bool.false_eq_true,if_false] at hp ⊢;have hlt:=(List.getElem?_eq_some_iff.1 hp).1;have hc:cs[off]? = some (cs.getD off undef):=by simp[h1,hlt]
  rw[hc];exact⟨_,rfl,h3 off e hp⟩
theorem nJ {N:Nat→Prop}{cs:Array Value}{l:List AV}{off sz:Nat}{ag:Bool}{e:AV} (h1:cs.size=l.length) (h2:∀q∈l,q.one=true) (h3:∀i q,l[i]? = some q→RV w N loc (cs.getD i undef) q)
  {T:TypeId} (hT:bM P T ag sz) (hp:fS l off sz ag=some e):∃v,(part T cs off).run P w = .ok v w∧RV w N loc v e:=by
 unfold fS at hp;unfold part;simp only[Sem.run_bind,jV hT,Result.andThen];cases ag with
 |true =>
  simp only[if_true] at hp ⊢;split at hp
  ·rename_i hle;simp only[Option.some.injEq] at hp;subst hp;simp only[Sem.run_bind,cL hT,Result.andThen];refine⟨_,rfl,.agg _ _ (by simp;omega) (fun q hq=>h2 q (List.mem_of_mem_drop (List.mem_of_mem_take hq))) (fun i q hi => ?_)⟩;have hlt:i<sz:=by have:=(List.getElem?_eq_some_iff.1 hi).1;simp at this;omega
   rw[List.getElem?_take_of_lt hlt,List.getElem?_drop] at hi;have:=h3 _ q hi;simp only[Array.getD_eq_getD_getElem?] at this ⊢;rw[Array.getElem?_extract,if_pos (by omega)];exact this
  ·cases hp
 |false =>
  simp only[Bool.false_eq_true,if_false] at hp ⊢;have hlt:=(List.getElem?_eq_some_iff.1 hp).1;have hc:cs[off]? = some (cs.getD off undef):=by simp[h1,hlt]
  rw[hc];exact⟨_,rfl,h3 off e hp⟩
theorem yL {S:TypeId}{x:Operand}{f:Nat}{fs:Array Field}{g:Field}{ag:Bool}{sz:Nat} (h:Rel w0 base nt loc s a w) (ho:o.op = .field S x f) (hS:P.underlying S=some (.struct fs)) (hf:fs[f]? = some g) (hT:bM P g.type ag sz){U:Option TypeId}
  (he:ev (.field g.offset sz ag (opd P U x)) id s=some (true,d,t)):aK P w0 base nt o a w t d:=by
 have hx:=h.opd (P:=P) U x;simp only[ev] at he;split at he
 case isFalse=>cases he
 rename_i hagg;split at he
 ·rename_i z hz;simp only[Option.some.injEq,Prod.mk.injEq,true_and] at he;obtain⟨rfl,rfl⟩:=he;generalize hxv:a.eval x=v at hx;have key:∀cs,v = .agg cs→(∃u,(part g.type cs g.offset).run P w = .ok u w∧RV w (NB base s.m loc w) loc u z)→aK P w0 base nt o a w s z:=by
   rintro cs rfl ⟨u,hu1,hu2⟩;refine aP h (v:=u) ?_ hu2;simp[execOp,ho,hxv,Instr.field,run_underlying hS,hf,asAgg,hu1]
  generalize (opd P U x).ev s.r=X at hx hz hagg;cases hx with
  |p _ e hV =>
   simp only[AV.part,Option.map_eq_some_iff] at hz;obtain⟨q,hq,rfl⟩:=hz;cases hV with
   |agg cs l h1 h2 h3 =>
    refine key cs rfl ?_;obtain⟨u,hu1,hu2⟩:=nI (P:=P) h1 h2 h3 hT hq;exact⟨u,hu1,.p _ _ hu2⟩
   |_=>simp[AV.isAgg,D.isAgg] at hagg
  |agg cs l h1 h2 h3=>exact key cs rfl (nJ h1 h2 h3 hT hz)
  |_=>simp[AV.isAgg] at hagg
 ·cases he
theorem yM {S:TypeId}{x:Operand}{f:Nat}{fs:Array Field}{g:Field}{ag:Bool}{sz:Nat} (h:Rel w0 base nt loc s a w) (ho:o.op = .fieldAddr S x f) (hS:P.underlying S=some (.struct fs)) (hf:fs[f]? = some g) (hT:bM P g.type ag sz) (hz:sz≠0){U:Option TypeId}
  (he:ev (.fieldAddr g.offset sz ag (opd P U x)) id s=some (true,d,t)):aK P w0 base nt o a w t d:=by
 have hx:=h.opd (P:=P) U x;have run:∀b p,a.eval x = .pointer (some ⟨b,p,none⟩)→(execOp a.eval o).run P w = .ok (.value (.pointer (some ⟨b,p+g.offset,none⟩))) w:=by
  intro b p hv;simp[execOp,ho,hv,Instr.fieldAt,run_underlying hS,hf,Instr.sureAddr,fieldPlace,cL hT,hz,de]
 simp only[ev] at he;split at he
 ·rename_i i j p hk;simp only[Option.some.injEq,Prod.mk.injEq,true_and] at he;obtain⟨rfl,rfl⟩:=he;rw[hk] at hx;generalize hxv:a.eval x=v at hx;cases hx with
  |ptr L _ _ _ hL hn =>
  refine aP h (run _ _ hxv) ?_;rw[show L.o+(j*L.sz+p)+g.offset=L.o+(j*L.sz+(p+g.offset)) by omega];exact .ptr L _ _ _ hL hn
 ·rename_i e hk;split at he
  ·rename_i q hq;simp only[Option.some.injEq,Prod.mk.injEq,true_and] at he;obtain⟨rfl,rfl⟩:=he;rw[hk] at hx;have hx:=hx.inv;generalize hxv:a.eval x=v at hx;cases hx with
   |ref b p T' _ c fr g1 g2 g0 g3 g4 =>
   refine aP h (run _ _ hxv) (.p _ _ ?_);unfold D.part eW at hq;cases ag with
   |true =>
    simp only[if_true] at hq;split at hq
    ·rename_i hle;simp only[Option.some.injEq] at hq;subst hq;have idx:∀j e',((e.cells.drop g.offset).take sz)[j]? = some e'→e.cells[g.offset+j]? = some e':=by
      intro j e' hj;have hlt:j<sz:=by have:=(List.getElem?_eq_some_iff.1 hj).1;simp at this;omega
      rw[List.getElem?_take_of_lt hlt,List.getElem?_drop] at hj;exact hj
     refine .ref b _ T' _ c fr g1 g2 (fun q' hq'=>g0 q' (List.mem_of_mem_drop (List.mem_of_mem_take hq'))) (fun j e' hj => ?_) (fun j e' hj => ?_)
     ·have:=g3 _ e' (idx j e' hj);omega
     ·have:=g4 _ e' (idx j e' hj)
      rwa[←Nat.add_assoc] at this
    ·cases hq
   |false =>
    simp only[Bool.false_eq_true,if_false] at hq;have h1:=g0 q (List.mem_of_getElem? hq);have hc:q.cells=[q]:=by cases q<;>first | rfl | simp[D.one] at h1
    refine .ref b _ T' _ c fr g1 g2 (fun q' hq'=>by rw[hc] at hq';simp at hq';subst hq';exact h1) (fun j e' hj => ?_) (fun j e' hj => ?_)
    ·rw[hc] at hj
     match j,hj with
     |0,hj=>simp at hj;subst hj;have:=g3 _ q hq;omega
     |j+1,hj=>simp at hj
    ·rw[hc] at hj
     match j,hj with
     |0,hj=>simp at hj;subst hj;exact g4 _ q hq
     |j+1,hj=>simp at hj
  ·cases he
 ·cases he
theorem cY {x:Operand}{U:Option TypeId}{n:Int} (h:Rel w0 base nt loc s a w) (hi:asI ((opd P U x).ev s.r)=some n):∃k,a.eval x = .int k n:=by
 have hx:=h.opd (P:=P) U x;generalize (opd P U x).ev s.r=X at hx hi;generalize a.eval x=v at hx ⊢;cases hx with
 |p v e hV=>cases hV<;>simp[asI] at hi;subst hi;exact⟨_,rfl⟩
 |_=>simp[asI] at hi
theorem yN {N:Nat→Prop}{b p:Nat}{e q:D}{off sz:Nat}{ag:Bool} (hV:V w N (.pointer (some ⟨b,p,none⟩)) (.ref e)) (hq:e.part off sz ag=some q):V w N (.pointer (some ⟨b,p+off,none⟩)) (.ref q):=by
 cases hV with
 |ref b p T' _ c fr g1 g2 g0 g3 g4 =>
 unfold D.part eW at hq;cases ag with
 |true =>
  simp only[if_true] at hq;split at hq
  ·rename_i hle;simp only[Option.some.injEq] at hq;subst hq;have idx:∀j e',((e.cells.drop off).take sz)[j]? = some e'→e.cells[off+j]? = some e':=by
    intro j e' hj;have hlt:j<sz:=by have:=(List.getElem?_eq_some_iff.1 hj).1;simp at this;omega
    rw[List.getElem?_take_of_lt hlt,List.getElem?_drop] at hj;exact hj
   refine .ref b _ T' _ c fr g1 g2 (fun q' hq'=>g0 q' (List.mem_of_mem_drop (List.mem_of_mem_take hq'))) (fun j e' hj => ?_) (fun j e' hj => ?_)
   ·have:=g3 _ e' (idx j e' hj);omega
   ·have:=g4 _ e' (idx j e' hj)
    rwa[←Nat.add_assoc] at this
  ·cases hq
 |false =>
  simp only[Bool.false_eq_true,if_false] at hq;have h1:=g0 q (List.mem_of_getElem? hq);have hc:q.cells=[q]:=by cases q<;>first | rfl | simp[D.one] at h1
  refine .ref b _ T' _ c fr g1 g2 (fun q' hq'=>by rw[hc] at hq';simp at hq';subst hq';exact h1) (fun j e' hj => ?_) (fun j e' hj => ?_)
  ·rw[hc] at hj
   match j,hj with
   |0,hj=>simp at hj;subst hj;have:=g3 _ q hq;omega
   |j+1,hj=>simp at hj
  ·rw[hc] at hj
   match j,hj with
   |0,hj=>simp at hj;subst hj;exact g4 _ q hq
   |j+1,hj=>simp at hj
theorem yO {T E:TypeId}{n:Nat}{x i:Operand}{ag:Bool}{sz:Nat} (h:Rel w0 base nt loc s a w) (ho:o.op = .indexAddr T x i) (hS:P.underlying T=some (.array n E)) (hT:bM P E ag sz){U W:Option TypeId}
  (he:ev (.indexAddrA n sz ag (opd P U x) (opd P W i)) id s=some (true,d,t)):aK P w0 base nt o a w t d:=by
 have hx:=h.opd (P:=P) U x;simp only[ev] at he;have run:∀b p q (m:Nat),a.eval x = .pointer (some ⟨b,p,none⟩)→(∃k,a.eval i = .int k q)→q=(m:Int)→m<n→(execOp a.eval o).run P w = .ok (.value (.pointer (some ⟨b,p+m*sz,none⟩))) w:=by
  rintro b p q m hv ⟨k,hi⟩ rfl hlt;simp[execOp,ho,hv,hi,Instr.indexAt,Instr.sureAddr,asIntOf,run_underlying hS,hlt,cL hT,de]
 split at he
 ·rename_i j k off q hk hn;simp only[Option.some.injEq,Prod.mk.injEq,decide_eq_true_eq] at he;obtain⟨⟨hn0,hn1⟩,rfl,rfl⟩:=he;rw[hk] at hx;have hi:=cY h hn;generalize hxv:a.eval x=v at hx;obtain⟨m,rfl⟩:=Int.eq_ofNat_of_zero_le hn0;cases hx with
  |ptr L _ _ _ hL hnil =>
  refine aP h (run _ _ _ m hxv hi rfl (by omega)) ?_;rw[Int.toNat_natCast,show L.o+(k*L.sz+off)+m*sz=L.o+(k*L.sz+(off+m*sz)) by omega];exact .ptr L _ _ _ hL hnil
 ·rename_i e q hk hn;split at he
  ·rename_i f hf;simp only[Option.some.injEq,Prod.mk.injEq,decide_eq_true_eq] at he;obtain⟨⟨hn0,hn1⟩,rfl,rfl⟩:=he;rw[hk] at hx;have hx:=hx.inv;have hi:=cY h hn;generalize hxv:a.eval x=v at hx;obtain⟨m,rfl⟩:=Int.eq_ofNat_of_zero_le hn0;have hx2:=hx;cases hx with
   |ref b p T' _ c fr g1 g2 g0 g3 g4 =>
   rw[Int.toNat_natCast] at hf;exact aP h (run _ _ _ m hxv hi rfl (by omega)) (.p _ _ (yN hx2 hf))
  ·cases he
 ·cases he
theorem yP {T E:TypeId}{n:Nat}{x i:Operand}{ag:Bool}{sz:Nat} (h:Rel w0 base nt loc s a w) (ho:o.op = .index T x i) (hS:P.underlying T=some (.array n E)) (hT:bM P E ag sz){U W:Option TypeId}
  (he:ev (.indexA n sz ag (opd P U x) (opd P W i)) id s=some (true,d,t)):aK P w0 base nt o a w t d:=by
 have hx:=h.opd (P:=P) U x;simp only[ev] at he;split at he
 case h_2=>cases he
 rename_i q hn;split at he
 case isFalse=>cases he
 rename_i hagg;split at he
 case h_2=>cases he
 rename_i z hz;simp only[Option.some.injEq,Prod.mk.injEq,decide_eq_true_eq] at he;obtain⟨⟨hn0,hn1⟩,rfl,rfl⟩:=he;obtain⟨k,hi⟩:=cY h hn;obtain⟨m,rfl⟩:=Int.eq_ofNat_of_zero_le hn0;have hmn:m<n:=by omega
 rw[Int.toNat_natCast] at hz;generalize hxv:a.eval x=v at hx;have key:∀cs,v = .agg cs→(∃u,(part E cs (m*sz)).run P w = .ok u w∧RV w (NB base s.m loc w) loc u z)→aK P w0 base nt o a w s z:=by
  rintro cs rfl ⟨u,hu1,hu2⟩;refine aP h (v:=u) ?_ hu2;simp[execOp,ho,hxv,hi,Instr.index,asIntOf,run_underlying hS,hmn,cL hT,hu1]
 generalize (opd P U x).ev s.r=X at hx hz hagg;cases hx with
 |p _ e hV =>
  simp only[AV.part,Option.map_eq_some_iff] at hz;obtain⟨q,hq,rfl⟩:=hz;cases hV with
  |agg cs l h1 h2 h3 =>
   refine key cs rfl ?_;obtain⟨u,hu1,hu2⟩:=nI (P:=P) h1 h2 h3 hT hq;exact⟨u,hu1,.p _ _ hu2⟩
  |_=>simp[AV.isAgg,D.isAgg] at hagg
 |agg cs l h1 h2 h3=>exact key cs rfl (nJ h1 h2 h3 hT hz)
 |_=>simp[AV.isAgg] at hagg
theorem yQ {T E:TypeId}{x i:Operand}{ag:Bool}{sz:Nat} (h:Rel w0 base nt loc s a w) (ho:o.op = .indexAddr T x i) (hS:P.underlying T=some (.slice E)) (hT:bM P E ag sz){U W:Option TypeId}
  (he:ev (.indexAddr sz (opd P U x) (opd P W i)) id s=some (true,d,t)):aK P w0 base nt o a w t d:=by
 have hx:=h.opd (P:=P) U x;simp only[ev] at he;have run:∀b p n (m:Nat) len cap,a.eval x = .slice (some ⟨b,p,none⟩) len cap→(∃k,a.eval i = .int k n)→n=(m:Int)→m<len→(execOp a.eval o).run P w = .ok (.value (.pointer (some ⟨b,p+m*sz,none⟩))) w:=by
  rintro b p n m len cap hv ⟨k,hi⟩ rfl hlt;simp[execOp,ho,hv,hi,Instr.indexAt,asIntOf,run_underlying hS,hlt,cL hT,de]
 split at he
 ·rename_i T' sz' l n hk hn;split at he
  ·rename_i hsz;subst hsz;simp only[Option.some.injEq,Prod.mk.injEq,decide_eq_true_eq] at he;obtain⟨⟨hn0,hn1⟩,rfl,rfl⟩:=he;rw[hk] at hx;have hx:=hx.inv;have hi:=cY h hn;generalize hxv:a.eval x=v at hx;obtain⟨m,rfl⟩:=Int.eq_ofNat_of_zero_le hn0;cases hx with
   |empty=>simp at hn1;omega
   |list b p cap _ _ _ c fr g1 g2 g3 g4 g5 g6 g7 =>
   obtain⟨T',g1,-⟩:=g1;have hml:m<l.length:=by omega
   refine aP h (run b p _ m _ _ hxv hi rfl hml) (.p _ _ ?_);have hlm:l[m]? = some (l.getD m default):=by simp[hml]
   rw[Int.toNat_natCast];refine .ref b _ T' _ c fr g1 g2 (g5 _ (List.mem_of_getElem? hlm)).2 (fun j e' hj => ?_) (fun j e' hj => ?_)
   ·have:=g6 m _ j e' hlm hj;omega
   ·have:=g7 m _ j e' hlm hj
    rwa[←Nat.add_assoc] at this
  ·cases he
 ·rename_i j off len n hk hn;split at he
  ·rename_i ob hob;split at he
   ·rename_i hsz;subst hsz;simp only[Option.some.injEq,Prod.mk.injEq,decide_eq_true_eq] at he;obtain⟨⟨hn0,hn1⟩,rfl,rfl⟩:=he;rw[hk] at hx;have hi:=cY h hn;generalize hxv:a.eval x=v at hx;obtain⟨m,rfl⟩:=Int.eq_ofNat_of_zero_le hn0;cases hx with
    |sliceEmp=>simp at hn1;omega
    |slice L _ _ _ cap hL hnil h3 h4 h5 =>
    obtain⟨L',hL',hok⟩:=h.objs j ob hob;rw[hL] at hL';cases hL';refine aP h (run _ _ _ m _ _ hxv hi rfl (by omega)) ?_;rw[Int.toNat_natCast,show L.o+off*L.sz+m*ob.sz=L.o+((off+m)*L.sz+0) by rw[←hok.sz,Nat.add_mul];omega];exact .ptr L _ _ _ hL hnil
   ·cases he
  ·cases he
 ·rename_i j off len n hk hn;split at he
  ·rename_i hsz;subst hsz;simp only[Option.some.injEq,Prod.mk.injEq,decide_eq_true_eq] at he;obtain⟨⟨hn0,hn1⟩,rfl,rfl⟩:=he;rw[hk] at hx;have hi:=cY h hn;generalize hxv:a.eval x=v at hx;obtain⟨m,rfl⟩:=Int.eq_ofNat_of_zero_le hn0;cases hx with
   |arrEmp=>simp at hn1;omega
   |arr L _ _ _ cap hL hnil h3 h4 h5 =>
   refine aP h (run _ _ _ m _ _ hxv hi rfl (by omega)) ?_;rw[Int.toNat_natCast,show L.o+off+m*1=L.o+(0*L.sz+(off+m)) by omega];exact .ptr L _ _ _ hL hnil
  ·cases he
 ·cases he
theorem yR {T:TypeId}{x i:Operand} (h:Rel w0 base nt loc s a w) (ho:o.op = .index T x i) (hS:P.underlying T=some .string){U W:Option TypeId}
  (he:ev (.index (opd P U x) (opd P W i)) id s=some (true,d,t)):aK P w0 base nt o a w t d:=by
 have hx:=h.opd (P:=P) U x;simp only[ev] at he;split at he
 ·rename_i l n hk hn;simp only[Option.some.injEq,Prod.mk.injEq,decide_eq_true_eq] at he;obtain⟨⟨hn0,hn1⟩,rfl,rfl⟩:=he;rw[hk] at hx;have hx:=hx.inv;obtain⟨k,hi⟩:=cY h hn;obtain⟨m,rfl⟩:=Int.eq_ofNat_of_zero_le hn0;generalize hxv:a.eval x=v at hx;cases hx with
  |str q =>
  have hlt:m<q.size:=by have:q.data.size=q.size:=rfl;simp at hn1;omega
  refine aP h (v:=.int .u8 (q[m].toNat:Int)) ?_ ?_
  ·have:q[m]? = some q[m]:=by simp[hlt]
   simp[execOp,ho,hxv,hi,Instr.index,asIntOf,run_underlying hS,this]
  ·rw[Int.toNat_natCast];have hg:q.data.toList.getD m 0=q[m]:=by
    have:q.data.size=q.size:=rfl;simp[this,hlt];rfl
   rw[hg];exact .p _ _ (.int _ _)
 ·cases he
theorem yS {x:Operand}{i:Nat} (h:Rel w0 base nt loc s a w) (ho:o.op = .extract x i){U:Option TypeId}
  (he:ev (.extract (opd P U x) i) id s=some (true,d,t)):aK P w0 base nt o a w t d:=by
 have hx:=h.opd (P:=P) U x;simp only[ev] at he;split at he
 ·rename_i l hk;simp only[Option.map_eq_some_iff,Prod.mk.injEq,true_and] at he;obtain⟨e,hl,rfl,rfl⟩:=he;rw[hk] at hx;have hx:=hx.inv;generalize hxv:a.eval x=v at hx;cases hx with
  |tup cs _ h1 h2 =>
  refine aP h (v:=cs.getD i undef) ?_ (.p _ _ (h2 i e hl));have hlt:=(List.getElem?_eq_some_iff.1 hl).1;have:cs[i]? = some (cs.getD i undef):=by simp[h1,hlt]
  simp only[execOp,ho,hxv,Instr.extract,this];simp
 ·rename_i l hk;simp only[Option.map_eq_some_iff,Prod.mk.injEq,true_and] at he;obtain⟨e,hl,rfl,rfl⟩:=he;rw[hk] at hx;generalize hxv:a.eval x=v at hx;cases hx with
  |tup cs _ h1 h2 =>
  refine aP h (v:=cs.getD i undef) ?_ (h2 i e hl);have hlt:=(List.getElem?_eq_some_iff.1 hl).1;have:cs[i]? = some (cs.getD i undef):=by simp[h1,hlt]
  simp only[execOp,ho,hxv,Instr.extract,this];simp
 ·cases he
end
theorem ez {k:IntKind}{n:Int} (h:inK k n=true):k.wrap n=n:=by
 cases k<;>simp only[inK,decide_eq_true_eq] at h<;>simp only[IntKind.wrap,IntKind.signed,IntKind.bits,Bool.true_and,Bool.false_and,ge_iff_le,decide_eq_true_eq,Bool.false_eq_true,if_false]<;>first | (split<;>omega) | omega
theorem FL (k:IntKind):∃W,W≤k.bits∧∀m:Nat,inK k (m:Int)=true↔m<2^W:=by
 cases k
 ·exact⟨7,by decide,fun m=>by simp only[inK,decide_eq_true_eq];omega⟩
 ·exact⟨15,by decide,fun m=>by simp only[inK,decide_eq_true_eq];omega⟩
 ·exact⟨31,by decide,fun m=>by simp only[inK,decide_eq_true_eq];omega⟩
 ·exact⟨63,by decide,fun m=>by simp only[inK,decide_eq_true_eq];omega⟩
 ·exact⟨8,by decide,fun m=>by simp only[inK,decide_eq_true_eq];omega⟩
 ·exact⟨16,by decide,fun m=>by simp only[inK,decide_eq_true_eq];omega⟩
 ·exact⟨32,by decide,fun m=>by simp only[inK,decide_eq_true_eq];omega⟩
 ·exact⟨64,by decide,fun m=>by simp only[inK,decide_eq_true_eq];omega⟩
theorem FM {W m n:Nat} (hm:m<2^W) (hn:n<2^W):m &&& (2^W-1-n)=m ^^^ (m &&& n):=by
 refine Nat.eq_of_testBit_eq fun i => ?_
 rw[show 2^W-1-n=2^W-(n+1) by omega,Nat.testBit_and,Nat.testBit_two_pow_sub_succ hn,Nat.testBit_xor,Nat.testBit_and];by_cases hi:i<W
 ·cases m.testBit i<;>cases n.testBit i<;>simp[hi]
 ·have:m.testBit i=false:=Nat.testBit_lt_two_pow (Nat.lt_of_lt_of_le hm (Nat.pow_le_pow_right (by decide) (by omega)));simp[this]
theorem jD {k:IntKind}{a b:Int} (h:cC k a b=true) (op:BinOp) (ho:op = .and∨op = .or∨op = .xor∨op = .andNot):Op.intBits op k a b=pure (.int k (a6 op a.toNat b.toNat:Nat)):=by
 simp only[cC,Bool.and_eq_true,decide_eq_true_eq] at h;obtain⟨⟨⟨h1,h2⟩,h3⟩,h4⟩:=h;obtain⟨m,rfl⟩:=Int.eq_ofNat_of_zero_le h1;obtain⟨n,rfl⟩:=Int.eq_ofNat_of_zero_le h2;obtain⟨W,hW,hk⟩:=FL k;have hm:=(hk m).1 h3;have hn:=(hk n).1 h4;have hpow:2^W≤2^k.bits:=Nat.pow_le_pow_right (by decide) hW;have toN:∀m:Nat,m<2^W→(BitVec.ofInt k.bits (m:Int)).toNat=m:=fun m hm=>by
  rw[BitVec.toNat_ofInt,←Int.natCast_emod,Int.toNat_natCast,Nat.mod_eq_of_lt (by omega)]
 have hb:∀r:Nat,r<2^W→k.wrap (r:Int)=r:=fun r hr=>ez ((hk r).2 hr)
 simp only[Int.toNat_natCast];have hx:m &&& n<2^W:=Nat.lt_of_le_of_lt Nat.and_le_left hm;rcases ho with rfl | rfl | rfl | rfl
 ·simp only[Op.intBits,a6,BitVec.toNat_and,toN m hm,toN n hn,hb _ hx]
 ·simp only[Op.intBits,a6,BitVec.toNat_or,toN m hm,toN n hn,hb _ (Nat.or_lt_two_pow hm hn)]
 ·simp only[Op.intBits,a6,BitVec.toNat_xor,toN m hm,toN n hn,hb _ (Nat.xor_lt_two_pow hm hn)]
 ·have e:=FM (W:=k.bits) (m:=m) (n:=n) (by omega) (by omega);simp only[Op.intBits,a6,BitVec.toNat_and,BitVec.toNat_not,toN m hm,toN n hn,e,hb _ (Nat.xor_lt_two_pow hm hx)]
theorem pc (x y:ByteArray):(x.toList == y.toList)=decide (x.data.toList=y.data.toList):=by
 rw[ByteArray.toList_eq,ByteArray.toList_eq,Bool.eq_iff_iff];simp only[beq_iff_eq,decide_eq_true_eq]
section
variable {P:Program}{w0:World}{base:Bs}{nt:Nat}{loc:aU}{s t:St}{a:Act}{w:World}{o:Oper}{id:Nat}{d:AV}
theorem pd {T:TypeId} (hT:P.underlying T=some .bool) (p q:Bool):(Op.equal T (.bool p) (.bool q)).run P w = .ok (p == q) w:=by
 have hd:Op.maxDepth=9999+1:=rfl;unfold Op.equal;rw[hd,Op.equalIn];simp only[Sem.run_bind,run_underlying hT,Result.andThen];rfl
theorem FN {T:TypeId} (hT:P.underlying T=some .bool) (p q:Bool):(binOp .eql T (.bool p) (.bool q)).run P w = .ok (.bool (p == q)) w:=by
 unfold binOp;simp[pd hT]
theorem FO {T:TypeId} (hT:P.underlying T=some .bool) (p q:Bool):(binOp .neq T (.bool p) (.bool q)).run P w = .ok (.bool (!(p == q))) w:=by
 unfold binOp;simp[pd hT]
theorem FP {T:TypeId}{op:UnOp}{x:Operand} (h:Rel w0 base nt loc s a w) (ho:o.op = .unOp op T x){U:Option TypeId}
  (he:ev (.un op (opd P U x)) id s=some (true,d,t)):aK P w0 base nt o a w t d:=by
 have hx:=h.opd (P:=P) U x;simp only[ev] at he;split at he
 ·rename_i e hk;split at he
  ·rename_i c q hq;simp only[Option.some.injEq,Prod.mk.injEq] at he;obtain⟨rfl,rfl,rfl⟩:=he;rw[hk] at hx;have hx:=hx.inv;generalize hxv:a.eval x=v at hx;cases hx with
   |int k n =>
    cases op with
    |neg =>
     simp only[unD,Option.some.injEq,Prod.mk.injEq] at hq;obtain⟨h1,rfl⟩:=hq;refine aP h (v:=.int k (-n)) ?_ (.p _ _ (.int _ _));have:=ez h1;simp[execOp,ho,hxv,Op.unary,Op.intArith,this]
    |_=>simp[unD] at hq
   |bool b =>
    cases op with
    |not =>
     simp only[unD,Option.some.injEq,Prod.mk.injEq,true_and] at hq;subst hq;refine aP h (v:=.bool (!b)) ?_ (.p _ _ (.bool _));simp[execOp,ho,hxv,Op.unary]
    |_=>simp[unD] at hq
   |_=>simp[unD] at hq
  ·cases he
 ·cases he
theorem FQ {S T:TypeId}{k:IntKind}{ds:TypeDesc}{x:Operand} (h:Rel w0 base nt loc s a w) (ho:o.op = .convert S T x) (hS:P.underlying S=some ds) (hT:P.underlying T=some (.int k)){U:Option TypeId}
  (he:ev (.conv k (opd P U x)) id s=some (true,d,t)):aK P w0 base nt o a w t d:=by
 have hx:=h.opd (P:=P) U x;simp only[ev] at he;split at he
 ·rename_i k' n hk;simp only[Option.some.injEq,Prod.mk.injEq] at he;obtain⟨h1,rfl,rfl⟩:=he;rw[hk] at hx;have hx:=hx.inv;generalize hxv:a.eval x=v at hx;cases hx;refine aP h (v:=.int k n) ?_ (.p _ _ (.int _ _));have:=ez h1;simp[execOp,ho,hxv,convert,run_underlying hS,run_underlying hT,Conv.intToInt,this]
 ·cases he
theorem lC {T:TypeId}{op:BinOp}{x y:Operand}{Y:TypeId} (h:Rel w0 base nt loc s a w) (ho:o.op = .binOp op T x y Y){bo:Bool} (hb:bo=true→P.underlying T=some .bool){U W:Option TypeId}
  (he:ev (.bin bo op (opd P U x) (opd P W y)) id s=some (true,d,t)):aK P w0 base nt o a w t d:=by
 have hx:=h.opd (P:=P) U x;have hy:=h.opd (P:=P) W y;simp only[ev] at he;split at he
 case h_2=>cases he
 rename_i e f hk hk';split at he
 case isFalse=>cases he
 rename_i hbo;split at he
 case h_2=>cases he
 rename_i c q hq;simp only[Option.some.injEq,Prod.mk.injEq] at he;obtain⟨rfl,rfl,rfl⟩:=he;rw[hk] at hx;rw[hk'] at hy;have hx:=hx.inv;have hy:=hy.inv;generalize hxv:a.eval x=v at hx;generalize hyv:a.eval y=u at hy;have fin:∀z,V w (NB base s.m loc w) z q→(eqGuard op T x y v u >>= fun _=>binOp op T v u).run P w = .ok z w→aK P w0 base nt o a w s (.p q):=by
  intro z hz hr;refine aP h (v:=z) ?_ (.p _ _ hz);simp only[execOp,ho,hxv,hyv];exact eo hr
 cases hx with
 |int k m =>
  cases hy with
  |int k' n =>
   have hg:(eqGuard op T x y (.int k m) (.int k' n)).run P w = .ok () w:=by
    unfold eqGuard;cases op<;>simp
   by_cases hkk:k=k'
   ·subst hkk;cases op<;>simp only[aL,if_true,Option.some.injEq,Prod.mk.injEq,Bool.and_eq_true,decide_eq_true_eq] at hq<;>obtain⟨h1,rfl⟩:=hq
    case add=>exact fin _ (.int _ _) (by simp[hg,binOp,Op.intArith,ez h1])
    case sub=>exact fin _ (.int _ _) (by simp[hg,binOp,Op.intArith,ez h1])
    case mul=>exact fin _ (.int _ _) (by simp[hg,binOp,Op.intArith,ez h1])
    case quo=>exact fin _ (.int _ _) (by simp[hg,binOp,Op.intDiv,ez h1.2,h1.1])
    case rem=>exact fin _ (.int _ _) (by simp[hg,binOp,Op.intDiv,h1])
    case and=>exact fin _ (.int _ _) (by simp[hg,binOp,jD h1 .and (by simp)])
    case or=>exact fin _ (.int _ _) (by simp[hg,binOp,jD h1 .or (by simp)])
    case xor=>exact fin _ (.int _ _) (by simp[hg,binOp,jD h1 .xor (by simp)])
    case andNot=>exact fin _ (.int _ _) (by simp[hg,binOp,jD h1 .andNot (by simp)])
    case shl=>exact fin _ (.int _ _) (by simp[hg,binOp,shift_shl k _ m n h1.1.1 (by omega),ez h1.2])
    case shr=>exact fin _ (.int _ _) (by simp[hg,binOp,shift_shr k _ m n h1.1 (by omega)])
    case eql=>exact fin _ (.bool _) (by simp[hg,binOp,Op.intCmp];rfl)
    case neq=>exact fin _ (.bool _) (by simp[hg,binOp,Op.intCmp];rfl)
    case lss=>exact fin _ (.bool _) (by simp[hg,binOp,Op.intCmp])
    case leq=>exact fin _ (.bool _) (by simp[hg,binOp,Op.intCmp])
    case gtr=>exact fin _ (.bool _) (by simp[hg,binOp,Op.intCmp])
    case geq=>exact fin _ (.bool _) (by simp[hg,binOp,Op.intCmp])
   ·cases op<;>simp only[aL,hkk,if_false,Option.some.injEq,Prod.mk.injEq,Bool.and_eq_true,decide_eq_true_eq,reduceCtorEq] at hq<;>obtain⟨h1,rfl⟩:=hq
    case shl=>exact fin _ (.int _ _) (by simp[hg,binOp,shift_shl k _ m n h1.1.1 (by omega),ez h1.2])
    case shr=>exact fin _ (.int _ _) (by simp[hg,binOp,shift_shr k _ m n h1.1 (by omega)])
  |_=>simp[aL] at hq
 |str m =>
  cases hy with
  |str n =>
   have hg:(eqGuard op T x y (.string m) (.string n)).run P w = .ok () w:=by
    unfold eqGuard;cases op<;>simp
   cases op<;>simp only[aL,Option.some.injEq,Prod.mk.injEq,decide_eq_true_eq,reduceCtorEq] at hq<;>obtain⟨h1,rfl⟩:=hq
   case add =>
    have e:(m.data.toList++n.data.toList)=(m++n).data.toList:=by simp
    exact fin (.string (m++n)) (by rw[e];exact .str _) (by
     have hle:¬ ((9223372036854775807:Int)<(m.size:Int)+n.size):=by
      have h2:m.data.size=m.size:=rfl;have h3:n.data.size=n.size:=rfl;simp at h1;omega
     simp[hg,binOp,Op.stringOp,hle])
   case eql=>exact fin _ (.bool _) (by simp[hg,binOp,Op.stringOp,pc])
   case neq=>exact fin _ (.bool _) (by simp[hg,binOp,Op.stringOp,pc])
  |_=>simp[aL] at hq
 |bool m =>
  have hT:=hb hbo.symm;cases hy with
  |bool n =>
   have hg:(eqGuard op T x y (.bool m) (.bool n)).run P w = .ok () w:=by
    unfold eqGuard;cases op<;>simp
   cases op<;>simp only[aL,Option.some.injEq,Prod.mk.injEq,true_and,reduceCtorEq] at hq<;>subst hq
   case eql=>exact fin _ (.bool _) (by simp only[Sem.run_bind,hg,Result.andThen,FN hT])
   case neq=>exact fin _ (.bool _) (by simp only[Sem.run_bind,hg,Result.andThen,FO hT])
  |_=>simp[aL] at hq
 |_=>simp[aL] at hq
theorem pf {T:TypeId}{x:Operand}{c:Call} (ho:o.op = .call c) (hc:c.callee = .builtin .len) (ha:c.args.toList=[x]) (hT:c.argTypes.toList=[T]){v:Value}{n:Nat} (hv:a.eval x=v)
  (hr:(Builtin.len_ #[T] o.type #[v]).run P w = .ok (.int .i64 n) w):(execOp a.eval o).run P w = .ok (.value (.int .i64 n)) w:=by
 have ha':c.args = #[x]:=by rw[←Array.toList_inj];exact ha
 have hT':c.argTypes = #[T]:=by rw[←Array.toList_inj];exact hT
 subst hv;simp[execOp,ho,resolve,hc,ha',hT',invoke,builtin,hr]
theorem FR {T:TypeId}{x:Operand}{c:Call} (ho:o.op = .call c) (hc:c.callee = .builtin .cap) (ha:c.args.toList=[x]) (hT:c.argTypes.toList=[T]){v:Value}{n:Nat} (hv:a.eval x=v)
  (hr:(Builtin.cap_ #[T] o.type #[v]).run P w = .ok (.int .i64 n) w):(execOp a.eval o).run P w = .ok (.value (.int .i64 n)) w:=by
 have ha':c.args = #[x]:=by rw[←Array.toList_inj];exact ha
 have hT':c.argTypes = #[T]:=by rw[←Array.toList_inj];exact hT
 subst hv;simp[execOp,ho,resolve,hc,ha',hT',invoke,builtin,hr]
theorem FS {T e:TypeId}{x:Operand}{c:Call} (h:Rel w0 base nt loc s a w) (ho:o.op = .call c) (hc:c.callee = .builtin .cap) (ha:c.args.toList=[x]) (hT:c.argTypes.toList=[T])
  (hu:P.underlying T=some (.slice e)){U:Option TypeId}
  (he:ev (.cap (opd P U x)) id s=some (true,d,t)):aK P w0 base nt o a w t d:=by
 have hx:=h.opd (P:=P) U x;simp only[ev] at he;split at he
 ·rename_i T' sz hk;simp only[Option.some.injEq,Prod.mk.injEq,true_and] at he;obtain⟨rfl,rfl⟩:=he;rw[hk] at hx;have hx:=hx.inv;generalize hxv:a.eval x=v at hx;cases hx;exact aP h (FR ho hc ha hT hxv (by simp[Builtin.cap_,run_underlying hu,goInt])) (.p _ _ (.int _ _))
 ·cases he
theorem FT {x y:Operand}{c:Call}{mx:Bool} (ho:o.op = .call c) (hc:c.callee = .builtin (if mx then .max else .min)) (ha:c.args.toList=[x,y]){k:IntKind}{p q:Int} (hx:a.eval x = .int k p) (hy:a.eval y = .int k q) :
  (execOp a.eval o).run P w = .ok (.value (.int k (if mx then (if q > p then q else p) else (if q<p then q else p)))) w:=by
 have ha':c.args = #[x,y]:=by rw[←Array.toList_inj];exact ha
 cases mx<;>simp[execOp,ho,resolve,hc,ha',invoke,builtin,Builtin.max_,Builtin.min_,Builtin.max2,Builtin.min2,hx,hy]
theorem pg {x y:Operand}{c:Call}{mx:Bool} (h:Rel w0 base nt loc s a w) (ho:o.op = .call c) (hc:c.callee = .builtin (if mx then .max else .min)) (ha:c.args.toList=[x,y]){U W:Option TypeId}
  (he:ev (.mm mx (opd P U x) (opd P W y)) id s=some (true,d,t)):aK P w0 base nt o a w t d:=by
 have hx:=h.opd (P:=P) U x;have hy:=h.opd (P:=P) W y;simp only[ev] at he;split at he
 ·rename_i k p k' q hk hk2;split at he
  case isFalse=>cases he
  rename_i hkk;subst hkk;simp only[Option.some.injEq,Prod.mk.injEq,true_and] at he;obtain⟨rfl,rfl⟩:=he;rw[hk] at hx;rw[hk2] at hy;have hx:=hx.inv;have hy:=hy.inv;generalize hxv:a.eval x=v at hx;generalize hyv:a.eval y=u at hy;cases hx;cases hy;exact aP h (FT ho hc ha hxv hyv) (.p _ _ (.int _ _))
 ·cases he
theorem FU {T:TypeId}{x:Operand}{c:Call} (h:Rel w0 base nt loc s a w) (ho:o.op = .call c) (hc:c.callee = .builtin .len) (ha:c.args.toList=[x]) (hT:c.argTypes.toList=[T])
  (hu:P.underlying T=some .string){U:Option TypeId}
  (he:ev (.lenS (opd P U x)) id s=some (true,d,t)):aK P w0 base nt o a w t d:=by
 have hx:=h.opd (P:=P) U x;simp only[ev] at he;split at he
 ·rename_i l hk;simp only[Option.some.injEq,Prod.mk.injEq,true_and] at he;obtain⟨rfl,rfl⟩:=he;rw[hk] at hx;have hx:=hx.inv;generalize hxv:a.eval x=v at hx;cases hx with
  |str q =>
  refine aP h (pf ho hc ha hT hxv ?_) (.p _ _ (.int _ _));have:q.data.size=q.size:=rfl;simp[Builtin.len_,run_underlying hu,goInt,this]
 ·cases he
theorem FV {T e:TypeId}{x:Operand}{c:Call} (h:Rel w0 base nt loc s a w) (ho:o.op = .call c) (hc:c.callee = .builtin .len) (ha:c.args.toList=[x]) (hT:c.argTypes.toList=[T])
  (hu:P.underlying T=some (.slice e)){U:Option TypeId}
  (he:ev (.len (opd P U x)) id s=some (true,d,t)):aK P w0 base nt o a w t d:=by
 have hx:=h.opd (P:=P) U x;have fin:∀p (n:Nat) cap,a.eval x = .slice p n cap→aK P w0 base nt o a w s (.p (.int .i64 n)):=fun p n cap hv =>
  aP h (pf ho hc ha hT hv (by simp[Builtin.len_,run_underlying hu,goInt])) (.p _ _ (.int _ _))
 simp only[ev] at he;split at he
 ·rename_i T' sz hk;simp only[Option.some.injEq,Prod.mk.injEq,true_and] at he;obtain⟨rfl,rfl⟩:=he;rw[hk] at hx;have hx:=hx.inv;generalize hxv:a.eval x=v at hx;cases hx;exact fin _ 0 _ hxv
 ·rename_i T' sz l hk;simp only[Option.some.injEq,Prod.mk.injEq,true_and] at he;obtain⟨rfl,rfl⟩:=he;rw[hk] at hx;have hx:=hx.inv;generalize hxv:a.eval x=v at hx;cases hx with
  |empty p cap=>exact fin p 0 cap hxv
  |list b p cap=>exact fin _ _ _ hxv
 ·rename_i i off n hk;simp only[Option.some.injEq,Prod.mk.injEq,true_and] at he;obtain⟨rfl,rfl⟩:=he;rw[hk] at hx;generalize hxv:a.eval x=v at hx;cases hx with
  |slice=>exact fin _ _ _ hxv
  |sliceEmp=>exact fin _ 0 _ hxv
 ·rename_i T' sz hk;simp only[Option.some.injEq,Prod.mk.injEq,true_and] at he;obtain⟨rfl,rfl⟩:=he;rw[hk] at hx;generalize hxv:a.eval x=v at hx;cases hx;exact fin _ 0 _ hxv
 ·rename_i i off n hk;simp only[Option.some.injEq,Prod.mk.injEq,true_and] at he;obtain⟨rfl,rfl⟩:=he;rw[hk] at hx;generalize hxv:a.eval x=v at hx;cases hx with
  |arr=>exact fin _ _ _ hxv
  |arrEmp=>exact fin _ 0 _ hxv
 ·cases he
theorem dX {lo hi mx:Option Operand}{len cap l n:Nat} (b:Bool) (h:Rel w0 base nt loc s a w) (hlc:len≤cap) (hm:mx.isSome=true→hi.isSome=true){c:Bool} (hc:c=true)
  (hb:bL s.r len (lo.map (opd P none)) (hi.map (opd P none)) (mx.map (opd P none))=some (c,l,n)) :
  ∃m,(Instr.sliceBounds b len cap (lo.map a.eval) (hi.map a.eval) (mx.map a.eval)).run P w = .ok (l,n,m) w∧l≤n∧n≤len∧n≤m∧m≤cap:=by
 subst hc;unfold bL at hb;split at hb
 case h_2=>cases hb
 rename_i L N hL hN;have eLo:∀y,lo=some y→∃k,a.eval y = .int k L:=by rintro y rfl;exact cY h hL
 have eHi:∀y,hi=some y→∃k,a.eval y = .int k N:=by rintro y rfl;exact cY h hN
 have nLo:lo=none→L=0:=by rintro rfl;simpa using hL.symm
 have nHi:hi=none→N=len:=by rintro rfl;simpa using hN.symm
 have sb:∀k (i:Int) (y:Nat) code,0≤i→i≤y→(Instr.sliceBound (.int k i) y code).run P w = .ok i.toNat w:=by
  intro k i y code h0 h1;simp[Instr.sliceBound,asIntOf,h0,h1]
 cases mx with
 |none =>
  simp only[Option.map_none,Option.some.injEq,Prod.mk.injEq,decide_eq_true_eq] at hb;obtain⟨⟨h0,h1,h2⟩,rfl,rfl⟩:=hb;refine⟨cap,?_,by omega,by omega,by omega,by omega⟩;unfold Instr.sliceBounds;cases hi with
  |none =>
   have hNl:=nHi rfl;subst hNl;cases lo with
   |none=>have hL0:=nLo rfl;subst hL0;simp
   |some y =>
    obtain⟨k,hk⟩:=eLo y rfl;have hs:=sb k L len (if (none:Option Value).isSome=true then BoundsCode.slice3C else BoundsCode.sliceB) h0 h1;simp only[Option.isSome_none,Bool.false_eq_true,if_false] at hs;simp[hk,hs]
  |some z =>
   obtain⟨k',hk'⟩:=eHi z rfl;have hs':=sb k' N cap (if b=true then BoundsCode.sliceAcap else BoundsCode.sliceAlen) (by omega) (by omega);cases lo with
   |none=>have hL0:=nLo rfl;subst hL0;simp[hk',hs']
   |some y =>
    obtain⟨k,hk⟩:=eLo y rfl;have hs:=sb k L N.toNat BoundsCode.sliceB h0 (by omega);simp[hk,hk',hs,hs']
 |some q =>
  simp only[Option.map_some] at hb;split at hb
  case h_2=>cases hb
  rename_i M hM;simp only[Option.some.injEq,Prod.mk.injEq,decide_eq_true_eq] at hb;obtain⟨⟨h0,h1,h2,h3⟩,rfl,rfl⟩:=hb;obtain⟨k'',hk''⟩:=cY h hM;refine⟨M.toNat,?_,by omega,by omega,by omega,by omega⟩;unfold Instr.sliceBounds;have hs'':=sb k'' M cap (if b=true then BoundsCode.slice3Acap else BoundsCode.slice3Alen) (by omega) (by omega);cases hi with
  |none=>simp at hm
  |some z =>
   obtain⟨k',hk'⟩:=eHi z rfl;have hs':=sb k' N M.toNat BoundsCode.slice3B (by omega) (by omega);cases lo with
   |none=>have hL0:=nLo rfl;subst hL0;simp[hk',hs',hk'',hs'']
   |some y =>
    obtain⟨k,hk⟩:=eLo y rfl;have hs:=sb k L N.toNat BoundsCode.slice3C h0 (by omega);simp[hk,hk',hs,hs',hk'',hs'']
end
end Go.Proofs.Ytdchbabgopglcaa.M
