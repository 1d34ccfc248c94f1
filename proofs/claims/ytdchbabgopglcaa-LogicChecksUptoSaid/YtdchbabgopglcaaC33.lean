/- Lemmas. -/
import Derived.Test.YtdchbabgopglcaaC28
import Derived.Test.YtdchbabgopglcaaC3
import Derived.Deep.RegionHeld3
import Derived.OneCell
import Derived.Deep.DeepCutAuto
set_option linter.unusedVariables false
namespace Go.Proofs.Ytdchbabgopglcaa
open Go.RowKit Go.Proofs.Ytdchbabgopglcaa.M
set_option maxRecDepth 100000
set_option maxHeartbeats 1000000
abbrev NdT:Nat:=46
abbrev NsT:Nat:=41
abbrev WkT:Nat:=58
theorem Rr {P:Program} (w:World){ops:Array Oper}{rest:List Oper}{o:Oper}{a:Act}{Q:Exit→Act→World→Prop} (hgd:o.guard=none) (sl x:Operand) (t:TypeId)
  (ho:o.op = .call { callee:=.builtin .append,args:=#[sl,x],argTypes:=#[t,t] })
  (E:TypeId) (size bytes:Nat) (z:Value) (ht:P.underlying t=some (.slice E)) (hinfo:(P.info? E).map (fun i=>(i.zero,i.size,i.bytes))=some (some z,size,bytes)) (hz:z.cells.size=size) (hsz:0<size)
  (W0:World) (v:Value) (n:Nat) (xs news:List Value) (hs:a.eval sl=v) (hx:a.eval x = .slice (some ⟨w.heap.size,0,none⟩) 1 1) (hown:w.ownsRow W0.heap.size E size v n xs) (hE:Ext W0 w)
  (hl:news.length=size) (h1:∀u∈news,u.oneCell'=true) (hb:(n+1)*bytes≤140737488355328) (h63:n+1≤9223372036854775807)
  (w2:World) (hw2:w2=w.alloc (.cells news.toArray E)) (h:∀(sa:Option Addr) (sn sc:Nat) (w':World),w'.ownsRow W0.heap.size E size (.slice sa sn sc) (n+1) (xs++news)→Ext W0 w'→(∀T,T≠E→aZ T w w')→wpList P ops Q rest (a.put o.dst (.slice sa sn sc)) w') :
  wpList P ops Q (o::rest) a w2:=by
 subst hw2;obtain⟨i,hi,hz0,hz1,hz2⟩:=info_parts hinfo;have hown':(w.alloc (.cells news.toArray E)).ownsRow W0.heap.size E size v n xs:=by
  obtain⟨g1,g2⟩:=hown;refine⟨g1,?_⟩;rcases g2 with g2 | ⟨g,cap,cur,hv,hb,hg,rest⟩
  ·exact .inl g2
  ·exact .inr ⟨g,cap,cur,hv,hb,(((Ext.rf w).al _).block g (Array.getElem?_eq_some_iff.1 hg).1).trans hg,rest⟩
 refine wpList_append_own _ hgd sl x t ho W0.heap.size E i _ size bytes ht hi hz0 hz1 hz2 hz hsz v n xs hs hown' ⟨w.heap.size,0,none⟩ 1 1 news hx (by rw[hl,Nat.one_mul])
  (by
   intro j u hu;have hj:=(List.getElem?_eq_some_iff.1 hu).1;have:(⟨w.heap.size,0,none⟩:Addr).add j=⟨w.heap.size,0+j,none⟩:=by unfold Addr.add;split<;>simp_all
   rw[this,Nat.zero_add,dn (heap_alloc_new w _) (by simpa using hj)];simp[hu]) h1 h63 hb (Nat.le_trans hE.size (by simp)) ?_
 intro v' w' hown2 hgr hnil;have hform:∃sa sn sc,v' = .slice sa sn sc:=by
  rcases hown2.2 with⟨e,_⟩ | ⟨g,cap,cur,e,_⟩
  ·exact⟨_,_,_,e⟩
  ·exact⟨_,_,_,e⟩
 obtain⟨sa,sn,sc,rfl⟩:=hform;refine h sa sn sc w' hown2 ((hE.al _).gr hgr ?_) ?_
 ·intro g hg;rcases hown.2 with⟨e,_⟩ | ⟨g',cap,cur,e,hb',_⟩
  ·rw[e] at hg;cases hg
  ·rw[e] at hg;simp only[Value.ownBlock,Option.some.injEq] at hg;omega
 ·intro T hT b hb;refine (hgr.block b (by have:=hb.lt;simp;omega) ?_).trans (Below.heap_alloc _ _ _ hb.lt);intro e;rcases hown.2 with⟨e',_⟩ | ⟨g',cap,cur,e',_,hg',_⟩
  ·rw[e'] at e;cases e
  ·rw[e'] at e;simp only[Value.ownBlock,Option.some.injEq] at e;subst e;exact Ty.ne_ hb ⟨_,_,hg'⟩ hT rfl
section
variable {w:World}{N:Nat→Prop}{T U X:Nat}
theorem qT {v:Value}{kd rel vv k:Int}{p:List At}{gs:List Fm} (h:V w N v (.ref (fmD T U X (.mk kd p rel vv k gs)))) :
  ∃b o sv,v = .pointer (some ⟨b,o,none⟩)∧N b∧b<w.heap.size∧w.cell? ⟨b,o,none⟩=some (.int .i64 kd)∧w.cell? ⟨b,o+3,none⟩=some (.int .i64 vv)∧w.cell? ⟨b,o+5,none⟩=some sv∧V w N sv (.list X 6 (bi T U X gs)):=by
 generalize he:fmD T U X (.mk kd p rel vv k gs)=e at h;rw[fmD] at he;subst he;cases h with
 |ref b o T' e c fr h1 h2 h3 h4 h5 =>
  have hlt:b<w.heap.size:=by
   rcases Nat.lt_or_ge b w.heap.size with h | h
   ·exact h
   ·rw[Array.getElem?_eq_none h] at h1;cases h1
  have g:=fun j d hd=>dn h1 (h4 j d hd)
  have e0:=g 0 _ rfl;have e3:=g 3 _ rfl;have e5:=g 5 _ rfl;have v0:=h5 0 _ rfl;have v3:=h5 3 _ rfl;have v5:=h5 5 _ rfl;refine⟨b,o,_,rfl,h2,hlt,?_,?_,e5,v5⟩
  ·rw[Nat.add_zero] at e0 v0;rw[e0];generalize c.getD o undef=y at v0;cases v0;rfl
  ·rw[e3];generalize c.getD (o+3) undef=y at v3;cases v3;rfl
theorem Rs {sv:Value}{gs:List Fm} (h:V w N sv (.list X 6 (bi T U X gs))):∃ao cap,sv = .slice ao gs.length cap∧gs.length≤cap∧cap≤9223372036854775807∧∀i (hi:i<gs.length),∃b o,ao=some ⟨b,o,none⟩∧V w N (.pointer (some ⟨b,o+i*6,none⟩)) (.ref (fmD T U X gs[i])):=by
 generalize he:D.list X 6 (bi T U X gs)=e at h;cases h with
 |empty a cap T' sz hc =>
  injection he with _ _ he
  rw[eN] at he;have:gs=[]:=by cases gs<;>simp_all
  subst this;exact⟨a,cap,rfl,Nat.zero_le _,hc,fun i hi=>absurd hi (by simp)⟩
 |list b o cap T' sz l c fr h1 h2 h3 h4 h5 h6 h7 =>
  injection he with e1 e2 e3
  subst e1 e2 e3;have hlen:(bi T U X gs).length=gs.length:=by rw[eN,List.length_map]
  rw[hlen] at h3;refine⟨some ⟨b,o,none⟩,cap,by rw[hlen],h3,h4,fun i hi=>⟨b,o,rfl,?_⟩⟩;have hgi:(bi T U X gs)[i]? = some (fmD T U X gs[i]):=by rw[eN];simp[hi]
  obtain⟨T2,hb,-⟩:=h1;refine .ref b (o+i*6) T2 _ c fr hb h2 (h5 _ (List.mem_of_getElem? hgi)).2 (fun j d hd => ?_) (fun j d hd => ?_)
  ·have:=h6 i _ j d hgi hd;omega
  ·have:=h7 i _ j d hgi hd
   rwa[show o+i*6+j=o+(i*6+j) by omega]
 |_=>cases he
end
mutual
def ndM:Fm→Nat→List (Fm×Nat)
 |.mk kd p rel v k gs,m=>(.mk kd p rel v k gs,m)::cd gs (if kd=8∨kd=9 then mk1 m v else m)
def cd:List Fm→Nat→List (Fm×Nat)
 |[],_=>[]
 |a::l,m=>ndM a m++cd l m
end
theorem mr:∀(l r:List Fm) (m:Nat),cd (l++r) m=cd l m++cd r m
 |[],r,m=>by rw[cd];rfl
 |a::l,r,m=>by rw[List.cons_append,cd,cd,mr l r m,List.append_assoc]
theorem Rt {l:List Fm}{i:Nat} (h:i<l.length) (m:Nat):cd (l.take (i+1)) m=cd (l.take i) m++ndM l[i] m:=by
 rw[List.take_succ_eq_append_getElem h,mr,cd,cd,List.append_nil]
theorem Ru {l:List Fm} (i:Nat) (m:Nat):(cd (l.take i) m).length≤(cd l m).length:=by
 conv=>rhs;rw[←List.take_append_drop i l,mr,List.length_append]
 omega
def ndC (L:List (Value×Nat)):List Value:=L.flatMap fun x=>[x.1,.int .u64 x.2]
theorem Rv (L M:List (Value×Nat)):ndC (L++M)=ndC L++ndC M:=by simp[ndC]
inductive Mt (w:World) (N:Nat→Prop) (T U X:Nat):List (Value×Nat)→List (Fm×Nat)→Prop
 |nil:Mt w N T U X [] []
 |cons {v:Value}{f:Fm}{k:Nat}{l:List (Value×Nat)}{m:List (Fm×Nat)}:V w N v (.ref (fmD T U X f))→Mt w N T U X l m→Mt w N T U X ((v,k)::l) ((f,k)::m)
theorem Mt.app {w:World}{N:Nat→Prop}{T U X:Nat}{l l':List (Value×Nat)}{m m':List (Fm×Nat)} (h:Mt w N T U X l m) (k:Mt w N T U X l' m'):Mt w N T U X (l++l') (m++m'):=by
 induction h with
 |nil=>exact k
 |cons hv _ ih=>exact .cons hv ih
theorem Mt.len {w:World}{N:Nat→Prop}{T U X:Nat}{l:List (Value×Nat)}{m:List (Fm×Nat)} (h:Mt w N T U X l m):l.length=m.length:=by
 induction h with
 |nil=>rfl
 |cons hv _ ih=>rw[List.length_cons,List.length_cons,ih]
theorem ms (w:World) (b o:Nat) (kd:Int) (hc:w.cell? ⟨b,o,none⟩=some (.int .i64 kd)) :
  Calls Try.prog 15 #[.pointer (some ⟨b,o,none⟩)] w (fun e w'=>e = .returned (.bool (decide (kd=8∨kd=9)))∧w=w'):=by
 by_cases h8:kd=8
 ·subst h8;go_enter Try.func15,Try.ntmps15;go_wp2;go_ret;exact⟨rfl,rfl⟩
 ·by_cases h9:kd=9
  ·subst h9;go_enter Try.func15,Try.ntmps15;go_wp2;go_ret;exact⟨rfl,rfl⟩
  ·have e:decide (kd=8∨kd=9)=false:=decide_eq_false (by omega);rw[e];have d8:decide (kd=8)=false:=decide_eq_false h8;have d9:decide (kd=9)=false:=decide_eq_false h9;go_enter Try.func15,Try.ntmps15;go_wp2;go_ret;exact⟨by simp[h8,h9],rfl⟩
theorem kj:∀m:Fin 16,bits .or .u64 (m.1:Int) 1=((m.1 ||| 1 <<< 0:Nat):Int)∧bits .or .u64 (m.1:Int) 2=((m.1 ||| 1 <<< 1:Nat):Int)∧bits .or .u64 (m.1:Int) 4=((m.1 ||| 1 <<< 2:Nat):Int)∧bits .or .u64 (m.1:Int) 8=((m.1 ||| 1 <<< 3:Nat):Int):=by decide +kernel
theorem qU {w:World}{base:Nat}{e:TypeId}{size n:Nat}{v:Value}{xs:List Value} (h:w.ownsRow base e size v n xs):∃sa sn sc,v = .slice sa sn sc:=by
 rcases h.2 with⟨e,_⟩ | ⟨g,cap,cur,e,_⟩
 ·exact⟨_,_,_,e⟩
 ·exact⟨_,_,_,e⟩
theorem Rx:(Try.prog.info? NdT).map (fun i=>(i.zero,i.size,i.bytes))=some (some (.agg #[.pointer none,.int .u64 0]),2,16):=by kernel_rfl
abbrev WkV (bo bw:Nat):Value:=.func (.func 25) #[] #[.pointer (some ⟨bo,0,none⟩),.pointer (some ⟨bw,0,none⟩)]
theorem Ry (T U X:Nat) (f:Fm):∀(m:Nat) (W0 w:World) (N:Nat→Prop) (v s:Value) (L:List (Value×Nat)) (bo bw:Nat),m<16→(∀b,N b→b<W0.heap.size)→V W0 N v (.ref (fmD T U X f))→Ext W0 w→W0.heap.size≤bo→W0.heap.size≤bw →
  w.heap[bo]? = some (.cells #[s] NsT (0,0))→w.heap[bw]? = some (.cells #[WkV bo bw] WkT (0,0))→w.ownsRow W0.heap.size NdT 2 s L.length (ndC L)→(L.length+(ndM f m).length)*16≤140737488355328 →
  Calls Try.prog 25 #[v,.int .u64 m,.pointer (some ⟨bo,0,none⟩),.pointer (some ⟨bw,0,none⟩)] w (fun e w'=>e = .returned (.tuple #[])∧Ext W0 w'∧w'.heap[bw]? = some (.cells #[WkV bo bw] WkT (0,0)) ∧
   ∃s' L',w'.heap[bo]? = some (.cells #[s'] NsT (0,0))∧w'.ownsRow W0.heap.size NdT 2 s' (L++L').length (ndC (L++L'))∧Mt W0 N T U X L' (ndM f m)):=by
 refine Fm.ind (P:=fun f => ∀(m:Nat) (W0 w:World) (N:Nat→Prop) (v s:Value) (L:List (Value×Nat)) (bo bw:Nat),m<16→(∀b,N b→b<W0.heap.size)→V W0 N v (.ref (fmD T U X f))→Ext W0 w→W0.heap.size≤bo→W0.heap.size≤bw →
  w.heap[bo]? = some (.cells #[s] NsT (0,0))→w.heap[bw]? = some (.cells #[WkV bo bw] WkT (0,0))→w.ownsRow W0.heap.size NdT 2 s L.length (ndC L)→(L.length+(ndM f m).length)*16≤140737488355328 →
  Calls Try.prog 25 #[v,.int .u64 m,.pointer (some ⟨bo,0,none⟩),.pointer (some ⟨bw,0,none⟩)] w (fun e w'=>e = .returned (.tuple #[])∧Ext W0 w'∧w'.heap[bw]? = some (.cells #[WkV bo bw] WkT (0,0)) ∧
   ∃s' L',w'.heap[bo]? = some (.cells #[s'] NsT (0,0))∧w'.ownsRow W0.heap.size NdT 2 s' (L++L').length (ndC (L++L'))∧Mt W0 N T U X L' (ndM f m))) ?_ f
 intro kd p rel vv k gs ih m W0 w N v s L bo bw hm hN hV hE hbo hbw hco hcw hrow hroom;obtain⟨b,o,sv,rfl,hNb,hblt,c0,c3,c5,hsv⟩:=qT hV;obtain⟨ao,cap,rfl,g1,g2,g3⟩:=Rs hsv;have HV:=hd_ hV;clear hV hsv;rw[ndM,List.length_cons] at hroom;have hso:=cell_of_one hco;have hsf:=free_of_one hco;go_enter Try.func25,Try.ntmps25;go_upto_region 1 with ((refine Rr w (by rfl) _ _ NsT (by rfl) NdT 2 16 _ Try.underlying41 Rx rfl (by omega) W0 s L.length (ndC L) [.pointer (some ⟨b,o,none⟩),.int .u64 m] (by rfl) (by rfl) hrow hE rfl (by intro u hu;simp at hu;rcases hu with rfl | rfl<;>rfl) (by omega) (by omega) _ (by rfl) ?_);intro sa sn sc w1 hrow1 hE1 hk1;have hco1:=(hk1 NsT (by decide) bo ⟨_,_,hco⟩).trans hco;have q1:=cell_of_one hco1;have q2:=free_of_one hco1)
 have hE2:=hE1.st (p:=⟨bo,0,none⟩) hbo (.slice sa sn sc);have d0:=(hE2.cell (p:=⟨b,o,none⟩) hblt).trans c0;have d3:=(hE2.cell (p:=⟨b,o+3,none⟩) hblt).trans c3;have d5:=(hE2.cell (p:=⟨b,o+5,none⟩) hblt).trans c5;have hco2:=one_setCell (u:=.slice sa sn sc) hco1;have hcw2:(w1.setCell ⟨bo,0,none⟩ (.slice sa sn sc)).heap[bw]? = some (.cells #[WkV bo bw] WkT (0,0)):=(Below.heap_setCell _ _ _ _ (Ty.ne_ ⟨_,_,hcw⟩ ⟨_,_,hco⟩ (by decide))).trans ((hk1 WkT (by decide) bw ⟨_,_,hcw⟩).trans hcw);have hrow2:=ownsRow_setCell_other hrow1 (a:=⟨bo,0,none⟩) (by
  intro e;rcases hrow1.2 with⟨e',_⟩ | ⟨g',cap',cur,e',_,hg',_⟩
  ·rw[e'] at e;cases e
  ·rw[e'] at e;simp only[Value.ownBlock,Option.some.injEq] at e;subst e;exact Ty.ne_ ⟨_,_,hco1⟩ ⟨_,_,hg'⟩ (by decide) rfl) (.slice sa sn sc)
 generalize w1.setCell ⟨bo,0,none⟩ (.slice sa sn sc)=w2 at *;have C5:=hd_ c5;clear hso hsf hco hcw hrow q1 q2 hco1 hrow1 hk1 hE1 c0 c3 c5;obtain⟨M,hM⟩:∃M,M=if kd=8∨kd=9 then mk1 m vv else m:=⟨_,rfl⟩
 have HM:=hd_ hM;go_cut [28] (fun bb wc=>bb = .bool (decide ((kd=8∨kd=9)∧0≤vv∧vv<4))∧wc=w2)
 case first =>
  by_cases hq:kd=8∨kd=9
  ·have hqd:decide (kd=8∨kd=9)=true:=decide_eq_true hq;replace hq:=hd_ hq;by_cases h0:0≤vv
   ·have H0:=hd_ h0;go_wp2_with (go_at_call 15;refine (ms _ b o kd d0).mono ?_;rw[hqd];rintro e w' ⟨rfl,rfl⟩);go_meet
    case rel=>exact⟨congrArg Value.bool (decide_eq_decide.2 ⟨fun h=>⟨hq.out,H0.out,h⟩,fun h=>h.2.2⟩),rfl⟩
   ·have H0:=hd_ h0;go_wp2_with (go_at_call 15;refine (ms _ b o kd d0).mono ?_;rw[hqd];rintro e w' ⟨rfl,rfl⟩);go_meet
    case rel=>exact⟨congrArg Value.bool (decide_eq_false fun h=>absurd h.2.1 (by have:=H0.out;omega)).symm,rfl⟩
  ·have hqd:decide (kd=8∨kd=9)=false:=decide_eq_false hq;replace hq:=hd_ hq;go_wp2_with (go_at_call 15;refine (ms _ b o kd d0).mono ?_;rw[hqd];rintro e w' ⟨rfl,rfl⟩);go_meet
   case rel=>exact⟨congrArg Value.bool (decide_eq_false fun h=>absurd h.1 hq.out).symm,rfl⟩
 case rest =>
  obtain⟨rfl,rfl⟩:=hcut;go_upto_if 28 with fail
  go_cut [1] (fun ab wd=>ab = .int .u64 (M:Nat)∧wd=wc)
  case first =>
   by_cases hc:(kd=8∨kd=9)∧0≤vv∧vv<4
   ·have hcd:decide ((kd=8∨kd=9)∧0≤vv∧vv<4)=true:=decide_eq_true hc;rw[hcd];obtain⟨hc1,hc2,hc3⟩:=hc;rw[if_pos hc1,mk1,if_pos ⟨hc2,hc3⟩] at hM;clear hcd hc1;have HM:=hd_ hM;clear hM;rcases (show vv=0∨vv=1∨vv=2∨vv=3 by omega) with rfl | rfl | rfl | rfl
    all_goals go_wp2
    all_goals go_meet
    case rel=>exact⟨by rw[HM.out,(kj ⟨m,hm⟩).1];rfl,rfl⟩
    case rel=>exact⟨by rw[HM.out,(kj ⟨m,hm⟩).2.1];rfl,rfl⟩
    case rel=>exact⟨by rw[HM.out,(kj ⟨m,hm⟩).2.2.1];rfl,rfl⟩
    case rel=>exact⟨by rw[HM.out,(kj ⟨m,hm⟩).2.2.2];rfl,rfl⟩
   ·have hcd:decide ((kd=8∨kd=9)∧0≤vv∧vv<4)=false:=decide_eq_false hc;rw[hcd];have e:M=m:=by
     rw[hM];split
     ·unfold mk1;rw[if_neg fun h=>hc ⟨by assumption,h⟩]
     ·rfl
    clear hc hcd hM;go_wp2;go_meet
    case rel=>exact⟨by rw[e],rfl⟩
  case rest =>
   obtain⟨rfl,rfl⟩:=hcut;have hML:M<16:=by
    rw[hM];split
    ·exact jh vv hm
    ·exact hm
   rw[←hM] at hroom;clear hM;go_wp2_with fail;obtain⟨L1,hL1⟩:∃L1,L1=L++[(Value.pointer (some ⟨b,o,none⟩),m)]:=⟨_,rfl⟩
   have l1:L1.length=L.length+1:=by rw[hL1];simp
   have hrow3:World.ownsRow wc W0.heap.size NdT 2 (.slice sa sn sc) L1.length (ndC L1):=by
    rw[l1,hL1,Rv];exact hrow2
   clear hrow2;replace hL1:=hd_ hL1;clear d0 d3 d5;go_loopw [41] (fun iv wr => ∃(k:Nat) (xa:Option Addr) (xn xc:Nat) (L':List (Value×Nat)),iv = .int .i64 k∧k≤gs.length∧Ext W0 wr∧wr.heap[bo]? = some (.cells #[.slice xa xn xc] NsT (0,0))∧wr.heap[bw]? = some (.cells #[WkV bo bw] WkT (0,0)) ∧
    World.ownsRow wr W0.heap.size NdT 2 (.slice xa xn xc) (L1++L').length (ndC (L1++L'))∧Mt W0 N T U X L' (cd (gs.take k) M)) (fun iv _=>gs.length-(intOf iv).toNat)
   case atStart=>exact⟨0,sa,sn,sc,[],rfl,Nat.zero_le _,hE2,hco2,hcw2,by rw[List.append_nil];exact hrow3,by rw[List.take_zero,cd];exact .nil⟩
   case round =>
    obtain⟨k,xa,xn,xc,L',rfl,hk,hEr,hcor,hcwr,hrowr,hmt⟩:=hrel;clear hE2 hco2 hcw2 hrow3;by_cases hlt:k<gs.length
    ·obtain⟨b2,o2,rfl,hV2⟩:=g3 k hlt;have hll:=hmt.len;have hle:=Ru (l:=gs) (k+1) M;have htk:=Rt hlt M;rw[htk,List.length_append] at hle;have IH:=hd_ (ih gs[k] (List.getElem_mem hlt) M W0 wr.drew N _ (.slice xa xn xc) (L1++L') bo bw hML hN hV2 hEr.dr hbo hbw hcor hcwr hrowr (by rw[List.length_append];omega));have HT:=hd_ htk;have HM2:=hd_ hmt;have n1:=cell_of_one hcwr;have n2:=(hEr.cell (p:=⟨b,o+5,none⟩) hblt).trans C5.out;clear hV2 hle htk hmt hll hrowr ih;go_upto_region 6 with fail
     go_region_held3 (fun w'=>Ext W0 w'∧w'.cell? ⟨bw,0,none⟩=some (WkV bo bw)∧w'.cell? ⟨b,o+5,none⟩=some (.slice (some ⟨b2,o2,none⟩) gs.length cap)) (first | assumption | exact⟨hEr.dr,n1,n2⟩ | exact⟨by assumption,by assumption,by assumption⟩) (first
      |(go_at_call 25;(refine (IH.out).mono ?_);rintro e w' ⟨rfl,hE',hcw',s2,L2,hco',hrow',hmt'⟩;have k1:=cell_of_one hcw';have k2:=(hE'.cell (p:=⟨b,o+5,none⟩) hblt).trans C5.out))
     obtain⟨ya,yn,yc,rfl⟩:=qU hrow';replace hrow':=hd_ hrow';replace hmt':=hd_ hmt';go_wp2;go_round
     case rel=>exact⟨k+1,ya,yn,yc,L'++L2,by go_num,hlt,hE',hco',hcw',by rw[←List.append_assoc];exact hrow'.out,by rw[HT.out];exact HM2.out.app hmt'.out⟩
     case measure=>first | (simp[intOf];done) | (simp[intOf];omega)
    ·obtain rfl:k=gs.length:=by omega
     rw[List.take_length] at hmt;replace hmt:=hd_ hmt;replace hrowr:=hd_ hrowr;go_wp2;go_end0;exact⟨rfl,hEr,hcwr,_,(Value.pointer (some ⟨b,o,none⟩),m)::L',hcor,by rw[show L++(Value.pointer (some ⟨b,o,none⟩),m)::L'=L1++L' by rw[hL1.out];simp];exact hrowr.out,by rw[ndM,←HM.out];exact .cons HV.out hmt.out⟩
end Go.Proofs.Ytdchbabgopglcaa
