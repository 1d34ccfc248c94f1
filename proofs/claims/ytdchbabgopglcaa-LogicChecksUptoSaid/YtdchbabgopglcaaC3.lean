/- Lemmas. -/
import Derived.Test.YtdchbabgopglcaaC1
import Derived.Test.YtdchbabgopglcaaC2
import Derived.Shelf.Small.Bits
namespace Go.Proofs.Ytdchbabgopglcaa
open Go.RowKit
structure IV where
 n:Bool
 s:SV
def IsI (w:World) (x:IV) (z:Int):Prop:=
 ∃l,IsL w x.s .u32 l∧Norm l∧z=sg x.n (valL l)∧(l=[]→x.n=false)∧Sm z
theorem IsI.keep {w w':World}{x:IV}{z:Int} (h:IsI w x z) (e:Ext w w'):IsI w' x z:=by
 obtain⟨l,h1,h2⟩:=h;exact⟨l,h1.keep e,h2⟩
theorem IsI.kept {w w':World}{x:IV}{z:Int} (h:IsI w x z) (e:aZ 100 w w'):IsI w' x z:=by
 obtain⟨l,h1,h2⟩:=h;exact⟨l,h1.kept e,h2⟩
theorem jn (w:World):IsI w ⟨false,⟨none,0,0⟩⟩ 0:=⟨[],oK w _,.inl rfl,by simp[sg,valL],fun _=>rfl,qX⟩
def ia (w:World) (z:Int) (e:Ending) (w':World):Prop:=
 ∃x:IV,e = .returned (.agg #[.bool x.n,.slice x.s.a x.s.len x.s.cap])∧IsI w' x z∧Ext w w'
theorem yK {w:World}{neg:Bool}{ao:Option Addr}{cap k:Nat}{l:List Int} (h:IsL w ⟨ao,l.length,cap⟩ .u32 l) (hk:k+1≤l.length)
  (hz:∀j,k+1≤j→at_ l j=0) (hne:at_ l k≠0) (hcm:cap≤9223372036854775807) (hs:Sm (sg neg (valL l))):IsI w ⟨neg,⟨ao,k+1,k+1⟩⟩ (sg neg (valL l)):=by
 have hcap:l.length≤cap:=h.1.2.1;refine⟨l.take (k+1),h.take hk (Nat.le_refl _) (by omega),.inr ?_,by rw[valL_take hz],fun e => ?_,hs⟩
 ·have:(l.take (k+1)).length-1=k:=by simp;omega
  rw[this];simpa[at_] using hne
 ·have:=congrArg List.length e;rw[List.length_take,List.length_nil] at this;omega
set_option maxHeartbeats 400000 in
theorem made_any (neg:Bool) (s:SV) (l:List Int) (w:World) (h:IsL w s .u32 l) (hs:Sm (sg neg (valL l))) :
  Calls Try.prog 44 #[.bool neg,.slice s.a s.len s.cap] w (ia w (sg neg (valL l))):=by
 obtain⟨ao,cap,rfl,hcap,hcm,hop⟩:=h.open_;replace hs:=hd_ hs;go_enter Try.func44,Try.ntmps44;go_wp2;go_loop [5] (fun n => ∃k:Nat,k≤l.length∧n = .int .i64 k∧(∀j,k≤j→at_ l j=0)) (fun n=>(intOf n).toNat)
 case atStart=>exact⟨l.length,Nat.le_refl _,rfl,fun j hj=>a8 hj⟩
 case round =>
  obtain⟨k,hk,rfl,hz⟩:=hrel
  match k,hk,hz with
  |0,hk,hz =>
   have H0:=hd_ (valL_zero (fun j=>hz j (by omega)));clear hz;go_wp2;refine bodyPost_ret (v:=.agg #[.bool false,.slice none 0 0]) (by simp[results,Try.results44,go_sem]) rfl ⟨⟨false,⟨none,0,0⟩⟩,rfl,?_,(Ext.rf _).al _⟩;rw[H0.out];cases neg<;>exact jn _
  |k+1,hk,hz =>
   have Hz:=hd_ hz;clear hz;obtain⟨b,off,rfl,hb,hc⟩:=hop (by omega);have hbl:=hb.lt;have hc:=hc k (by omega);have hf:=h.fit (i:=k) (by omega);by_cases h0:at_ l k=0
   ·have h0':(at_ l k == 0)=true:=by simp[h0]
    have H0:=hd_ h0;clear h0;go_wp2;go_round
    case rel=>exact⟨k,by omega,by go_num,fun j hj=>if e:j=k then by rw[e];exact H0.out else Hz.out j (by omega)⟩
    case measure=>first | (simp[intOf];done) | (simp[intOf];omega)
   ·have h0':(at_ l k == 0)=false:=by simp[h0]
    go_wp2;refine bodyPost_ret (v:=.agg #[.bool neg,.slice (some ⟨b,off,none⟩) (k+1) (k+1)]) (by simp[results,Try.results44,go_sem]) rfl ⟨⟨neg,⟨some ⟨b,off,none⟩,k+1,k+1⟩⟩,rfl,?_,?_⟩
    ·exact (yK h hk Hz.out h0 hcm hs.out).keep (((Ext.rf _).al _))
    ·exact (Ext.rf _).al _
theorem IsI.open_ {w:World}{x:IV}{z:Int} (h:IsI w x z):∃l,IsL w x.s .u32 l∧Norm l∧Dig l∧l.length≤274877906945∧z=sg x.n (valL l)∧(l=[]→x.n=false)∧Sm z:=by
 obtain⟨l,h1,h2,h3,h4,h5⟩:=h;refine⟨l,h1,h2,h1.2,?_,h3,h4,h5⟩;have hb:Bt (valL l) dH:=by
  rw[h3] at h5;exact h5.bt.le (by rw[fx];exact Nat.le_refl _)
 have:=len_of_bt h1.2 h2 hb;rw[gU] at this;omega
def Rw (w:World) (base:Nat) (k:IntKind) (s:SV) (l:List Int):Prop:=w.ownsRow base (ET k) 1 (.slice s.a s.len s.cap) l.length (l.map (Value.int k))
section
variable {w w':World}{base:Nat}{k:IntKind}{s:SV}{l:List Int}
theorem Rw.nil_ (w:World) (base:Nat) (k:IntKind):Rw w base k ⟨none,0,0⟩ []:=World.ownsRow_nil _ _ _ _
theorem Rw.len (h:Rw w base k s l):s.len=l.length:=by
 rcases h.2 with⟨hv,hl⟩ | ⟨g,cap,cur,hv,_⟩
 ·injection hv with _ e _;omega
 ·injection hv
theorem Rw.cap_ (h:Rw w base k s l):l.length≤s.cap∧s.cap≤9223372036854775807:=by
 rcases h.2 with⟨hv,hl⟩ | ⟨g,cap,cur,hv,_,_,h1,h2,_⟩
 ·injection hv with _ _ e;omega
 ·injection hv with _ _ e;subst e;exact⟨h1,h2⟩
theorem Rw.keep (h:Rw w base k s l) (e:Ext w w'):Rw w' base k s l:=by
 obtain⟨h1,h2⟩:=h;refine⟨h1,?_⟩;rcases h2 with h2 | ⟨g,cap,cur,hv,hb,hg,rest⟩
 ·exact .inl h2
 ·exact .inr ⟨g,cap,cur,hv,hb,(e.block g (Array.getElem?_eq_some_iff.1 hg).1).trans hg,rest⟩
theorem Rw.al (h:Rw w base k s l) (o:Obj):Rw (w.alloc o) base k s l:=h.keep ((Ext.rf w).al o)
theorem Rw.kept (h:Rw w base k s l) (e:aZ (ET k) w w'):Rw w' base k s l:=by
 obtain⟨h1,h2⟩:=h;refine⟨h1,?_⟩;rcases h2 with h2 | ⟨g,cap,cur,hv,hb,hg,rest⟩
 ·exact .inl h2
 ·exact .inr ⟨g,cap,cur,hv,hb,(e g ⟨_,_,hg⟩).trans hg,rest⟩
theorem Rw.open_ (h:Rw w base k s l) (hl:0<l.length):∃g cap,s=⟨some ⟨g,0,none⟩,l.length,cap⟩∧base≤g∧Ty w g (ET k)∧l.length≤cap∧cap≤9223372036854775807 ∧
  (∀j,j<l.length→w.cell? ⟨g,j,none⟩=some (.int k (at_ l j)))∧(∀j,w.frozen? ⟨g,j,none⟩=false):=by
 have h0:=h;rcases h.2 with⟨hv,hn⟩ | ⟨g,cap,cur,hv,hb,hg,h1,h2,_⟩
 ·omega
 ·obtain⟨a,n,c⟩:=s;simp only[Value.slice.injEq] at hv;obtain⟨rfl,rfl,rfl⟩:=hv;refine⟨g,c,rfl,hb,⟨_,_,hg⟩,h1,h2,fun j hj => ?_,fun j=>World.ownsRow.frozenAt h0 j⟩;have:=World.ownsRow.cellAt h0 j (by simpa using hj);rw[this];simp[at_,hj]
theorem Rw.set {g cap:Nat} (h:Rw w base k ⟨some ⟨g,0,none⟩,l.length,cap⟩ l) (j:Nat) (v:Int):Rw (w.setCell ⟨g,j,none⟩ (.int k v)) base k ⟨some ⟨g,0,none⟩,l.length,cap⟩ (l.set j v):=by
 have:=(World.ownsRow.stored h j (.int k v)).1;unfold Rw;rw[List.length_set,List.map_set];exact this
theorem Rw.set' {g n cap:Nat} (h:Rw w base k ⟨some ⟨g,0,none⟩,n,cap⟩ l) (j:Nat) (v:Int):Rw (w.setCell ⟨g,j,none⟩ (.int k v)) base k ⟨some ⟨g,0,none⟩,n,cap⟩ (l.set j v):=by
 obtain rfl:n=l.length:=h.len;exact h.set j v
theorem Rw.isL (h:Rw w base k s l) (hf:∀x∈l,Fit k x):IsL w s k l:=by
 have h1:=h.len;have h2:=h.cap_;obtain⟨a,n,c⟩:=s;simp only at h1 h2;subst h1;refine IsL.mk_ h2.1 h2.2 (fun hl => ?_) hf;obtain⟨g,cap,he,hb,ht,_,_,hc,_⟩:=h.open_ hl;simp only[SV.mk.injEq] at he;exact⟨g,0,he.1,ht,fun j hj=>by rw[Nat.zero_add];exact hc j hj⟩
theorem Rw.take {g n cap m:Nat} (h:Rw w base k ⟨some ⟨g,0,none⟩,n,cap⟩ l) (hm:m≤n):Rw w base k ⟨some ⟨g,0,none⟩,m,cap⟩ (l.take m):=by
 obtain rfl:n=l.length:=h.len;have hl:(l.take m).length=m:=by simp;omega
 rcases h.2 with⟨hv,_⟩ | ⟨g',cap',cur,hv,hb,hg,h1,h2,h3,h4⟩
 ·cases hv
 ·simp only[Value.slice.injEq] at hv;obtain⟨e1,-,rfl⟩:=hv;unfold Rw;rw[hl];refine⟨by simp;omega,.inr ⟨g',cap,cur,by rw[e1],hb,hg,by omega,h2,h3,?_⟩⟩;rw[List.map_take,←h4,List.take_take];congr 1;omega
end
theorem dO {P:Program} (w:World){ops:Array Oper}{rest:List Oper}{o:Oper}{a:Act}{Q:Exit→Act→World→Prop} (hgd:o.guard=none) (sl x:Operand) (t:TypeId)
  (ho:o.op = .call { callee:=.builtin .append,args:=#[sl,x],argTypes:=#[t,t] })
  (k:IntKind) (bytes:Nat) (ht:P.underlying t=some (.slice (ET k))) (hinfo:(P.info? (ET k)).map (fun i=>(i.zero,i.size,i.bytes))=some (some (.int k 0),1,bytes))
  (W0:World) (s:SV) (l:List Int) (v:Int) (hs:a.eval sl = .slice s.a s.len s.cap) (hx:a.eval x = .slice (some ⟨w.heap.size,0,none⟩) 1 1) (hown:Rw w W0.heap.size k s l) (hE:Ext W0 w)
  (hb:(l.length+1)*bytes≤140737488355328) (h63:l.length+1≤9223372036854775807)
  (h:∀(s':SV) (w':World),Rw w' W0.heap.size k s' (l++[v])→Ext W0 w'→(∀T,T≠ET k→aZ T w w')→wpList P ops Q rest (a.put o.dst (.slice s'.a s'.len s'.cap)) w') :
  wpList P ops Q (o::rest) a (w.alloc (.cells #[.int k v] (ET k))):=by
 obtain⟨i,hi,hz0,hz1,hz2⟩:=info_parts hinfo;refine wpList_append_own _ hgd sl x t ho W0.heap.size (ET k) i _ 1 bytes ht hi hz0 hz1 hz2 rfl (by omega) (.slice s.a s.len s.cap) l.length (l.map (Value.int k)) hs (hown.al _) ⟨w.heap.size,0,none⟩ 1 1 [.int k v] hx rfl
  (by intro j u hu;match j,hu with | 0,hu=>simp at hu;subst hu;simp[Addr.add]) (by intro u hu;simp at hu;subst hu;rfl) h63 hb (Nat.le_trans hE.size (by simp)) ?_
 intro v' w' hown' hgr hnil;have hform:∃s':SV,v' = .slice s'.a s'.len s'.cap:=by
  rcases hown'.2 with⟨e,_⟩ | ⟨g,cap,cur,e,_⟩
  ·exact⟨⟨none,0,0⟩,e⟩
  ·exact⟨⟨some ⟨g,0,none⟩,_,cap⟩,e⟩
 obtain⟨s',rfl⟩:=hform;refine h s' w' ?_ ((hE.al _).gr hgr ?_) ?_
 ·unfold Rw;rw[List.length_append,List.map_append];exact hown'
 ·intro g hg;rcases hown.2 with⟨e,_⟩ | ⟨g',cap,cur,e,hb',_⟩
  ·rw[e] at hg;cases hg
  ·rw[e] at hg;simp only[Value.ownBlock,Option.some.injEq] at hg;omega
 ·intro T hT b hb;refine (hgr.block b (by have:=hb.lt;simp;omega) ?_).trans (Below.heap_alloc _ _ _ hb.lt);intro e;rcases hown.2 with⟨e',_⟩ | ⟨g',cap,cur,e',_,hg',_⟩
  ·rw[e'] at e;cases e
  ·rw[e'] at e;simp only[Value.ownBlock,Option.some.injEq] at e;subst e;exact Ty.ne_ hb ⟨_,_,hg'⟩ hT rfl
def bs (l:List UInt8):ByteArray:=⟨l.toArray⟩
def byt (l:List UInt8) (i:Nat):Nat:=(l.getD i 0).toNat
@[simp,go_sem] theorem PW (l:List UInt8):(bs l).size=l.length:=by simp[bs,ByteArray.size]
@[simp,go_sem] theorem Tr (l:List UInt8):(bs l).data=l.toArray:=rfl
@[simp,go_sem] theorem Ts (l:List UInt8):(bs l).toList=l:=by
 rw[ByteArray.toList_eq];simp[bs]
@[simp,go_sem] theorem Tt (l:List UInt8) (i:Nat) (h:i<(bs l).size):((bs l)[i]'h).toNat=byt l i:=by
 have h':i<l.length:=by simpa using h
 simp[byt,h',bs,ByteArray.getElem_eq_getElem_data]
@[simp,go_sem] theorem Tu (l:List UInt8) (a b:Nat):(bs l).extract a b=bs ((l.drop a).take (b-a)):=ByteArray.extract_mk l a b
@[simp,go_sem] theorem Tv (l m:List UInt8):bs l++bs m=bs (l++m):=ByteArray.mk_append_mk l m
@[simp,go_sem] theorem Tw (l:List UInt8):List.take (l.length-1) l.tail=l.tail:=List.take_of_length_le (by simp)
@[simp,go_sem] theorem Tx (l:List UInt8) (a:Nat):List.take (l.length-a) (List.drop a l)=List.drop a l:=List.take_of_length_le (by simp)
def aS (m:List UInt8):List Int:=m.map fun c=>(c.toNat:Int)
@[simp] theorem PX (m:List UInt8):(aS m).length=m.length:=by simp[aS]
theorem iI (m:List UInt8) (i:Nat):at_ (aS m) i=byt m i:=by
 by_cases h:i<m.length
 ·simp[at_,aS,byt,h]
 ·simp[at_,aS,byt,h]
theorem l4 (m:List UInt8):∀x∈aS m,Fit .u8 x:=by
 intro x hx;simp only[aS,List.mem_map] at hx;obtain⟨c,_,rfl⟩:=hx;have:=UInt8.toNat_lt c;show 0≤_∧_≤_
 omega
theorem PY {P:Program} (w:World){ops:Array Oper}{rest:List Oper}{o:Oper}{a:Act}{Q:Exit→Act→World→Prop} (hgd:o.guard=none) (src dst:TypeId) (x:Operand) (hop:o.op=Op.convert src dst x)
  (hs:P.underlying src=some .string) (hd:P.underlying dst=some (.slice (ET .u8))) (he:P.underlying (ET .u8)=some (.int .u8)) (m:List UInt8) (hx:a.eval x = .string (bs m)) (hm:m.length≤9223372036854775807)
  (h:∀(cap:Nat) (w':World),IsL w' ⟨some ⟨w.heap.size,0,none⟩,m.length,cap⟩ .u8 (aS m)→Ext w w'→(∀j,j<m.length→w'.cell? ⟨w.heap.size,j,none⟩=some (.int .u8 (byt m j)))→wpList P ops Q rest (a.put o.dst (.slice (some ⟨w.heap.size,0,none⟩) m.length cap)) w') :
  wpList P ops Q (o::rest) a w:=by
 refine wpList_plain hgd fun K hK' => ?_
 have hrun:=run_bytes_of_string (P:=P) w src dst (ET .u8) (bs m) hs hd he;rw[PW] at hrun;unfold Oper.wp;simp[execOp,hop,hx,hrun,Result.andThen];have hge:=grownCap_ge w m.length 0 (ET .u8);have hle:=grownCap_le_maxLen w m.length 0 (ET .u8) hm;have hcell:∀j,j<m.length→(w.drew.alloc (.cells (bytesRow (bs m) (grownCap w m.length 0 (ET .u8))) (ET .u8) ((bytesRow (bs m) (grownCap w m.length 0 (ET .u8))).size,(bytesRow (bs m) (grownCap w m.length 0 (ET .u8))).size+1))).cell? ⟨w.heap.size,j,none⟩=some (.int .u8 (byt m j)):=by
  intro j hj;have:=World.cell?_alloc_mark w.drew (bytesRow (bs m) (grownCap w m.length 0 (ET .u8))) (ET .u8) ((bytesRow (bs m) (grownCap w m.length 0 (ET .u8))).size,(bytesRow (bs m) (grownCap w m.length 0 (ET .u8))).size+1) j;refine this.trans ?_;rw[bytesRow_at (bs m) _ j (by simpa[bs] using hj)];simp[bs,byt,hj]
 refine hK' _ _ (h _ _ ?_ ((Ext.rf w).dr.al _) hcell);have hl:(aS m).length=m.length:=PX m;have:=IsL.mk_ (w:=w.drew.alloc (.cells (bytesRow (bs m) (grownCap w m.length 0 (ET .u8))) (ET .u8) ((bytesRow (bs m) (grownCap w m.length 0 (ET .u8))).size,(bytesRow (bs m) (grownCap w m.length 0 (ET .u8))).size+1))) (ao:=some ⟨w.heap.size,0,none⟩) (cap:=grownCap w m.length 0 (ET .u8)) (k:=.u8) (l:=aS m) (by rw[hl];exact hge) hle
  (fun _=>⟨w.heap.size,0,rfl,⟨_,_,heap_alloc_new w.drew _⟩,fun j hj=>by rw[Nat.zero_add,iI];exact hcell j (by rw[←hl];exact hj)⟩) (l4 m)
 rw[hl] at this;exact this
end Go.Proofs.Ytdchbabgopglcaa
namespace Go.Proofs.Ytdchbabgopglcaa.Z4
def valL:List Int→Int
 |[]=>0
 |x::t=>x+10000*valL t
def Dig (l:List Int):Prop:=∀x∈l,0≤x∧x≤9999
def Norm (l:List Int):Prop:=l=[]∨at_ l (l.length-1)≠0
theorem Dig.at_ {l:List Int} (h:Dig l) (i:Nat):0≤at_ l i∧at_ l i≤9999:=by
 by_cases hi:i<l.length
 ·exact h _ (kY hi)
 ·rw[a8 (by omega)];omega
theorem Dig.tail {x:Int}{t:List Int} (h:Dig (x::t)):Dig t:=fun y hy=>h y (List.mem_cons_of_mem _ hy)
theorem valL_nonneg {l:List Int} (h:Dig l):0≤valL l:=by
 induction l with
 |nil=>simp[valL]
 |cons x t ih=>have:=ih h.tail;have:=h x (List.mem_cons_self ..);simp only[valL];omega
theorem valL_zero {l:List Int} (h:∀j,at_ l j=0):valL l=0:=by
 induction l with
 |nil=>rfl
 |cons x t ih =>
  have h0:=h 0;have ht:∀j,at_ t j=0:=fun j=>by have:=h (j+1);rwa[bO] at this
  rw[eh] at h0;simp[valL,h0,ih ht]
theorem valL_take {l:List Int}{k:Nat} (h:∀j,k≤j→at_ l j=0):valL (l.take k)=valL l:=by
 induction l generalizing k with
 |nil=>simp
 |cons x t ih =>
  match k with
  |0=>rw[valL_zero (l:=x::t) (fun j=>h j (by omega))];rfl
  |k+1 =>
   simp only[List.take_succ_cons,valL];rw[ih (fun j hj=>by have:=h (j+1) (by omega);rwa[bO] at this)]
theorem valL_pos {l:List Int} (hd:Dig l){i:Nat} (hi:at_ l i≠0):0<valL l:=by
 induction l generalizing i with
 |nil=>simp[at_] at hi
 |cons x t ih =>
  have hx:=hd x (List.mem_cons_self ..);have ht:=valL_nonneg hd.tail;simp only[valL]
  match i with
  |0=>rw[eh] at hi;omega
  |i+1=>rw[bO] at hi;have:=ih hd.tail hi;omega
theorem valL_pos' {l:List Int} (hd:Dig l) (hn:Norm l) (hne:l≠[]):0<valL l:=by
 rcases hn with h | h
 ·exact absurd h hne
 ·exact valL_pos hd h
theorem valL_eq_zero {l:List Int} (hd:Dig l) (hn:Norm l):valL l=0↔l=[]:=by
 constructor
 ·intro h;by_cases hne:l=[]
  ·exact hne
  ·have:=valL_pos' hd hn hne;omega
 ·rintro rfl;rfl
theorem valL_take_succ (l:List Int) (i:Nat):valL (l.take (i+1))=valL (l.take i)+at_ l i*10000^i:=by
 induction l generalizing i with
 |nil=>simp[valL,at_]
 |cons x t ih =>
  match i with
  |0=>simp[valL,at_]
  |i+1 =>
   simp only[List.take_succ_cons,valL,bO];rw[ih i,Int.pow_succ];grind
theorem valL_take_all {l:List Int}{i:Nat} (h:l.length≤i):valL (l.take i)=valL l:=by rw[List.take_of_length_le h]
theorem valL_lt {l:List Int} (hd:Dig l):valL l<10000^l.length:=by
 induction l with
 |nil=>simp[valL]
 |cons x t ih =>
  have h1:=ih hd.tail;have hx:=hd x (List.mem_cons_self ..);simp only[valL,List.length_cons,Int.pow_succ];generalize (10000:Int)^t.length=p at *;omega
theorem pow_pos' (i:Nat):(0:Int)<10000^i:=Int.pow_pos (by omega)
theorem pow_mono' {i j:Nat} (h:i≤j):(10000:Int)^i≤10000^j:=by
 induction j with
 |zero =>
      obtain rfl:i=0:=by omega
      exact Int.le_refl _
 |succ j ih =>
  by_cases e:i=j+1
  ·subst e;exact Int.le_refl _
  ·have:=ih (by omega);have hp:=pow_pos' j;rw[Int.pow_succ];omega
theorem valL_ge {l:List Int} (hd:Dig l){i:Nat} (hi:at_ l i≠0):10000^i≤valL l:=by
 induction l generalizing i with
 |nil=>simp[at_] at hi
 |cons x t ih =>
  have hx:=hd x (List.mem_cons_self ..);have ht:=valL_nonneg hd.tail;simp only[valL]
  match i with
  |0=>rw[eh] at hi;simp;omega
  |i+1 =>
   rw[bO] at hi;have:=ih hd.tail hi;rw[Int.pow_succ];generalize (10000:Int)^i=p at *;omega
theorem valL_lt_of_len {a b:List Int} (ha:Dig a) (hb:Dig b) (hn:Norm b) (h:a.length<b.length):valL a<valL b:=by
 rcases hn with rfl | hn
 ·simp at h
 ·have h1:=valL_lt ha;have h2:=valL_ge hb hn;have h3:=pow_mono' (i:=a.length) (j:=b.length-1) (by omega);omega
theorem valL_lt_of_at {a b:List Int} (ha:Dig a) (hb:Dig b) (hl:a.length=b.length){i:Nat} (hi:i<a.length) (heq:∀j,i<j→at_ a j=at_ b j) (hlt:at_ a i<at_ b i):valL a<valL b:=by
 induction a generalizing b i with
 |nil=>simp at hi
 |cons x s ih =>
  match b,hl with
  |y::t,hl =>
   have hx:=ha x (List.mem_cons_self ..);have hy:=hb y (List.mem_cons_self ..);simp only[List.length_cons,Nat.add_right_cancel_iff] at hl;simp only[valL]
   match i,hi,heq,hlt with
   |0,_,heq,hlt =>
    have:s=t:=gS hl (fun j=>by have:=heq (j+1) (by omega);rwa[bO,bO] at this);subst this;rw[eh,eh] at hlt;omega
   |i+1,hi,heq,hlt =>
    rw[bO,bO] at hlt;have:=ih ha.tail hb.tail hl (i:=i) (by simpa using hi) (fun j hj=>by have:=heq (j+1) (by omega);rwa[bO,bO] at this) hlt;omega
theorem valL_set {l:List Int}{i:Nat} (h:i<l.length) (v:Int):valL ((l.set i v).take (i+1))=valL (l.take i)+v*10000^i:=by
 rw[valL_take_succ,qW,fu h]
theorem Dig.set {l:List Int} (hd:Dig l) (i:Nat){v:Int} (hv:0≤v∧v≤9999):Dig (l.set i v):=by
 intro x hx;rcases List.mem_or_eq_of_mem_set hx with h | h
 ·exact hd x h
 ·subst h;exact hv
theorem neg_iff {n:Bool}{l:List Int} (hd:Dig l) (hn:Norm l) (h0:l=[]→n=false):sg n (valL l)<0↔n=true:=by
 by_cases hl:l=[]
 ·subst hl;rw[h0 rfl];simp[sg,valL]
 ·have:=valL_pos' hd hn hl;cases n
  ·simp[sg];omega
  ·simp[sg];omega
theorem valL_set_full {l:List Int}{i:Nat} (h:i<l.length) (v:Int):valL (l.set i v)=valL l+(v-at_ l i)*10000^i:=by
 induction l generalizing i with
 |nil=>simp at h
 |cons x t ih =>
  match i with
  |0=>simp[valL,at_];omega
  |i+1 =>
   simp only[List.set_cons_succ,valL,bO];rw[ih (by simpa using h),Int.pow_succ];grind
theorem Bo (i:Nat):((2^(13*i):Nat):Int)≤(10000:Int)^i:=by
 have h:(2^13)^i≤10000^i:=Nat.pow_le_pow_left (by decide) i;rw[←Nat.pow_mul] at h;have e:(10000:Int)^i=((10000^i:Nat):Int):=by rw[Int.natCast_pow];rfl
 rw[e];omega
theorem len_of_bt {l:List Int}{n:Nat} (hd:Dig l) (hn:Norm l) (h:Bt (valL l) n):13*l.length≤n+13:=by
 rcases hn with rfl | hn
 ·simp
 ·have h1:=valL_ge hd hn;have h2:=valL_nonneg hd;have h0:=Bo (l.length-1);unfold Bt at h;have h3:2^(13*(l.length-1))<2^n:=by omega
  rcases Nat.lt_or_ge (13*(l.length-1)) n with h4 | h4
  ·omega
  ·have:=Nat.pow_le_pow_right (n:=2) (by omega) h4;omega
theorem mul_bound {x y:Int} (hx:0≤x∧x≤9999) (hy:0≤y∧y≤9999):0≤x*y∧x*y≤99980001:=by
 refine⟨Int.mul_nonneg hx.1 hy.1,?_⟩;have:=Int.mul_le_mul hx.2 hy.2 hy.1 (by omega);omega
theorem valL_snoc (l:List Int) (x:Int):valL (l++[x])=valL l+x*10000^l.length:=by
 induction l with
 |nil=>simp[valL]
 |cons y t ih=>simp only[List.cons_append,valL,ih,List.length_cons,Int.pow_succ];grind
theorem Dig.snoc {l:List Int} (h:Dig l){x:Int} (hx:0≤x∧x≤9999):Dig (l++[x]):=by
 intro y hy;rcases List.mem_append.1 hy with hy | hy
 ·exact h y hy
 ·rw[List.mem_singleton.1 hy];exact hx
theorem Dig.fit {l:List Int} (h:Dig l):∀x∈l,Fit .i64 x:=by
 intro x hx;have:=h x hx;show _≤_∧_≤_
 omega
end Go.Proofs.Ytdchbabgopglcaa.Z4
namespace Go.Proofs.Ytdchbabgopglcaa
open Go.Shelf
def S1:Go.Shelf.Ren:=⟨fun | 133=>71 | 128=>85 | n=>n,fun | 51=>100 | 3=>3 | 4=>4 | 46=>44 | 5=>5 | 9=>9 | n=>n,fun | n=>n⟩
theorem S2:Go.Proofs.Lays.n133 Try.prog S1:={
 mixed:=by kernel_rfl
 f128:=Try.func85.trans (congrArg some (by kernel_rfl))
 f133:=Try.func71.trans (congrArg some (by kernel_rfl))
 t3:=Try.underlying3
 a3:=Try.isAgg3
 z3:=Try.sizeOf3
 v3:=Try.zeroValue3
 t4:=Try.underlying4
 a4:=Try.isAgg4
 z4:=Try.sizeOf4
 v4:=Try.zeroValue4
 t5:=Try.underlying5
 a5:=Try.isAgg5
 z5:=Try.sizeOf5
 v5:=Try.zeroValue5
 t9:=Try.underlying9
 a9:=Try.isAgg9
 z9:=Try.sizeOf9
 v9:=Try.zeroValue9
 t46:=Try.underlying44
 a46:=Try.isAgg44
 z46:=Try.sizeOf44
 v46:=Try.zeroValue44
 t51:=Try.underlying100
 a51:=Try.isAgg100
 z51:=Try.sizeOf100
 v51:=Try.zeroValue100 }
theorem S3 (x:Int) (w:World) (h0:0≤x) (h1:x≤4294967295) :
  Calls Try.prog 71 #[.int .u32 x] w fun e w'=>e = .returned (.int .i64 (32-(Lib.bitLen x.toNat:Int)))∧w=w':=(Any.bits_LeadingZeros32 S2 x w h0 h1).mono fun _ _ h=>⟨h.1,h.2.symm⟩
theorem S4 (n:Nat) (h0:0<n) (h:n<18446744073709551616):0<Lib.bitLen n∧2^(Lib.bitLen n-1)≤n∧n<2^Lib.bitLen n:=by
 induction n using Nat.strongRecOn with
 |ind n ih =>
  rcases Nat.lt_or_ge n 2 with h1 | h1
  ·obtain rfl:n=1:=by omega
   decide
  ·have h2:=Lib.bitLen_half n (by omega) h;have h3:=ih (n / 2) (by omega) (by omega) (by omega);rw[h2];generalize Lib.bitLen (n / 2)=k at *;have e:1+k-1=k-1+1:=by omega
   have e2:1+k=k+1:=by omega
   rw[e,e2,Nat.pow_succ,Nat.pow_succ];refine⟨by omega,by omega,by omega⟩
theorem S5 {x:Int} (h0:0<x) (h1:x≤4294967295):∃s:Nat,s<32∧(32-(Lib.bitLen x.toNat:Int))=s∧2147483648≤x*2^s∧x*2^s≤4294967295:=by
 obtain⟨n,rfl⟩:=Int.eq_ofNat_of_zero_le (Int.le_of_lt h0);rw[show ((n:Int)).toNat=n by omega];have hb:=S4 n (by omega) (by omega);have h32:Lib.bitLen n≤32:=by
  refine Nat.not_lt.1 fun hc => ?_
  have:2^32≤2^(Lib.bitLen n-1):=Nat.pow_le_pow_right (by omega) (by omega);omega
 generalize Lib.bitLen n=k at *;have e1:2^(32-k)*2^(k-1)=2147483648:=by rw[←Nat.pow_add,show 32-k+(k-1)=31 by omega]
 have e2:2^(32-k)*2^k=4294967296:=by rw[←Nat.pow_add,show 32-k+k=32 by omega]
 have g1:=Nat.mul_le_mul_left (2^(32-k)) hb.2.1;have g2:2^(32-k)*(n+1)≤2^(32-k)*2^k:=Nat.mul_le_mul_left _ hb.2.2;have g3:1≤2^(32-k):=Nat.one_le_two_pow;rw[Nat.mul_add,Nat.mul_one] at g2;have e3:(n:Int)*2^(32-k)=((2^(32-k)*n:Nat):Int):=by rw[Int.natCast_mul,Int.mul_comm];simp
 refine⟨32-k,by omega,by omega,?_,?_⟩<;>rw[e3]<;>omega
end Go.Proofs.Ytdchbabgopglcaa
namespace Go.Proofs.Ytdchbabgopglcaa.M
open Go.RowKit
def pX:TypeDesc→Bool
 |.struct _=>true
 |.array _ _=>true
 |_=>false
def bM (P:Program) (T:TypeId) (ag:Bool) (sz:Nat):Prop:=∃d i,P.underlying T=some d∧pX d=ag∧P.info? T=some i∧i.size=sz
section
variable {P:Program}{w:World}
theorem jV {T:TypeId}{ag:Bool}{sz:Nat} (h:bM P T ag sz):(isAgg T).run P w = .ok ag w:=by
 obtain⟨d,i,h1,h2,h3,h4⟩:=h;subst h2;unfold isAgg;simp only[Sem.run_bind,run_underlying h1,Result.andThen];cases d<;>rfl
theorem cL {T:TypeId}{ag:Bool}{sz:Nat} (h:bM P T ag sz):(sizeOf T).run P w = .ok sz w:=by
 obtain⟨d,i,h1,h2,h3,h4⟩:=h;simp[sizeOf,typeInfo,h3,h4]
def rd (c:Array Value) (o n:Nat):Array Value:=((List.range n).map fun j=>c.getD (o+j) undef).toArray
@[simp] theorem Tq (c:Array Value) (o n:Nat):(rd c o n).size=n:=by simp[rd]
theorem d7 (c:Array Value) (o n i:Nat) (h:i<n):(rd c o n).getD i undef=c.getD (o+i) undef:=by
 simp[rd,Array.getD_eq_getD_getElem?,h]
theorem de (b o j:Nat):(⟨b,o,none⟩:Addr).add j=⟨b,o+j,none⟩:=by
 unfold Addr.add;split<;>simp_all
theorem dn {b o:Nat}{c:Array Value}{T:TypeId}{fr:Nat×Nat} (hb:w.heap[b]? = some (.cells c T fr)) (ho:o<c.size):w.cell? ⟨b,o,none⟩=some (c.getD o undef):=by
 rw[cell_of_row w b o c T fr hb];simp[ho]
theorem OQ {b o n:Nat}{c:Array Value}{T:TypeId}{fr:Nat×Nat} (hb:w.heap[b]? = some (.cells c T fr)) (hn:o+n≤c.size):(loadCells ⟨b,o,none⟩ n).run P w = .ok (rd c o n) w:=by
 rw[run_loadCells (P:=P) w ⟨b,o,none⟩ n (fun j=>c.getD (o+j) undef) (fun j hj=>by rw[de];exact dn hb (by omega))];rfl
theorem jW {T:TypeId}{b o n:Nat}{c:Array Value}{T':TypeId}{fr:Nat×Nat} (hT:bM P T true n) (hb:w.heap[b]? = some (.cells c T' fr)) (hn:o+n≤c.size) :
  (loadVar T ⟨b,o,none⟩).run P w = .ok (.agg (rd c o n)) w:=by
 unfold loadVar;simp only[Sem.run_bind,jV hT,Result.andThen,if_true,cL hT,OQ hb hn];rfl
theorem jX {T:TypeId}{b o n:Nat}{c:Array Value}{T':TypeId}{fr:Nat×Nat} (hT:bM P T false n) (hb:w.heap[b]? = some (.cells c T' fr)) (hn:o<c.size) :
  (loadVar T ⟨b,o,none⟩).run P w = .ok (c.getD o undef) w:=by
 unfold loadVar;simp only[Sem.run_bind,jV hT,Result.andThen,Bool.false_eq_true,if_false];simp[dn hb hn]
theorem OR {T:TypeId}{ag:Bool}{b o n:Nat}{c:Array Value}{T':TypeId}{fr:Nat×Nat}{v:Value} (hT:bM P T ag n) (hb:w.heap[b]? = some (.cells c T' fr)) (hn:o+n≤c.size) (hv:v.cells.size=n)
  (hfr:∀x,x<c.size→(decide (fr.1≤x)&&decide (x<fr.2))=false) (h1:∀u∈v.cells.toList,u.oneCell'=true) :
  (Instr.storeAt T (.pointer (some ⟨b,o,none⟩)) v).run P w = .ok () (w.setCells b o v.cells.toList):=by
 have hl:v.cells.toList.length=n:=by simpa using hv
 have:=run_storeCells_cells (P:=P) b o v.cells.toList 0 w (fun j hj=>by rw[Nat.add_zero,dn hb (by omega)];rfl) (fun j hj=>by
  rw[Nat.add_zero];have:=hfr (o+j) (by omega);simp only[World.frozen?,hb];exact this) h1
 rw[Nat.add_zero] at this;unfold Instr.storeAt Instr.sureAddr storeVar;simp only[Sem.run_bind,Result.andThen,cL hT,hv,ne_eq,not_true,if_false];simp[this]
def bQ (c:Array Value):Nat→List Value→Array Value
 |_,[]=>c
 |o,v::r=>bQ (c.setIfInBounds o v) (o+1) r
theorem iG {b:Nat}{T:TypeId}{fr:Nat×Nat}:∀(vs:List Value) (o:Nat) (w:World) (c:Array Value),w.heap[b]? = some (.cells c T fr)→(w.setCells b o vs).heap[b]? = some (.cells (bQ c o vs) T fr)
 |[],_,_,_,h=>h
 |v::r,o,w,c,h=>by
  rw[World.setCells,bQ];refine iG r (o+1) _ _ ?_;simp[World.setCell,Array.getElem?_modify,h]
theorem f7 {b b':Nat} (hne:b'≠b):∀(vs:List Value) (o:Nat) (w:World),(w.setCells b o vs).heap[b']? = w.heap[b']?
 |[],_,_=>rfl
 |v::r,o,w=>by
  rw[World.setCells,f7 hne r (o+1)];exact Below.heap_setCell _ _ _ _ hne
theorem pY {B b:Nat} (hb:B≤b):∀(vs:List Value) (o:Nat) (w:World),Below B w (w.setCells b o vs)
 |[],_,_=>Below.refl _ _
 |v::r,o,_=>((Below.refl _ _).setCell (p:=⟨b,o,none⟩) hb v).trans (pY hb r (o+1) _)
theorem jY {b:Nat}:∀(vs:List Value) (o:Nat) (w:World),(w.setCells b o vs).heap.size=w.heap.size
 |[],_,_=>rfl
 |v::r,o,_=>by rw[World.setCells,jY r (o+1)];simp[World.setCell]
@[simp] theorem eZ:∀(vs:List Value) (o:Nat) (c:Array Value),(bQ c o vs).size=c.size
 |[],_,_=>rfl
 |v::r,o,c=>by rw[bQ,eZ r (o+1)];simp
theorem cM:∀(vs:List Value) (o:Nat) (c:Array Value) (i:Nat),(i<o∨o+vs.length≤i)→(bQ c o vs).getD i undef=c.getD i undef
 |[],_,_,_,_=>rfl
 |v::r,o,c,i,h=>by
  simp only[List.length_cons] at h;rw[bQ,cM r (o+1) _ i (by omega)];simp only[Array.getD_eq_getD_getElem?];rw[Array.getElem?_setIfInBounds_ne (by omega)]
theorem ed:∀(vs:List Value) (o:Nat) (c:Array Value) (i:Nat),o+vs.length≤c.size→i<vs.length→(bQ c o vs).getD (o+i) undef=vs.getD i undef
 |v::r,o,c,0,hc,_=>by
  simp only[List.length_cons] at hc;rw[bQ,cM r (o+1) _ _ (by omega)];simp only[Array.getD_eq_getD_getElem?,Nat.add_zero,Array.getElem?_setIfInBounds_self,List.getD_cons_zero];rw[if_pos (by omega)];rfl
 |v::r,o,c,i+1,hc,hi=>by
  simp only[List.length_cons] at hc hi;have:=ed r (o+1) (c.setIfInBounds o v) i (by simp;omega) (by omega);rw[bQ,show o+(i+1)=o+1+i by omega,this];simp
end
section
variable {w0:World}{base:Bs}{nt:Nat}{loc:aU}{s:St}{a:Act}{w:World}
theorem ExtL.set {B:Bs}{a u:World} (h:ExtL B a u){b p:Nat} (hb:a.heap.size≤b∨B.lent b){vs:List Value}{c0:Array Value}{T0:TypeId}{fr0:Nat×Nat} (hc0:u.heap[b]? = some (.cells c0 T0 fr0)):ExtL B a (u.setCells b p vs):=by
 have h0:=pY (B:=0) (Nat.zero_le b) vs p u;refine⟨h0.os.trans h.os,h0.tape.trans h.tape,h0.output.trans h.output,by rw[jY];exact h.size,fun k hk hl => ?_,fun k c T fr hc => ?_,fun k c T fr hk hc => ?_⟩
 ·rw[f7 (fun e=>by
                   rcases hb with hb | hb;· omega
                   ·exact hl (e ▸ hb))]
  exact h.block k hk hl
 ·obtain⟨c',h1,h2⟩:=h.lentB k c T fr hc;by_cases e:k=b
  ·subst e;exact⟨bQ c' p vs,by rw[eZ];exact h1,iG _ _ _ _ h2⟩
  ·exact⟨c',h1,by rw[f7 e];exact h2⟩
 ·by_cases e:k=b
  ·subst e;rw[iG _ _ _ _ hc0] at hc;injection hc with hc
   injection hc with h1 h2 h3
   obtain⟨c',g1,g2⟩:=h.lentT k c0 T0 fr0 hk hc0;refine⟨c',?_,?_⟩
   ·rw[g1,←h1,eZ]
   ·rw[g2,h2,h3]
  ·rw[f7 e] at hc;exact h.lentT k c T fr hk hc
theorem Rel.write (h:Rel w0 base nt loc s a w){id:Nat}{o:AObj}{L:Loc} (ho:s.m id=some o) (hf:o.frz=false) (hL:loc id=some L) (hn:L.nil=false){k:Cont}{p:Nat}{vs:List Value}
  (hk:∀(w':World) (c:Array Value),w.heap.size≤w'.heap.size→(∀b,NB base s.m loc w b→w'.heap[b]? = w.heap[b]?)→bf w' (NB base s.m loc w') loc c L.o o.sz o.cont→c.size=L.n→bf w' (NB base s.m loc w') loc (bQ c p vs) L.o o.sz k) :
  Rel w0 base nt loc ⟨s.r,upd s.m id (some ⟨o.T,o.sz,k,false⟩)⟩ a (w.setCells L.b p vs):=by
 obtain⟨L',hL',hok⟩:=h.objs id o ho;rw[hL] at hL';cases hL';obtain⟨c,fr,h1,h2,h3,h4,h5⟩:=hok.at_ hn;have h4:=h4 hf;have hlt:=h.obj_lt ho hL hn;have hown:∀b,cG (upd s.m id (some ⟨o.T,o.sz,k,false⟩)) loc b↔cG s.m loc b:=by
  intro b;constructor
  ·rintro⟨i,o',L',ho',hf',hL',hn',hb'⟩;by_cases e:i=id
   ·subst e;exact⟨i,o,L',ho,hf,hL',hn',hb'⟩
   ·rw[aA _ _ e] at ho';exact⟨i,o',L',ho',hf',hL',hn',hb'⟩
  ·rintro⟨i,o',L',ho',hf',hL',hn',hb'⟩;by_cases e:i=id
   ·subst e;exact⟨i,_,L',aD _ _ _,rfl,hL',hn',hb'⟩
   ·exact⟨i,o',L',by rw[aA _ _ e];exact ho',hf',hL',hn',hb'⟩
 have hself:cG s.m loc L.b:=⟨id,o,L,ho,hf,hL,hn,rfl⟩
 have hsz:(w.setCells L.b p vs).heap.size=w.heap.size:=jY _ _ _;have hs:∀b,b≠L.b→(w.setCells L.b p vs).heap[b]? = w.heap[b]?:=fun b hb=>f7 hb _ _ _
 have hNs:∀b,NB base s.m loc w b→(w.setCells L.b p vs).heap[b]? = w.heap[b]?:=fun b hb=>hs b (fun e=>hb.2.2 (e ▸ hself))
 have hN:∀b,NB base s.m loc w b→NB base (upd s.m id (some ⟨o.T,o.sz,k,false⟩)) loc (w.setCells L.b p vs) b:=fun b hb=>⟨by rw[hsz];exact hb.1,hb.2.1,fun e=>hb.2.2 ((hown b).1 e)⟩
 have hN':∀b,NB base s.m loc (w.setCells L.b p vs) b→NB base (upd s.m id (some ⟨o.T,o.sz,k,false⟩)) loc (w.setCells L.b p vs) b:=fun b hb=>⟨hb.1,hb.2.1,fun e=>hb.2.2 ((hown b).1 e)⟩
 refine⟨?_,h.defers,h.size,h.low,?_,fun t=>(h.tmps t).mono hNs hN (fun _ _ x=>x),?_,?_,h.keepL.put fun _=>⟨_,rfl,rfl⟩⟩
 ·exact h.ext.set h4.1 h1
 ·intro i hi;dsimp only at hi;by_cases e:i=id
  ·subst e;rw[aD] at hi;cases hi
  ·rw[aA _ _ e] at hi;exact h.dom i hi
 ·intro i o' ho';dsimp only at ho';by_cases e:i=id
  ·subst e;rw[aD] at ho';cases ho';refine⟨L,hL,hok.sz,fun e=>(by rw[hn] at e;cases e),fun _=>⟨bQ c p vs,fr,iG _ _ _ _ h1,by simpa using h2,?_,fun _=>h4,by simp⟩⟩;have:=hk (w.setCells L.b p vs) c (by rw[hsz];exact Nat.le_refl _) hNs (h3.mono hNs (fun b hb=>⟨by rw[hsz];exact hb.1,hb.2⟩) (fun _ _ x=>x)) h2;exact this.mono (fun _ _=>rfl) hN' (fun _ _ x=>x)
  ·rw[aA _ _ e] at ho';obtain⟨L',hL',hok'⟩:=h.objs i o' ho';refine⟨L',hL',hok'.sz,hok'.nil,fun hnil => ?_⟩;obtain⟨c',fr',g1,g2,g3,g4,g5⟩:=hok'.at_ hnil;have hne:L'.b≠L.b:=fun hb=>by
    have:=h.inj id i o o' L L' ho ho' hf hL hL' hn hnil hb.symm;exact e this.symm
   exact⟨c',fr',(hs _ hne).trans g1,g2,g3.mono hNs hN (fun _ _ x=>x),g4,fun hf'=>hN _ (g5 hf')⟩
 ·intro i i' o1 o2 L1 L2 ho1 ho2 hf1 hL1 hL2 hn1 hn2 hb;dsimp only at ho1 ho2;have old:∀j oj,upd s.m id (some ⟨o.T,o.sz,k,false⟩) j=some oj→∃oj',s.m j=some oj'∧oj'.frz=oj.frz:=by
   intro j oj hj;by_cases e:j=id
   ·subst e;rw[aD] at hj;cases hj;exact⟨o,ho,hf⟩
   ·rw[aA _ _ e] at hj;exact⟨oj,hj,rfl⟩
  obtain⟨o1',g1,g1'⟩:=old i o1 ho1;obtain⟨o2',g2,_⟩:=old i' o2 ho2;exact h.inj i i' o1' o2' L1 L2 g1 g2 (g1'.trans hf1) hL1 hL2 hn1 hn2 hb
theorem Rel.adopt (h:Rel w0 base nt loc s a w){w':World} (hext:Ext w w'){id:Nat} (hid:s.m id=none){T:TypeId}{sz:Nat}{l:List D} (L:Loc) (hsz:L.sz=sz) (hnl:L.nil=true→l=[])
  (hobj:L.nil=false→w.heap.size≤L.b∧∃c fr,w'.heap[L.b]? = some (.cells c T fr)∧c.size=L.n∧bf w' (fun x=>(x<w'.heap.size∧¬ (base.own x∨cG s.m loc x))∧x≠L.b) (fun _=>none) c L.o sz (.row l)∧∀x,x<L.n→(decide (fr.1≤x)&&decide (x<fr.2))=false) :
  Rel w0 base nt (upd loc id (some L)) ⟨s.r,upd s.m id (some ⟨T,sz,.row l,false⟩)⟩ a w':=by
 have hloc:=h.dom id hid;have hl:∀i K,loc i=some K→upd loc id (some L) i=some K:=fun i K hi=>by
  rw[aA];exact hi;rintro rfl;rw[hloc] at hi;cases hi
 have hs:∀b,NB base s.m loc w b→w'.heap[b]? = w.heap[b]?:=fun b hb=>hext.block b hb.1
 have hn:∀b,NB base s.m loc w b→NB base (upd s.m id (some ⟨T,sz,.row l,false⟩)) (upd loc id (some L)) w' b:=by
  rintro b ⟨h1,h2,h3⟩;refine⟨Nat.lt_of_lt_of_le h1 hext.size,h2,?_⟩;rintro⟨i,o,K,ho,hf,hK,hnil,hb⟩;by_cases hi:i=id
  ·subst hi;rw[aD] at hK;cases hK;have:=(hobj hnil).1;omega
  ·rw[aA _ _ hi] at ho hK;exact h3 ⟨i,o,K,ho,hf,hK,hnil,hb⟩
 refine⟨h.ext.tr hext,h.defers,h.size,h.low,?_,fun t=>(h.tmps t).mono hs hn hl,?_,?_,h.keepL.new hid _ _⟩
 ·intro i hi;dsimp only at hi;by_cases e:i=id
  ·subst e;rw[aD] at hi;cases hi
  ·rw[aA _ _ e] at hi ⊢;exact h.dom i hi
 ·intro i o ho;dsimp only at ho;by_cases e:i=id
  ·subst e;rw[aD] at ho;cases ho;refine⟨L,aD _ _ _,hsz,fun hnil=>by rw[hnl hnil],fun hnil => ?_⟩;obtain⟨g1,c,fr,g2,g3,g4,g5⟩:=hobj hnil;refine⟨c,fr,g2,g3,⟨g4.1,g4.2.1,fun p0 e0 j0 d0 q1 q2=>⟨(g4.2.2 p0 e0 j0 d0 q1 q2).1,(g4.2.2 p0 e0 j0 d0 q1 q2).2.mono (fun _ _=>rfl) fun b hb=>⟨hb.1.1,fun g=>hb.1.2 (.inl g),?_⟩⟩⟩,fun _=>⟨.inl (Nat.le_trans h.ext.size g1),g5⟩,by simp⟩;rintro⟨i',o',K,k1,k2,k3,k4,k5⟩;by_cases e':i'=i
   ·subst e';dsimp only at k1 k3;rw[aD] at k3;cases k3;exact hb.2 k5.symm
   ·dsimp only at k1 k3;rw[aA _ _ e'] at k1 k3;exact hb.1.2 (.inr ⟨i',o',K,k1,k2,k3,k4,k5⟩)
  ·rw[aA _ _ e] at ho;obtain⟨K,hK,hok⟩:=h.objs i o ho;refine⟨K,hl i K hK,hok.sz,hok.nil,fun hnil => ?_⟩;obtain⟨c',fr,h1,h2,h3,h4,h5⟩:=hok.at_ hnil;have hlt:=h.obj_lt ho hK hnil;exact⟨c',fr,(hext.block _ hlt).trans h1,h2,h3.mono hs hn hl,h4,fun hf=>hn _ (h5 hf)⟩
 ·intro i i' o o' K K' ho ho' hf hK hK' hnil hnil' hb;dsimp only at ho ho';by_cases e:i=id
  ·subst e;rw[aD] at hK;cases hK;by_cases e':i'=i
   ·exact e'.symm
   ·rw[aA _ _ e'] at ho' hK';have:=h.obj_lt ho' hK' hnil';have:=(hobj hnil).1;omega
  ·rw[aA _ _ e] at ho hK;by_cases e':i'=id
   ·subst e';rw[aD] at hK';cases hK';have:=h.obj_lt ho hK hnil;have:=(hobj hnil').1;omega
   ·rw[aA _ _ e'] at ho' hK';exact h.inj i i' o o' K K' ho ho' hf hK hK' hnil hnil' hb
theorem Rel.turn (h:Rel w0 base nt loc s a w){id:Nat}{o:AObj}{L:Loc} (ho:s.m id=some o) (hf:o.frz=false) (hL:loc id=some L) (hn:L.nil=false){w':World}{c c':Array Value}{fr:Nat×Nat}{l':List D}{B:Bs} (hw:ExtL B w w')
  (hB:∀b,B.lent b→b=L.b) (hc:w.heap[L.b]? = some (.cells c o.T fr)) (hc':w'.heap[L.b]? = some (.cells c' o.T fr)) (hcs:c'.size=c.size)
  (hk:bf w' (fun b=>b<w'.heap.size∧¬ (base.own b∨cG s.m loc b)) (fun _=>none) c' L.o o.sz (.row l')) :
  Rel w0 base nt loc ⟨s.r,upd s.m id (some ⟨o.T,o.sz,.row l',false⟩)⟩ a w':=by
 obtain⟨L',hL',hok⟩:=h.objs id o ho;rw[hL] at hL';cases hL';obtain⟨c0,fr0,h1,h2,h3,h4,h5⟩:=hok.at_ hn;rw[hc] at h1;injection h1 with h1
 injection h1 with e1 e2 e3
 subst e1 e3;have h4:=h4 hf;have hown:∀b,cG (upd s.m id (some ⟨o.T,o.sz,.row l',false⟩)) loc b↔cG s.m loc b:=by
  intro b;constructor
  ·rintro⟨i,o',L',ho',hf',hL',hn',hb'⟩;by_cases e:i=id
   ·subst e;exact⟨i,o,L',ho,hf,hL',hn',hb'⟩
   ·rw[aA _ _ e] at ho';exact⟨i,o',L',ho',hf',hL',hn',hb'⟩
  ·rintro⟨i,o',L',ho',hf',hL',hn',hb'⟩;by_cases e:i=id
   ·subst e;exact⟨i,_,L',aD _ _ _,rfl,hL',hn',hb'⟩
   ·exact⟨i,o',L',by rw[aA _ _ e];exact ho',hf',hL',hn',hb'⟩
 have hself:cG s.m loc L.b:=⟨id,o,L,ho,hf,hL,hn,rfl⟩
 have hs:∀b,b<w.heap.size→b≠L.b→w'.heap[b]? = w.heap[b]?:=fun b hb hne=>hw.block b hb fun e=>hne (hB b e)
 have hNs:∀b,NB base s.m loc w b→w'.heap[b]? = w.heap[b]?:=fun b hb=>hs b hb.1 (fun e=>hb.2.2 (e ▸ hself))
 have hN:∀b,NB base s.m loc w b→NB base (upd s.m id (some ⟨o.T,o.sz,.row l',false⟩)) loc w' b:=fun b hb=>⟨Nat.lt_of_lt_of_le hb.1 hw.size,hb.2.1,fun e=>hb.2.2 ((hown b).1 e)⟩
 refine⟨⟨hw.os.trans h.ext.os,hw.tape.trans h.ext.tape,hw.output.trans h.ext.output,Nat.le_trans h.ext.size hw.size,fun k hk' hl => ?_,fun k c1 T fr1 hc1 => ?_,fun k c1 T fr1 hk' hc1 => ?_⟩,h.defers,h.size,h.low,?_,fun t=>(h.tmps t).mono hNs hN (fun _ _ x=>x),?_,?_,h.keepL.put fun _=>⟨_,rfl,rfl⟩⟩
 ·rw[hs k (Nat.lt_of_lt_of_le hk' h.ext.size) (fun e=>by
   subst e;rcases h4.1 with g | g
   ·omega
   ·exact hl g)]
  exact h.ext.block k hk' hl
 ·obtain⟨c2,g1,g2⟩:=h.ext.lentB k c1 T fr1 hc1;obtain⟨c3,g3,g4⟩:=hw.lentB k c2 T fr1 g2;exact⟨c3,g3.trans g1,g4⟩
 ·obtain⟨c2,g1,g2⟩:=hw.lentT k c1 T fr1 (Nat.lt_of_lt_of_le hk' h.ext.size) hc1;obtain⟨c3,g3,g4⟩:=h.ext.lentT k c2 T fr1 hk' g2;exact⟨c3,g3.trans g1,g4⟩
 ·intro i hi;dsimp only at hi;by_cases e:i=id
  ·subst e;rw[aD] at hi;cases hi
  ·rw[aA _ _ e] at hi;exact h.dom i hi
 ·intro i o' ho';dsimp only at ho';by_cases e:i=id
  ·subst e;rw[aD] at ho';cases ho';refine⟨L,hL,hok.sz,fun e=>(by rw[hn] at e;cases e),fun _=>⟨c',fr,hc',hcs.trans h2,?_,fun _=>h4,by simp⟩⟩;exact⟨hk.1,hk.2.1,fun i e j d g1 g2=>⟨(hk.2.2 i e j d g1 g2).1,(hk.2.2 i e j d g1 g2).2.mono (fun _ _=>rfl) fun b hb=>⟨hb.1,fun g=>hb.2 (.inl g),fun g=>hb.2 (.inr ((hown b).1 g))⟩⟩⟩
  ·rw[aA _ _ e] at ho';obtain⟨L',hL',hok'⟩:=h.objs i o' ho';refine⟨L',hL',hok'.sz,hok'.nil,fun hnil => ?_⟩;obtain⟨c',fr',g1,g2,g3,g4,g5⟩:=hok'.at_ hnil;have hne:L'.b≠L.b:=fun hb=>by
    have:=h.inj id i o o' L L' ho ho' hf hL hL' hn hnil hb.symm;exact e this.symm
   exact⟨c',fr',(hs _ (lN g1) hne).trans g1,g2,g3.mono hNs hN (fun _ _ x=>x),g4,fun hf'=>hN _ (g5 hf')⟩
 ·intro i i' o1 o2 L1 L2 ho1 ho2 hf1 hL1 hL2 hn1 hn2 hb;dsimp only at ho1 ho2;have old:∀j oj,upd s.m id (some ⟨o.T,o.sz,.row l',false⟩) j=some oj→∃oj',s.m j=some oj'∧oj'.frz=oj.frz:=by
   intro j oj hj;by_cases e:j=id
   ·subst e;rw[aD] at hj;cases hj;exact⟨o,ho,hf⟩
   ·rw[aA _ _ e] at hj;exact⟨oj,hj,rfl⟩
  obtain⟨o1',g1,g1'⟩:=old i o1 ho1;obtain⟨o2',g2,_⟩:=old i' o2 ho2;exact h.inj i i' o1' o2' L1 L2 g1 g2 (g1'.trans hf1) hL1 hL2 hn1 hn2 hb
end
end Go.Proofs.Ytdchbabgopglcaa.M
