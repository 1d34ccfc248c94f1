/- Boxes: a variable's block, known whole. The digits of a number: plain laws. The reference's ZMul. The reference's word, digitsOf, zread, ZParse. A region in whatever order: what holds behind each operation (S), and two conditions more (A, B), of which each holds till one store (number xa, xb) has come: what is read under A is read ahead of that store. The reference's zread, ZParse. The reference's ZParse. -/
import Derived.Test.YtdjbfgfbpimakaaDivDx
import Derived.Test.YtdjbfgfbpimakaaParseBx
import Derived.Test.YtdjbfgfbpimakaaZDx
import Derived.Test.YtdjbfgfbpimakaaK4
section
namespace Go.Proofs.Ytdjbfgfbpimakaa
open Go.RowKit
def Box (w:World) (n:Nat) (T:TypeId) (vs:Array Value):Prop:=w.heap[n]? = some (.cells vs T (0,0))
abbrev iv (x:IV):Array Value:=#[.bool x.n,.slice x.s.a x.s.len x.s.cap]
abbrev zI:IV:=⟨false,⟨none,0,0⟩⟩
section
variable {w w':World} {n:Nat} {T:TypeId} {vs:Array Value}
theorem Box.lt (h:Box w n T vs):n<w.heap.size:=by
  rcases Nat.lt_or_ge n w.heap.size with hlt | hge
  · exact hlt
  · unfold Box at h;rw[Array.getElem?_eq_none hge] at h;cases h
theorem Box.ty (h:Box w n T vs):Ty w n T:=⟨_,_,h⟩
theorem Box.cell (h:Box w n T vs) (i:Nat) {v:Value} (hi:vs[i]? = some v):w.cell? ⟨n,i,none⟩=some v:=by
  unfold Box at h
  simp[World.cell?,h,hi]
theorem Box.frozen (h:Box w n T vs) (i:Nat):w.frozen? ⟨n,i,none⟩=false:=by
  unfold Box at h
  simp[World.frozen?,h]
theorem Box.keep (h:Box w n T vs) (e:Ext w w'):Box w' n T vs:=(e.block n h.lt).trans h
theorem Box.dr (h:Box w n T vs):Box w.drew n T vs:=h
theorem Box.al (h:Box w n T vs) (o:Obj):Box (w.alloc o) n T vs:=h.keep ((Ext.rf w).al o)
theorem Box.far (h:Box w n T vs) {p:Addr} (hp:n≠p.block) (u:Value):Box (w.setCell p u) n T vs:=(Below.heap_setCell w p u n hp).trans h
theorem Box.far2 {m:Nat} (h:Box w n T vs) (hm:n≠m) (u v:Value):Box ((w.setCell ⟨m,0,none⟩ u).setCell ⟨m,1,none⟩ v) n T vs:=(h.far (p:=⟨m,0,none⟩) hm u).far (p:=⟨m,1,none⟩) hm v
theorem Box.new {w:World} {n:Nat} {T:TypeId} {vs:Array Value} (hn:n=w.heap.size):Box (w.alloc (.cells vs T)) n T vs:=by subst hn;exact heap_alloc_new w _
theorem Box.set2 {a b:Value} (h:Box w n T #[a,b]) (u v:Value):Box ((w.setCell ⟨n,0,none⟩ u).setCell ⟨n,1,none⟩ v) n T #[u,v]:=by
  unfold Box at h ⊢
  simp[World.setCell,Array.getElem?_modify,h]
theorem Box.facts {a b:Value} (h:Box w n T #[a,b]):w.cell? ⟨n,0,none⟩=some a∧w.cell? ⟨n,1,none⟩=some b∧w.frozen? ⟨n,0,none⟩=false∧w.frozen? ⟨n,1,none⟩=false:=
  ⟨h.cell 0 rfl,h.cell 1 rfl,h.frozen 0,h.frozen 1⟩
end
theorem IsI.st2 {w:World} {n:Nat} {T:TypeId} {vs:Array Value} {x:IV} {z:Int} (h:IsI w x z) (hb:Box w n T vs) (hT:116≠T) (u v:Value):IsI ((w.setCell ⟨n,0,none⟩ u).setCell ⟨n,1,none⟩ v) x z:=
  h.kept ((Kept.rf _ _).st2 hb.ty hT u v)
theorem Bx.far2 {w:World} {T:TypeId} {n m:Nat} (h:Bx w T n) (hm:n≠m) (u v:Value):Bx ((w.setCell ⟨m,0,none⟩ u).setCell ⟨m,1,none⟩ v) T n:=by
  obtain⟨⟨a,h0⟩,⟨b,h1⟩,f0,f1,t⟩:=h
  refine⟨⟨a,?_⟩,⟨b,?_⟩,by simpa using f0,by simpa using f1,(t.st _ _).st _ _⟩
  · rw[World.cell?_setCell_other _ _ _ _ (by simp),World.cell?_setCell_other _ _ _ _ (by simp)];exact h0
  · rw[World.cell?_setCell_other _ _ _ _ (by simp),World.cell?_setCell_other _ _ _ _ (by simp)];exact h1
theorem Box.bx {w:World} {n:Nat} {T:TypeId} {a b:Value} (h:Box w n T #[a,b]):Bx w T n:=⟨⟨a,h.cell 0 rfl⟩,⟨b,h.cell 1 rfl⟩,h.frozen 0,h.frozen 1,h.ty⟩
def EndSt (L:List (Nat × TypeId)) (w wc w':World):Prop:=
  Ext w w'∧Kept 116 wc w'∧∀ e∈L,w.heap.size≤e.1∧Bx w' e.2 e.1∧116≠e.2
section
variable {L:List (Nat × TypeId)} {w wc w' w'':World}
theorem EndSt.keep (h:EndSt L w wc w') (e:Ext w' w''):EndSt L w wc w'':=
  ⟨h.1.tr e,h.2.1.ex e,fun x hx=>⟨(h.2.2 x hx).1,(h.2.2 x hx).2.1.keep e,(h.2.2 x hx).2.2⟩⟩
theorem EndSt.st2 (h:EndSt L w wc w') {b:Nat} {T:TypeId} (hb:(b,T)∈L) (u v:Value):EndSt L w wc ((w'.setCell ⟨b,0,none⟩ u).setCell ⟨b,1,none⟩ v):=by
  have h0:=h.2.2 _ hb
  refine⟨h.1.st2 h0.1 _ _,h.2.1.st2 h0.2.1.2.2.2.2 h0.2.2 _ _,fun x hx=>⟨(h.2.2 x hx).1,?_,(h.2.2 x hx).2.2⟩⟩
  by_cases e:x.1=b
  · have h1:=(h.2.2 x hx).2.1
    rw[e] at h1 ⊢
    exact h1.st2 _ _
  · exact (h.2.2 x hx).2.1.far2 e _ _
theorem cell_st2 {w:World} {b:Nat} {p:Addr} {x:Value} (h:w.cell? p=some x) (hp:b≠p.block) (u v:Value):((w.setCell ⟨b,0,none⟩ u).setCell ⟨b,1,none⟩ v).cell? p=some x:=by
  rw[World.cell?_setCell_other _ _ _ _ (by intro e;exact hp (by rw[←e])),World.cell?_setCell_other _ _ _ _ (by intro e;exact hp (by rw[←e]))]
  exact h
end
end Go.Proofs.Ytdjbfgfbpimakaa
end

section
namespace Go.Proofs.Ytdjbfgfbpimakaa
open Go.RowKit
def dch (d:Nat):UInt8:=UInt8.ofNat (48+d)
def rdec (n:Nat):List UInt8:=if h:n=0 then [] else dch (n % 10)::rdec (n / 10)
termination_by n
decreasing_by omega
def decN (n:Nat):List UInt8:=if n=0 then [48] else (rdec n).reverse
def dec (z:Int):List UInt8:=if z<0 then 45::decN z.natAbs else decN z.natAbs
theorem rdec_zero:rdec 0=[]:=by rw[rdec];rfl
theorem rdec_pos {n:Nat} (h:0<n):rdec n=dch (n % 10)::rdec (n / 10):=by rw[rdec,dif_neg (by omega)]
theorem dch_toNat {d:Nat} (h:d<10):(dch d).toNat=48+d:=by
 unfold dch
 simp[UInt8.toNat_ofNat']
 omega
theorem readN_nil:readN []=0:=rfl
theorem readN_rdec (n:Nat):readN (rdec n).reverse=n:=by
 induction n using Nat.strongRecOn with
 | ind n ih =>
  rcases Nat.eq_zero_or_pos n with h | h
  ·subst h;rw[rdec_zero];rfl
  ·rw[rdec_pos h,List.reverse_cons,readN_snoc,ih (n / 10) (by omega),dch_toNat (by omega)]
   omega
theorem readN_decN (n:Nat):readN (decN n)=n:=by
 unfold decN
 split
 ·rename_i h;subst h;rfl
 ·exact readN_rdec n
theorem byt_mem {l:List UInt8} (h:∀ c∈l,48≤c.toNat∧c.toNat≤57):∀ j,j<l.length→48≤byt l j∧byt l j≤57:=by
 intro j hj
 rw[byt_lt hj]
 exact h _ (List.getElem_mem hj)
theorem mem_byt {l:List UInt8} (h:∀ j,j<l.length→48≤byt l j∧byt l j≤57):∀ c∈l,48≤c.toNat∧c.toNat≤57:=by
 intro c hc
 obtain⟨j,hj,rfl⟩:=List.mem_iff_getElem.1 hc
 have:=h j hj
 rwa[byt_lt hj] at this
theorem rdec_inj:∀ (a:List UInt8),(∀ c∈a,48≤c.toNat∧c.toNat≤57)→a.getLast?≠some 48→a=rdec (readN a.reverse).toNat:=by
 intro a
 induction a with
 | nil=>intro _ _;rw[List.reverse_nil,readN_nil];exact rdec_zero.symm
 | cons c t ih =>
  intro hd hl
  have hc:=hd c (List.mem_cons_self ..)
  have ht:t=rdec (readN t.reverse).toNat:=by
   by_cases e:t=[]
   ·subst e;rw[List.reverse_nil,readN_nil];exact rdec_zero.symm
   ·refine ih (fun x hx=>hd x (List.mem_cons_of_mem _ hx)) ?_
    rwa[List.getLast?_cons_of_ne_nil e] at hl
  have hb:0≤readN t.reverse:=(readN_bound (byt_mem (l:=t.reverse) fun x hx=>hd x (List.mem_cons_of_mem _ (List.mem_reverse.1 hx)))).1
  rw[List.reverse_cons,readN_snoc]
  obtain⟨m,hm⟩:=Int.eq_ofNat_of_zero_le hb
  rw[hm] at ht ⊢
  have e:((m:Int)*10+((c.toNat:Int)-48)).toNat=m*10+(c.toNat-48):=by omega
  rw[e]
  simp only[Int.toNat_natCast] at ht
  have hpos:0<m*10+(c.toNat-48):=by
   rcases Nat.eq_zero_or_pos m with h0 | h0
   ·subst h0
    rw[rdec_zero] at ht
    subst ht
    rcases Nat.eq_zero_or_pos (c.toNat-48) with h1 | h1
    ·have:c=48:=UInt8.toNat_inj.1 (by show c.toNat=48;omega)
     subst this
     simp at hl
    ·omega
   ·omega
  rw[rdec_pos hpos,show (m*10+(c.toNat-48)) % 10=c.toNat-48 by omega,show (m*10+(c.toNat-48)) / 10=m by omega,←ht]
  congr 1
  apply UInt8.toNat_inj.1
  rw[dch_toNat (by omega)]
  omega
theorem decN_canon {l:List UInt8} (h:Canon l):decN (readN l).toNat=l:=by
 have hb:=readN_bound h.digs
 by_cases h0:byt l 0=48
 ·have h1:=h.lead h0
  match l,h1,h0 with
  | [c],_,h0 =>
   rw[byt_cons_zero] at h0
   have:c=48:=UInt8.toNat_inj.1 h0
   subst this
   rfl
 ·have hr:=rdec_inj l.reverse (fun c hc=>mem_byt h.digs c (List.mem_reverse.1 hc)) (by
   rw[List.getLast?_reverse]
   intro e
   match l,e,h0 with
   | c::t,e,h0 =>
    simp at e
    subst e
    exact h0 rfl)
  rw[List.reverse_reverse] at hr
  unfold decN
  split
  ·rename_i hz
   rw[hz,rdec_zero] at hr
   have:=h.pos
   rw[List.reverse_eq_nil_iff] at hr
   rw[hr] at this
   simp at this
  ·rw[←hr,List.reverse_reverse]
theorem dec_numVal {t:List UInt8} (h:numOk t=true):dec (numVal t)=t:=by
 obtain⟨hc,hz⟩:=numOk_canon h
 have hb:=readN_bound hc.digs
 have hd:=decN_canon hc
 unfold numVal dec
 cases hn:isNeg t
 ·simp only[sg,Bool.false_eq_true,if_false]
  rw[if_neg (by omega),show (readN (body t)).natAbs=(readN (body t)).toNat by omega,hd,body_pos hn]
 ·have hpos:0<readN (body t):=by
   rcases Int.lt_or_le 0 (readN (body t)) with h1 | h1
   ·exact h1
   ·exfalso
    have e0:readN (body t)=0:=by omega
    rw[e0] at hd
    have:=hz hn
    rw[←hd] at this
    exact this rfl
  simp only[sg,if_true]
  rw[if_pos (by omega),show (-readN (body t)).natAbs=(readN (body t)).toNat by omega,hd,body_neg hn]
  match t,hn with
  | c::r,hn =>
   have:c=45:=by simpa[isNeg] using hn
   subst this
   rfl
end Go.Proofs.Ytdjbfgfbpimakaa
end

section
namespace Go.Proofs.Ytdjbfgfbpimakaa.Z4
open Go.RowKit
theorem pow_add4 (i j:Nat):(10000:Int)^(i+j)=10000^i*10000^j:=Int.pow_add ..
theorem zmul_step {V c V0 x vb y ok p q bi Y:Int} (h:V+c*p=V0+x*vb*bi) (hq:p*10000=q) (hp:y*p=Y*bi) :
  V+((c+ok+x*y) % 10000-ok)*p+(c+ok+x*y) / 10000*q=V0+x*(vb+Y)*bi:=by
 have h1:(c+ok+x*y) % 10000=(c+ok+x*y)-10000*((c+ok+x*y) / 10000):=by omega
 rw[h1,←hq]
 generalize (c+ok+x*y) / 10000=d
 grind
set_option maxRecDepth 100000 in
set_option maxHeartbeats 2000000 in
theorem mul_av (x y:IV) (a b:Int) (w:World) (hx:IsZ w x a) (hy:IsZ w y b) (hs:Sm (a*b)) :
  Calls Try.prog 52 #[.agg #[.bool x.n,.slice x.s.a x.s.len x.s.cap],.agg #[.bool y.n,.slice y.s.a y.s.len y.s.cap]] w (RetZA w [] (a*b)):=by
 obtain⟨la,hla,na,da,hlea,hza,h0a,hsa⟩:=hx.open_
 obtain⟨lb,hlb,nb,db,hleb,hzb,h0b,hsb⟩:=hy.open_
 obtain⟨nx,sx⟩:=x
 obtain⟨ny,sy⟩:=y
 obtain⟨ao,ca,rfl,hca,hcam,hopa⟩:=hla.open_
 obtain⟨bo,cb,rfl,hcb,hcbm,hopb⟩:=hlb.open_
 have hv:=hd_ ((sg_mul (m:=nx) (n:=ny) (p:=valL la) (q:=valL lb)).trans (show _=a*b by rw[hza,hzb]))
 replace hs:=hd_ hs
 have he0:=(((Ext.rf w).al (Obj.cells #[Value.bool nx,Value.slice ao la.length ca] 45)).al (Obj.cells #[Value.bool ny,Value.slice bo lb.length cb] 45)).al (Obj.cells #[Value.bool false,Value.slice none 0 0] 45)
 clear hx hy hza hzb h0a h0b hsa hsb na nb
 go_enter Try.func52,Try.ntmps52
 go_wp2_with (at_make;refine wpL_make _ rfl _ _ 43 rfl 3 .i64 8 Try.underlying43 infoI64 _ _ _ _ (la.length+lb.length+1) rfl rfl (by omega) (by omega) (by omega) (by omega) ?_;intro w1 hown1 hx1 hlt1;obtain⟨hc1,hf1⟩:=bcell hx1)
 go_loopw [6] (fun i wr => ∃ (k:Nat) (o:List Int),i = .int .i64 k∧k≤la.length∧Own wr (w.heap.size+1+1+1) 3 .i64 o∧o.length=la.length+lb.length+1∧Dig o ∧
   valL o=valL (la.take k)*valL lb∧(∀ t,k+lb.length≤t→at_ o t=0)∧Ext (((w.alloc (Obj.cells #[Value.bool nx,Value.slice ao la.length ca] 45)).alloc (Obj.cells #[Value.bool ny,Value.slice bo lb.length cb] 45)).alloc (Obj.cells #[Value.bool false,Value.slice none 0 0] 45)) wr) (fun i _=>la.length-(intOf i).toNat)
 case atStart=>exact⟨0,_,rfl,Nat.zero_le _,by simpa using hown1,by simp,(fun x hx=>by have:=List.eq_of_mem_replicate hx;omega),by simp[valL];exact valL_zero (fun j=>by simp[at_,List.getElem?_replicate];split<;>rfl),fun t _=>by simp[at_,List.getElem?_replicate];split<;>rfl,hx1⟩
 case round =>
  clear hown1 hx1 hc1 hf1 hlt1
  obtain⟨k,o,rfl,hk,hown,hol,hdo,hval,hzt,hx⟩:=hrel
  replace hval:=hd_ hval
  replace hol:=hd_ hol
  replace hzt:=hd_ hzt
  obtain⟨hc1,hf1⟩:=bcell hx
  have hsz:=hx.size
  simp only[World.size_alloc] at hsz
  by_cases hlt:k<la.length
  ·obtain⟨ba,oa,rfl,hba,ga0⟩:=hopa (by omega)
   have hbl:=hba.lt
   have ga0:=(he0.cell (p:=⟨ba,oa+k,none⟩) hbl).trans (ga0 k hlt)
   have fa:=da.at_ k
   go_wp2
   go_loopw [8,7] (fun j c wi => ∃ (m:Nat) (cc:Int) (o2:List Int),j = .int .i64 m∧c = .int .i64 cc∧m≤lb.length+1∧(0≤cc∧cc≤9999)∧Own wi (w.heap.size+1+1+1) 3 .i64 o2∧o2.length=la.length+lb.length+1∧Dig o2 ∧
     valL o2+cc*10000^(k+m)=valL (la.take k)*valL lb+at_ la k*valL (lb.take m)*10000^k∧(∀ t,k+max m lb.length≤t→at_ o2 t=0)∧(m=lb.length+1→cc=0)∧Ext (((w.alloc (Obj.cells #[Value.bool nx,Value.slice (some ⟨ba,oa,none⟩) la.length ca] 45)).alloc (Obj.cells #[Value.bool ny,Value.slice bo lb.length cb] 45)).alloc (Obj.cells #[Value.bool false,Value.slice none 0 0] 45)) wi) (fun j _ _=>lb.length+1-(intOf j).toNat)
   case atStart=>exact⟨0,0,o,rfl,rfl,Nat.zero_le _,by omega,hown,hol.out,hdo,by rw[hval.out];simp[valL],fun t ht=>hzt.out t (by omega),fun _=>rfl,hx⟩
   case round =>
    clear hown hdo hval hol hzt hx hc1 hf1 hsz
    obtain⟨m,cc,o2,rfl,rfl,hm,hcc,hown,hol,hdo,hval,hzt,hcz,hx⟩:=hrel
    replace hval:=hd_ hval
    replace hol:=hd_ hol
    replace hzt:=hd_ hzt
    obtain⟨hc1,hf1⟩:=bcell hx
    have hsz:=hx.size
    simp only[World.size_alloc] at hsz
    have ga:=(hx.cell (p:=⟨ba,oa+k,none⟩) (by simp;omega)).trans ga0
    by_cases hlt2:m<lb.length
    ·obtain⟨bb,ob,rfl,hbb,gb⟩:=hopb (by omega)
     have hbl2:=hbb.lt
     have gb:=(hx.cell (p:=⟨bb,ob+m,none⟩) (by simp;omega)).trans ((he0.cell (p:=⟨bb,ob+m,none⟩) hbl2).trans (gb m hlt2))
     have fb:=db.at_ m
     have fab:=mul_bound fa fb
     have go:=hown.cell (i:=k+m) (by have:=hol.out;omega)
     have gf:=hown.frozen (k+m)
     have fo:=hdo.at_ (k+m)
     clear hcz
     go_wp2
     go_quiet (fail)
     go_wp2
     go_roundw
     case rel =>
      refine⟨m+1,_,o2.set (k+m) ((cc+at_ o2 (k+m)+at_ la k*at_ lb m) % 10000),by go_num,rfl,by omega,by omega,hown.set (k+m) _,by rw[List.length_set];exact hol.out,hdo.set _ (by omega),?_,?_,by omega,?_⟩
      ·rw[valL_set_full (by have:=hol.out;omega),valL_take_succ,←Nat.add_assoc]
       exact zmul_step hval.out (Int.pow_succ ..).symm (by rw[pow_add4];grind)
      ·intro t ht
       rw[at_set_ne (by omega)]
       exact hzt.out t (by omega)
      ·exact Ext.st (below_drewN hx _) (by simp) _
     case measure=>first | (simp[intOf];done) | (simp[intOf];omega)
    ·by_cases hcp:0<cc
     ·have hml:m=lb.length:=by
       rcases Nat.lt_or_ge m (lb.length+1) with h | h
       ·omega
       ·have:=hcz (by omega);omega
      have go:=hown.cell (i:=k+m) (by have:=hol.out;omega)
      have hz0:at_ o2 (k+m)=0:=hzt.out _ (by omega)
      rw[hz0] at go
      have gf:=hown.frozen (k+m)
      replace hml:=hd_ hml
      replace hz0:=hd_ hz0
      clear hcz
      go_wp2
      go_roundw
      case rel =>
       refine⟨m+1,cc / 10000,o2.set (k+m) (cc % 10000),by go_num,rfl,by have:=hml.out;omega,by omega,hown.set (k+m) _,by rw[List.length_set];exact hol.out,hdo.set _ (by omega),?_,?_,fun _=>by omega,hx.st (by simp) _⟩
       ·have h1:=hval.out
        rw[show cc % 10000=cc by omega,show cc / 10000=0 by omega]
        have e1:lb.take m=lb:=List.take_of_length_le (by have:=hml.out;omega)
        have e2:lb.take (m+1)=lb:=List.take_of_length_le (by have:=hml.out;omega)
        rw[e1] at h1
        rw[valL_set_full (by have:=hol.out;have:=hml.out;omega),hz0.out,e2,Int.sub_zero,Int.zero_mul,Int.add_zero,h1]
       ·intro t ht
        have:=hml.out
        rw[at_set_ne (by omega)]
        exact hzt.out t (by omega)
      case measure=>have:=hml.out;first | (simp[intOf];done) | (simp[intOf];omega)
     ·obtain rfl:cc=0:=by omega
      have hfin:Hd (valL o2=valL (la.take (k+1))*valL lb):=hd_ (by
       have h1:=hval.out
       have e1:lb.take m=lb:=List.take_of_length_le (by omega)
       rw[e1,Int.zero_mul,Int.add_zero] at h1
       rw[h1,valL_take_succ]
       grind)
      clear hcz
      go_wp2
      go_roundw
      case rel=>exact⟨k+1,o2,by go_num,by omega,hown,hol.out,hdo,hfin.out,fun t ht=>hzt.out t (by omega),hx⟩
      case measure=>first | (simp[intOf];done) | (simp[intOf];omega)
  ·obtain rfl:k=la.length:=by omega
   rw[List.take_of_length_le (Nat.le_refl _)] at hval
   go_wp2_with fail
   have hL:=Own.isL (k:=.i64) hown (by have:=hol.out;omega) hdo.fit
   rw[hol.out] at hL
   refine (made_av _ ⟨some ⟨w.heap.size+1+1+1,0,none⟩,la.length+lb.length+1,la.length+lb.length+1⟩ o _ hL hdo (by rw[hval.out,hv.out];exact hs.out)).mono ?_
   rintro e w2 ⟨y,rfl,hy,hx2,hav⟩
   have k0:w2.cell? ⟨w.heap.size+1+1,0,none⟩=some (Value.bool false):=cell_later hx2 (cell_later hx (by simp[go_sem]))
   have k1:w2.cell? ⟨w.heap.size+1+1,1,none⟩=some (Value.slice none 0 0):=cell_later hx2 (cell_later hx (by simp[go_sem]))
   have f0:∀ i,w2.frozen? ⟨w.heap.size+1+1,i,none⟩=false:=fun i=>(hx2.frozen (p:=⟨w.heap.size+1+1,i,none⟩) (by show w.heap.size+1+1<_;omega)).trans ((hx.frozen (p:=⟨w.heap.size+1+1,i,none⟩) (by simp)).trans (by simp[go_sem]))
   go_wp2
   refine bodyPost_ret (v:=.agg #[.bool y.n,.slice y.s.a y.s.len y.s.cap]) (by simp[results,Try.results52,go_sem,k0,k1]) rfl ⟨y,rfl,?_,?_,(hav.mono (by omega)).trans (av1 (Av.own rfl (by omega)))⟩
   ·rw[hval.out,hv.out] at hy
    exact hy.kept ((Kept.rf _ _).st2 (T':=45) (((Ty.new' (by simp)).keep hx).keep hx2) (by decide) _ _)
   ·exact ((he0.tr hx).tr hx2).st2 (by omega) _ _
theorem mul_any (x y:IV) (a b:Int) (w:World) (hx:IsZ w x a) (hy:IsZ w y b) (hs:Sm (a*b)) :
  Calls Try.prog 52 #[.agg #[.bool x.n,.slice x.s.a x.s.len x.s.cap],.agg #[.bool y.n,.slice y.s.a y.s.len y.s.cap]] w (RetZ w (a*b)):=(mul_av x y a b w hx hy hs).mono fun _ _ h=>h.ret
end Go.Proofs.Ytdjbfgfbpimakaa.Z4
end

section
namespace Go.Proofs.Ytdjbfgfbpimakaa.Z4
open Go.RowKit
theorem head48 {t:List UInt8} {f:Nat} (h:((t.drop f).head? == some 48)=true):f<t.length∧byt t f=48:=by
 rw[beq_iff_eq,List.head?_drop] at h
 obtain⟨h1,h2⟩:=List.getElem?_eq_some_iff.1 h
 exact⟨h1,by rw[byt_lt h1,h2];rfl⟩
theorem nhead48 {t:List UInt8} {f:Nat} (h:((t.drop f).head? == some 48)=false) (hl:f<t.length):byt t f≠48:=by
 intro e
 rw[beq_eq_false_iff_ne,List.head?_drop,List.getElem?_eq_getElem hl] at h
 rw[byt_lt hl] at e
 exact h (congrArg some (UInt8.toNat_inj.1 e))
theorem isNeg_byt {t:List UInt8} (h:isNeg t=true):0<t.length∧((byt t 0:Int) == 45)=true:=by
 have h0:=isNeg_pos h
 refine⟨h0,?_⟩
 match t,h with
 | c::r,h =>
  have:c=45:=by simpa[isNeg] using h
  subst this
  rfl
theorem nNeg_byt {t:List UInt8} (h:isNeg t=false) (hl:0<t.length):((byt t 0:Int) == 45)=false:=by
 match t,hl with
 | c::r,_ =>
  rw[beq_eq_false_iff_ne,byt_cons_zero]
  intro e
  have:c=45:=UInt8.toNat_inj.1 (by show c.toNat=45;omega)
  subst this
  cases h
set_option maxHeartbeats 400000 in
theorem word_neg (t:List UInt8) (w:World) (hs:t.length≤9223372036854775807) (hn:isNeg t=true) :
  Calls Try.prog 74 #[.string (bs t),.bool true,.bool true] w (fun e w'=>e = .returned (.tuple #[.int .i64 (numLen true t).1,.bool (numLen true t).2])∧Ext w w'):=by
 have hf:(if true&&isNeg t then 1 else 0)=1:=by simp[hn]
 obtain⟨hl,hb⟩:=isNeg_byt hn
 clear hn
 by_cases h48:((t.drop 1).head? == some 48)=true
 ·have H:=hd_ (numLen_zero hf h48)
  obtain⟨hl48,hb48⟩:=head48 h48
  have hb48':((byt t 1:Int) == 48)=true:=by rw[beq_iff_eq];omega
  replace hf:=hd_ hf
  clear h48 hb48
  go_enter Try.func74,Try.ntmps74
  go_wp2
  go_ret2
  exact⟨by rw[H.out];rfl,Ext.rf _⟩
 ·have h48:((t.drop 1).head? == some 48)=false:=by simpa using h48
  have H:Hd (∀ k:Nat,(1:Nat)+digRun (t.drop 1)=k→numLen true t=(k,decide (1<k))):=hd_ (fun k hk=>numLen_run hf h48 hk)
  have hnb:∀ h:1<t.length,((byt t 1:Int) == 48)=false:=fun h=>by rw[beq_eq_false_iff_ne];have:=nhead48 h48 h;omega
  replace hf:=hd_ hf
  clear h48
  by_cases hl48:1<t.length
  ·have hnb:=hnb hl48
   go_enter Try.func74,Try.ntmps74
   go_wp2
   go_loop [9] (fun i => ∃ k:Nat,i = .int .i64 k∧1≤k∧k≤t.length∧∀ j,1≤j→j<k→48≤byt t j∧byt t j≤57) (fun n=>t.length-(intOf n).toNat)
   case atStart=>exact⟨1,rfl,Nat.le_refl _,by omega,fun j h1 h2=>by omega⟩
   case round =>
    obtain⟨k,rfl,hk1,hk2,hall⟩:=hrel
    replace hall:=hd_ hall
    by_cases hlt:k<t.length
    ·by_cases hd:48≤byt t k∧byt t k≤57
     ·obtain⟨hd1,hd2⟩:=hd
      go_wp2
      go_round
      case rel=>exact⟨k+1,by go_num,by omega,by omega,fun j h1 h2=>if e:j=k then by subst e;exact⟨hd1,hd2⟩ else hall.out j h1 (by omega)⟩
      case measure=>first | (simp[intOf];done) | (simp[intOf];omega)
     ·have HK:=hd_ (H.out k (digRun_drop hk1 hk2 hall.out (.inr hd)))
      by_cases hd1:48≤byt t k
      ·have hd2:¬ byt t k≤57:=fun h=>hd ⟨hd1,h⟩
       clear hd
       go_wp2
       go_ret2
       exact⟨ret2_ib (by rw[HK.out]) (by rw[HK.out];try exact decide_eq_decide.2 (by omega)),Ext.rf _⟩
      ·clear hd
       go_wp2
       go_ret2
       exact⟨ret2_ib (by rw[HK.out]) (by rw[HK.out];try exact decide_eq_decide.2 (by omega)),Ext.rf _⟩
    ·have HK:=hd_ (H.out k (digRun_drop hk1 hk2 hall.out (.inl (by omega))))
     go_wp2
     go_ret2
     exact⟨ret2_ib (by rw[HK.out]) (by rw[HK.out];try exact decide_eq_decide.2 (by omega)),Ext.rf _⟩
  ·clear hnb
   first
   | (exfalso;omega)
   | (
     go_enter Try.func74,Try.ntmps74
     go_wp2
     go_loop [9] (fun i=>i = .int .i64 t.length∧1=t.length) (fun _=>0)
     case atStart=>exact⟨by congr 1;omega,by omega⟩
     case round =>
      obtain⟨rfl,hk⟩:=hrel
      have HK:=hd_ (H.out t.length (digRun_drop (by omega) (Nat.le_refl _) (fun j h1 h2=>by omega) (.inl rfl)))
      replace hk:=hd_ hk
      go_wp2
      go_ret2
      exact⟨ret2_ib (by rw[HK.out]) (by rw[HK.out];try first | exact decide_eq_decide.2 (by omega) | exact (decide_eq_false (by omega)).symm),Ext.rf _⟩)
set_option maxHeartbeats 400000 in
theorem word_pos (t:List UInt8) (w:World) (hs:t.length≤9223372036854775807) (hn:isNeg t=false) (hl:0<t.length) :
  Calls Try.prog 74 #[.string (bs t),.bool true,.bool true] w (fun e w'=>e = .returned (.tuple #[.int .i64 (numLen true t).1,.bool (numLen true t).2])∧Ext w w'):=by
 have hf:(if true&&isNeg t then 1 else 0)=0:=by simp[hn]
 have hb:=nNeg_byt hn hl
 clear hn
 by_cases h48:((t.drop 0).head? == some 48)=true
 ·have H:=hd_ (numLen_zero hf h48)
  obtain⟨hl48,hb48⟩:=head48 h48
  have hb48':((byt t 0:Int) == 48)=true:=by rw[beq_iff_eq];omega
  replace hf:=hd_ hf
  clear h48 hb48
  go_enter Try.func74,Try.ntmps74
  go_wp2
  go_ret2
  exact⟨by rw[H.out];rfl,Ext.rf _⟩
 ·have h48:((t.drop 0).head? == some 48)=false:=by simpa using h48
  have H:Hd (∀ k:Nat,(0:Nat)+digRun (t.drop 0)=k→numLen true t=(k,decide (0<k))):=hd_ (fun k hk=>numLen_run hf h48 hk)
  have hnb:∀ h:0<t.length,((byt t 0:Int) == 48)=false:=fun h=>by rw[beq_eq_false_iff_ne];have:=nhead48 h48 h;omega
  replace hf:=hd_ hf
  clear h48
  by_cases hl48:0<t.length
  ·have hnb:=hnb hl48
   go_enter Try.func74,Try.ntmps74
   go_wp2
   go_loop [9] (fun i => ∃ k:Nat,i = .int .i64 k∧0≤k∧k≤t.length∧∀ j,0≤j→j<k→48≤byt t j∧byt t j≤57) (fun n=>t.length-(intOf n).toNat)
   case atStart=>exact⟨0,rfl,Nat.le_refl _,by omega,fun j h1 h2=>by omega⟩
   case round =>
    obtain⟨k,rfl,hk1,hk2,hall⟩:=hrel
    replace hall:=hd_ hall
    by_cases hlt:k<t.length
    ·by_cases hd:48≤byt t k∧byt t k≤57
     ·obtain⟨hd1,hd2⟩:=hd
      go_wp2
      go_round
      case rel=>exact⟨k+1,by go_num,by omega,by omega,fun j h1 h2=>if e:j=k then by subst e;exact⟨hd1,hd2⟩ else hall.out j h1 (by omega)⟩
      case measure=>first | (simp[intOf];done) | (simp[intOf];omega)
     ·have HK:=hd_ (H.out k (digRun_drop hk1 hk2 hall.out (.inr hd)))
      by_cases hd1:48≤byt t k
      ·have hd2:¬ byt t k≤57:=fun h=>hd ⟨hd1,h⟩
       clear hd
       go_wp2
       go_ret2
       exact⟨ret2_ib (by rw[HK.out]) (by rw[HK.out];try exact decide_eq_decide.2 (by omega)),Ext.rf _⟩
      ·clear hd
       go_wp2
       go_ret2
       exact⟨ret2_ib (by rw[HK.out]) (by rw[HK.out];try exact decide_eq_decide.2 (by omega)),Ext.rf _⟩
    ·have HK:=hd_ (H.out k (digRun_drop hk1 hk2 hall.out (.inl (by omega))))
     go_wp2
     go_ret2
     exact⟨ret2_ib (by rw[HK.out]) (by rw[HK.out];try exact decide_eq_decide.2 (by omega)),Ext.rf _⟩
  ·clear hnb
   first
   | (exfalso;omega)
   | (
     go_enter Try.func74,Try.ntmps74
     go_wp2
     go_loop [9] (fun i=>i = .int .i64 t.length∧0=t.length) (fun _=>0)
     case atStart=>exact⟨by congr 1;omega,by omega⟩
     case round =>
      obtain⟨rfl,hk⟩:=hrel
      have HK:=hd_ (H.out t.length (digRun_drop (by omega) (Nat.le_refl _) (fun j h1 h2=>by omega) (.inl rfl)))
      replace hk:=hd_ hk
      go_wp2
      go_ret2
      exact⟨ret2_ib (by rw[HK.out]) (by rw[HK.out];try first | exact decide_eq_decide.2 (by omega) | exact (decide_eq_false (by omega)).symm),Ext.rf _⟩)
set_option maxHeartbeats 400000 in
theorem word_uns (t:List UInt8) (w:World) (hs:t.length≤9223372036854775807)  :
  Calls Try.prog 74 #[.string (bs t),.bool false,.bool false] w (fun e w'=>e = .returned (.tuple #[.int .i64 (numLen false t).1,.bool (numLen false t).2])∧Ext w w'):=by
 have hf:(if false&&isNeg t then 1 else 0)=0:=by simp[isNeg]
 skip
 by_cases h48:((t.drop 0).head? == some 48)=true
 ·have H:=hd_ (numLen_zero hf h48)
  obtain⟨hl48,hb48⟩:=head48 h48
  have hb48':((byt t 0:Int) == 48)=true:=by rw[beq_iff_eq];omega
  replace hf:=hd_ hf
  clear h48 hb48
  go_enter Try.func74,Try.ntmps74
  go_wp2
  go_ret2
  exact⟨by rw[H.out];rfl,Ext.rf _⟩
 ·have h48:((t.drop 0).head? == some 48)=false:=by simpa using h48
  have H:Hd (∀ k:Nat,(0:Nat)+digRun (t.drop 0)=k→numLen false t=(k,decide (0<k))):=hd_ (fun k hk=>numLen_run hf h48 hk)
  have hnb:∀ h:0<t.length,((byt t 0:Int) == 48)=false:=fun h=>by rw[beq_eq_false_iff_ne];have:=nhead48 h48 h;omega
  replace hf:=hd_ hf
  clear h48
  by_cases hl48:0<t.length
  ·have hnb:=hnb hl48
   go_enter Try.func74,Try.ntmps74
   go_wp2
   go_loop [9] (fun i => ∃ k:Nat,i = .int .i64 k∧0≤k∧k≤t.length∧∀ j,0≤j→j<k→48≤byt t j∧byt t j≤57) (fun n=>t.length-(intOf n).toNat)
   case atStart=>exact⟨0,rfl,Nat.le_refl _,by omega,fun j h1 h2=>by omega⟩
   case round =>
    obtain⟨k,rfl,hk1,hk2,hall⟩:=hrel
    replace hall:=hd_ hall
    by_cases hlt:k<t.length
    ·by_cases hd:48≤byt t k∧byt t k≤57
     ·obtain⟨hd1,hd2⟩:=hd
      go_wp2
      go_round
      case rel=>exact⟨k+1,by go_num,by omega,by omega,fun j h1 h2=>if e:j=k then by subst e;exact⟨hd1,hd2⟩ else hall.out j h1 (by omega)⟩
      case measure=>first | (simp[intOf];done) | (simp[intOf];omega)
     ·have HK:=hd_ (H.out k (digRun_drop hk1 hk2 hall.out (.inr hd)))
      by_cases hd1:48≤byt t k
      ·have hd2:¬ byt t k≤57:=fun h=>hd ⟨hd1,h⟩
       clear hd
       go_wp2
       go_ret2
       exact⟨ret2_ib (by rw[HK.out]) (by rw[HK.out];try exact decide_eq_decide.2 (by omega)),Ext.rf _⟩
      ·clear hd
       go_wp2
       go_ret2
       exact⟨ret2_ib (by rw[HK.out]) (by rw[HK.out];try exact decide_eq_decide.2 (by omega)),Ext.rf _⟩
    ·have HK:=hd_ (H.out k (digRun_drop hk1 hk2 hall.out (.inl (by omega))))
     go_wp2
     go_ret2
     exact⟨ret2_ib (by rw[HK.out]) (by rw[HK.out];try exact decide_eq_decide.2 (by omega)),Ext.rf _⟩
  ·clear hnb
   first
   | (exfalso;omega)
   | (
     go_enter Try.func74,Try.ntmps74
     go_wp2
     go_loop [9] (fun i=>i = .int .i64 t.length∧0=t.length) (fun _=>0)
     case atStart=>exact⟨by congr 1;omega,by omega⟩
     case round =>
      obtain⟨rfl,hk⟩:=hrel
      have HK:=hd_ (H.out t.length (digRun_drop (by omega) (Nat.le_refl _) (fun j h1 h2=>by omega) (.inl rfl)))
      replace hk:=hd_ hk
      go_wp2
      go_ret2
      exact⟨ret2_ib (by rw[HK.out]) (by rw[HK.out];try first | exact decide_eq_decide.2 (by omega) | exact (decide_eq_false (by omega)).symm),Ext.rf _⟩)
set_option maxHeartbeats 400000 in
theorem word_nil (w:World) :
  Calls Try.prog 74 #[.string (bs []),.bool true,.bool true] w (fun e w'=>e = .returned (.tuple #[.int .i64 (numLen true []).1,.bool (numLen true []).2])∧Ext w w'):=by
 go_enter Try.func74,Try.ntmps74
 go_wp2
 go_loop [9] (fun i=>i = .int .i64 0) (fun _=>0)
 case atStart=>rfl
 case round =>
  subst hrel
  go_wp2
  go_ret2
  exact⟨rfl,Ext.rf _⟩
theorem word_any (t:List UInt8) (sg:Bool) (w:World) (hs:t.length≤9223372036854775807) :
  Calls Try.prog 74 #[.string (bs t),.bool sg,.bool sg] w (fun e w'=>e = .returned (.tuple #[.int .i64 (numLen sg t).1,.bool (numLen sg t).2])∧Ext w w'):=by
 cases sg
 ·exact word_uns t w hs
 ·cases hn:isNeg t
  ·rcases Nat.eq_zero_or_pos t.length with h | h
   ·rw[List.eq_nil_of_length_eq_zero h];exact word_nil w
   ·exact word_pos t w hs hn h
  ·exact word_neg t w hs hn
set_option maxHeartbeats 400000 in
theorem digitsOf_any (t:List UInt8) (w:World) (hs:t.length≤9223372036854775807) :
  Calls Try.prog 75 #[.string (bs t)] w (fun e w'=>e = .returned (.int .i64 (body t).length)∧Ext w w'):=by
 have hb:=body_length t
 cases hn:isNeg t
 ·rw[hn] at hb
  have H:Hd ((body t).length=t.length):=hd_ (by simpa using hb)
  clear hb
  by_cases hl:0<t.length
  ·have hb:=nNeg_byt hn hl
   clear hn
   go_enter Try.func75,Try.ntmps75
   go_wp2
   go_ret
   exact⟨ret_i (by rw[H.out]),Ext.rf _⟩
  ·clear hn
   go_enter Try.func75,Try.ntmps75
   go_wp2
   go_ret
   exact⟨ret_i (by rw[H.out]),Ext.rf _⟩
 ·obtain⟨hl,hb2⟩:=isNeg_byt hn
  have H:Hd (((body t).length:Int)=t.length-1):=hd_ (by rw[hb,hn];simp;omega)
  clear hb hn
  go_enter Try.func75,Try.ntmps75
  go_wp2
  go_ret
  exact⟨ret_i (by rw[H.out]),Ext.rf _⟩
end Go.Proofs.Ytdjbfgfbpimakaa.Z4
end

section
namespace Go.Proofs.Ytdjbfgfbpimakaa
open Go.RowKit
section
variable {P:Program} {ops:Array Oper} {Q:Exit→Act→World→Prop} {md:Region.Mode} {S A B:World→Prop} {xa xb:Nat}
def Shows (S A B:World→Prop) (xa xb:Nat) (listed:Array Bool) (w:World):Prop:=S w∧(listed.getD xa true=false→A w)∧(listed.getD xb true=false→B w)
theorem Shows.s {listed:Array Bool} {w:World} (h:Shows S A B xa xb listed w):S w:=h.1
theorem Shows.a {listed:Array Bool} {w:World} (h:Shows S A B xa xb listed w) (hl:listed.getD xa true=false):A w:=h.2.1 hl
theorem Shows.b {listed:Array Bool} {w:World} (h:Shows S A B xa xb listed w) (hl:listed.getD xb true=false):B w:=h.2.2 hl
theorem getD_of_set {listed:Array Bool} {i j:Nat} (h:(listed.setIfInBounds j true).getD i true=false):listed.getD i true=false:=by
 by_cases hij:j=i
 ·subst hij
  rcases Nat.lt_or_ge j listed.size with h' | h'
  ·simp[h'] at h
  ·exfalso;simp[Array.getD,Nat.not_lt.2 h'] at h
 ·rwa[getD_set_ne true hij] at h
theorem Shows.more {listed:Array Bool} {w:World} (h:Shows S A B xa xb listed w) (i:Nat):Shows S A B xa xb (listed.setIfInBounds i true) w:=
 ⟨h.1,fun h'=>h.2.1 (getD_of_set h'),fun h'=>h.2.2 (getD_of_set h')⟩
def wpG (P:Program) (md:Region.Mode) (ops:Array Oper) (Q:Exit→Act→World→Prop) (S A B:World→Prop) (xa xb:Nat):Nat→Array Bool→Act→World→Prop
 | 0,listed,a,w=>Region.ready md ops listed=[]∧Q .normal a w
 | fuel+1,listed,a,w =>
  (Region.ready md ops listed=[]→Q .normal a w) ∧
  ∀ i∈Region.ready md ops listed,wpOp P ops Q i (fun a' w'=>Shows S A B xa xb (listed.setIfInBounds i true) w'∧wpG P md ops Q S A B xa xb fuel (listed.setIfInBounds i true) a' w') a w
theorem wpAny_of_wpG:∀ (fuel:Nat) (listed:Array Bool) (a:Act) (w:World),wpG P md ops Q S A B xa xb fuel listed a w→wpAny P md ops Q fuel listed a w
 | 0,_,_,_,h=>h
 | fuel+1,_,_,_,h=>⟨h.1,fun i hi=>wpOp_mono (fun a' w' h'=>wpAny_of_wpG fuel _ a' w' h'.2) (h.2 i hi)⟩
theorem wpG_first {i:Nat} {oi:Oper} {v:Value} {C:World→Prop} {N:Array Bool→Prop} (hi:ops[i]? = some oi) (hsel:∀ (j:Nat) (o:Oper) cs b,ops[j]? = some o→o.op≠.select cs b)
  (hQ:∀ c a w,Q (.panic c) (a.put oi.dst v) w→Q (.panic c) a w) (hia:i≠xa) (hib:i≠xb)
  (hC:∀ (listed:Array Bool) (w:World),N listed→Shows S A B xa xb listed w→C w)
  (hN:∀ (listed:Array Bool) (j:Nat) (oj:Oper),N listed→ops[j]? = some oj→(∀ e∈oj.after,Region.binds md e=true→e.on≠i)→N (listed.setIfInBounds j true)) :
  ∀ (fuel:Nat) (listed:Array Bool) (a:Act) (w:World),
   (∀ j oj,ops[j]? = some oj→j≠i→listed.getD j true=false→(∀ e∈oj.after,Region.binds md e=true→e.on≠i)→oi.apart ops oj=true) →
   i∈Region.ready md ops listed→YieldsIf P ops C oi v a→N listed→Shows S A B xa xb listed w →
   wpG P md ops Q S A B xa xb fuel (listed.setIfInBounds i true) (a.put oi.dst v) w→wpG P md ops Q S A B xa xb (fuel+1) listed a w:=by
 intro fuel
 induction fuel with
 | zero =>
  intro listed a w _ hr hy hn hS H
  refine⟨fun h=>(by rw[h] at hr;cases hr),fun j hj => ?_⟩
  by_cases hji:j=i
  ·subst hji;exact hy.wpOp hi (hC _ _ hn hS) ⟨hS.more _,H⟩
  ·have:=ready_mono hj hji
   rw[H.1] at this
   cases this
 | succ fuel ih =>
  intro listed a w hfree hr hy hn hS H
  refine⟨fun h=>(by rw[h] at hr;cases hr),fun j hj => ?_⟩
  by_cases hji:j=i
  ·subst hji;exact hy.wpOp hi (hC _ _ hn hS) ⟨hS.more _,H⟩
  ·have h1:=H.2 j (ready_mono hj hji)
   obtain⟨hjun,oj,hoj,hall⟩:=mem_ready.1 hj
   have hnot:∀ e∈oj.after,Region.binds md e=true→e.on≠i:=fun e he hb heq=>by
    have h1:=hall e he hb
    have h0:=(mem_ready.1 hr).1
    rw[heq] at h1
    rcases Nat.lt_or_ge i listed.size with h' | h'
    ·simp[h'] at h0 h1;rw[h0] at h1;cases h1
    ·simp[Array.getElem?_eq_none h'] at h1
   have h2:=wpOp_putIf hoj (hfree j oj hoj hji hjun hnot) (fun cs b=>hsel i oi cs b hi) (fun cs b=>hsel j oj cs b hoj) hQ hy h1
   have hfree':∀ k ok,ops[k]? = some ok→k≠i→(listed.setIfInBounds j true).getD k true=false →
     (∀ e∈ok.after,Region.binds md e=true→e.on≠i)→oi.apart ops ok=true:=fun k ok hk hki hun hno=>by
    refine hfree k ok hk hki ?_ hno
    by_cases hjk:j=k
    ·subst hjk;exact hjun
    ·rw[getD_set_ne true hjk] at hun;exact hun
   refine wpOp_mono (fun a' w' h3 => ?_) h2
   obtain⟨h31,h32,h33⟩:=h3
   rw[Array.setIfInBounds_comm _ _ (Ne.symm hji)] at h32 h33
   have hb:Shows S A B xa xb (listed.setIfInBounds j true) w':=by
    refine⟨h32.1,fun h=>h32.2.1 ?_,fun h=>h32.2.2 ?_⟩
    ·rw[getD_set_ne true hia];exact h
    ·rw[getD_set_ne true hib];exact h
   exact⟨hb,ih (listed.setIfInBounds j true) a' w' hfree' (ready_mono hr (Ne.symm hji)) h31 (hN _ _ _ hn hoj hnot) hb h33⟩
theorem notF {b:Bool} {p:Prop} (h:b=true) (h':b=false):p:=by rw[h] at h';cases h'
def waitsB (md:Region.Mode) (ops:Array Oper) (x i:Nat):Bool:=match ops[x]? with
 | some o=>o.after.any fun e=>Region.binds md e&&e.on == i
 | none=>true
theorem waitsB_spec {i j x:Nat} {oj:Oper} (h:waitsB md ops x i=true) (hj:ops[j]? = some oj) (hno:∀ e∈oj.after,Region.binds md e=true→e.on≠i):j≠x:=by
 rintro rfl
 unfold waitsB at h
 rw[hj] at h
 obtain⟨e,he,hb⟩:=Array.any_eq_true'.1 h
 simp only[Bool.and_eq_true,beq_iff_eq] at hb
 exact hno e he hb.1 hb.2
theorem wpG_take {i:Nat} {oi:Oper} {v:Value} {fuel:Nat} {listed:Array Bool} {a:Act} {w:World} (hi:ops[i]? = some oi)
  (hs:Region.noSelect ops=true) (hf:Region.free md ops listed i=true) (hr:(Region.ready md ops listed).contains i=true) (hia:i≠xa) (hib:i≠xb)
  (hQ:∀ c a w,Q (.panic c) (a.put oi.dst v) w→Q (.panic c) a w) (hy:YieldsIf P ops S oi v a) (hS:Shows S A B xa xb listed w)
  (h:wpG P md ops Q S A B xa xb fuel (listed.setIfInBounds i true) (a.put oi.dst v) w):wpG P md ops Q S A B xa xb (fuel+1) listed a w:=
 wpG_first (C:=S) (N:=fun _=>True) hi (Region.noSelect_spec hs) hQ hia hib (fun _ _ _ h=>h.1) (fun _ _ _ _ _ _=>trivial) fuel listed a w (Region.free_spec hi hf) (by simpa using hr) hy trivial hS h
theorem wpG_takeA {i:Nat} {oi:Oper} {v:Value} {fuel:Nat} {listed:Array Bool} {a:Act} {w:World} (hi:ops[i]? = some oi)
  (hs:Region.noSelect ops=true) (hf:Region.free md ops listed i=true) (hr:(Region.ready md ops listed).contains i=true) (hia:i≠xa) (hib:i≠xb) (hw:waitsB md ops xa i=true) (hl:listed.getD xa true=false)
  (hQ:∀ c a w,Q (.panic c) (a.put oi.dst v) w→Q (.panic c) a w) (hy:YieldsIf P ops A oi v a) (hS:Shows S A B xa xb listed w)
  (h:wpG P md ops Q S A B xa xb fuel (listed.setIfInBounds i true) (a.put oi.dst v) w):wpG P md ops Q S A B xa xb (fuel+1) listed a w:=
 wpG_first (C:=A) (N:=fun l=>l.getD xa true=false) hi (Region.noSelect_spec hs) hQ hia hib (fun _ _ hn h=>h.2.1 hn) (fun _ _ _ hn hj hno=>by rw[getD_set_ne true (waitsB_spec hw hj hno)];exact hn) fuel listed a w (Region.free_spec hi hf) (by simpa using hr) hy hl hS h
theorem wpG_takeB {i:Nat} {oi:Oper} {v:Value} {fuel:Nat} {listed:Array Bool} {a:Act} {w:World} (hi:ops[i]? = some oi)
  (hs:Region.noSelect ops=true) (hf:Region.free md ops listed i=true) (hr:(Region.ready md ops listed).contains i=true) (hia:i≠xa) (hib:i≠xb) (hw:waitsB md ops xb i=true) (hl:listed.getD xb true=false)
  (hQ:∀ c a w,Q (.panic c) (a.put oi.dst v) w→Q (.panic c) a w) (hy:YieldsIf P ops B oi v a) (hS:Shows S A B xa xb listed w)
  (h:wpG P md ops Q S A B xa xb fuel (listed.setIfInBounds i true) (a.put oi.dst v) w):wpG P md ops Q S A B xa xb (fuel+1) listed a w:=
 wpG_first (C:=B) (N:=fun l=>l.getD xb true=false) hi (Region.noSelect_spec hs) hQ hia hib (fun _ _ hn h=>h.2.2 hn) (fun _ _ _ hn hj hno=>by rw[getD_set_ne true (waitsB_spec hw hj hno)];exact hn) fuel listed a w (Region.free_spec hi hf) (by simpa using hr) hy hl hS h
theorem wpG_step {i:Nat} {o:Oper} {fuel:Nat} {listed:Array Bool} {a:Act} {w:World} (hr:Region.ready md ops listed=[i]) (ho:ops[i]? = some o)
  (h:∀ K':Act→World→Prop,Shut (∀ a w,Shows S A B xa xb (listed.setIfInBounds i true) w→(Shows S A B xa xb (listed.setIfInBounds i true) w→wpG P md ops Q S A B xa xb fuel (listed.setIfInBounds i true) a w)→K' a w)→if Region.wanted o (yielded ops a.tmps)=true then Oper.wp P o a w K' Q else K' (a.put o.dst undef) w) :
  wpG P md ops Q S A B xa xb (fuel+1) listed a w:=by
 refine⟨fun h0=>(by rw[h0] at hr;cases hr),fun j hj => ?_⟩
 rw[hr] at hj
 obtain rfl:j=i:=by simpa using hj
 exact wpOp_step ho (fun K' hK=>h K' (fun a w hS hW=>hK a w ⟨hS,hW hS⟩))
theorem wpG_done {listed:Array Bool} {a:Act} {w:World} (hr:Region.ready md ops listed=[]) (h:Q .normal a w) :
  ∀ fuel,wpG P md ops Q S A B xa xb fuel listed a w
 | 0=>⟨hr,h⟩
 | _+1=>⟨fun _=>h,by rw[hr];simp⟩
theorem wpG_region {id:Nat} {a:Act} {w:World} (A B:World→Prop) (xa xb:Nat) (hm:P.follows .mixedOrders=true) (hS:S w.drew∧A w.drew∧B w.drew)
  (h:Shows S A B xa xb (Array.replicate ops.size false) w.drew→wpG P .any ops Q S A B xa xb ops.size (Array.replicate ops.size false) a w.drew):(Code.region id ops true).wp P Q a w:=
 wp_region_any hm (wpAny_of_wpG _ _ _ _ (h ⟨hS.1,fun _=>hS.2.1,fun _=>hS.2.2⟩))
end
section
variable {L:List (Nat × TypeId)} {w wc w':World} {b c d:Nat} {T U V:TypeId}
theorem EndSt.h1 (h:EndSt ((b,T)::L) w wc w') (u v:Value):EndSt ((b,T)::L) w wc ((w'.setCell ⟨b,0,none⟩ u).setCell ⟨b,1,none⟩ v):=h.st2 (T:=T) (.head _) u v
theorem EndSt.h2 (h:EndSt ((c,U)::(b,T)::L) w wc w') (u v:Value):EndSt ((c,U)::(b,T)::L) w wc ((w'.setCell ⟨b,0,none⟩ u).setCell ⟨b,1,none⟩ v):=h.st2 (T:=T) (.tail _ (.head _)) u v
theorem cell_st2' {n i:Nat} {x:Value} (h:w.cell? ⟨n,i,none⟩=some x) (hn:b≠n) (u v:Value):((w.setCell ⟨b,0,none⟩ u).setCell ⟨b,1,none⟩ v).cell? ⟨n,i,none⟩=some x:=cell_st2 h hn u v
end
end Go.Proofs.Ytdjbfgfbpimakaa
end

section
namespace Go.Proofs.Ytdjbfgfbpimakaa.Z4
open Go.RowKit
theorem p10_le4 {j:Nat} (h:j≤4):(10:Int)^j≤10000:=by
 have h1:(10:Nat)^j≤10^4:=Nat.pow_le_pow_right (by omega) h
 have e:(10:Int)^j=((10^j:Nat):Int):=by rw[Int.natCast_pow];rfl
 rw[e]
 simp only[Nat.reducePow] at h1
 omega
theorem read_chunk {A R n V p:Int} {k:Nat} (h:A=R*10^k+n) (hR:k≠4→R=0):A*p+V=R*(p*10000)+(V+n*p):=by
 by_cases e:k=4
 ·subst e
  rw[h];grind
 ·rw[hR e] at h ⊢
  rw[h];grind
set_option maxRecDepth 100000 in
set_option maxHeartbeats 1000000 in
theorem zread_any (t:List UInt8) (w:World) (hs:t.length≤4294967296) (hd:∀ j,j<(body t).length→48≤byt (body t) j∧byt (body t) j≤57) (hsm:Sm (numVal t)) :
  Calls Try.prog 76 #[.string (bs t)] w (RetZ w (numVal t)):=by
 obtain⟨q,hq⟩:∃ q,q=body t:=⟨_,rfl⟩
 have hql:q.length≤t.length:=by rw[hq,body_length];omega
 rw[←hq] at hd
 replace hd:=hd_ hd
 replace hsm:=hd_ hsm
 have HV:Hd (numVal t=sg (isNeg t) (readN q)):=hd_ (by rw[hq];rfl)
 cases hn:isNeg t
 ·rw[body_pos hn] at hq
  subst hq
  rw[hn] at HV
  by_cases hl:0<q.length
  ·have hb:=nNeg_byt hn hl
   clear hn
   go_enter Try.func76,Try.ntmps76
   go_wp2
   go_loopw [4,5] (fun ov i wr => ∃ (m:Nat) (iv:Int) (so:SV) (o:List Int),ov = .slice so.a so.len so.cap∧i = .int .i64 iv∧iv+4*m=q.length∧-4≤iv∧Rw wr (w.heap.size+1) .i64 so o∧o.length=m∧Dig o ∧
     readN q=readN (q.take iv.toNat)*10000^m+valL o∧Ext (w.alloc (Obj.cells #[Value.bool false,Value.slice none 0 0] 45)) wr) (fun _ i _=>(intOf i+4).toNat)
   case atStart=>exact⟨0,q.length,⟨none,0,0⟩,[],rfl,rfl,by omega,by omega,Rw.nil_ _ _ _,rfl,(fun x hx=>by cases hx),by simp[valL],(Ext.rf _)⟩
   case round =>
    obtain⟨m,iv,so,o,rfl,rfl,him,hiv,hown,hol,hdo,hval,hx⟩:=hrel
    have hsl:=hown.len
    obtain⟨oa,on,oc⟩:=so
    simp only at hsl
    subst hsl
    have holb:o.length≤q.length+4:=by omega
    replace hol:=hd_ hol
    replace hval:=hd_ hval
    replace him:=hd_ him
    by_cases hi:0<iv
    ·obtain⟨ii,rfl⟩:=Int.eq_ofNat_of_zero_le (Int.le_of_lt hi)
     have hii:0<ii:=by omega
     have hiq:ii≤q.length:=by have:=him.out;omega
     go_wp2
     go_loop [6,7] (fun n j => ∃ (nv jv:Int),n = .int .i64 nv∧j = .int .i64 jv∧(ii:Int)-4≤jv∧jv≤ii∧0≤nv∧nv<10^(jv.toNat-(ii-4))∧readN (q.take jv.toNat)=readN (q.take (ii-4))*10^(jv.toNat-(ii-4))+nv) (fun _ j=>(ii-intOf j).toNat)
     case atStart=>exact⟨0,(ii:Int)-4,rfl,rfl,by omega,by omega,by omega,by rw[show ((ii:Int)-4).toNat-(ii-4)=0 by omega];simp,by rw[show ((ii:Int)-4).toNat=ii-4 by omega];simp⟩
     case round =>
      obtain⟨nv,jv,rfl,rfl,hj1,hj2,hn1,hn2,hnv⟩:=hrel
      have hn9:=(p10_le (j:=jv.toNat-(ii-4)) (by omega)).2
      have hn9':nv<1000000000:=by omega
      replace hn2:=hd_ hn2
      replace hnv:=hd_ hnv
      clear hn9
      by_cases hj:jv<ii
      ·by_cases hj0:0≤jv
       ·obtain⟨jj,rfl⟩:=Int.eq_ofNat_of_zero_le hj0
        have hjq:jj<q.length:=by omega
        have hdj:=hd.out jj hjq
        go_wp2
        go_round
        case rel =>
         refine⟨_,(jj:Int)+1,rfl,by go_num,by omega,by omega,by omega,?_,?_⟩
         ·have h2:=hn2.out
          rw[show ((jj:Int)+1).toNat-(ii-4)=(jj-(ii-4))+1 by omega,Int.pow_succ]
          rw[show (jj:Int).toNat-(ii-4)=jj-(ii-4) by omega] at h2
          generalize (10:Int)^(jj-(ii-4))=p at *
          omega
         ·have h2:=hnv.out
          rw[show ((jj:Int)+1).toNat=jj+1 by omega,readN_take_succ hjq,show jj+1-(ii-4)=(jj-(ii-4))+1 by omega,Int.pow_succ]
          rw[show (jj:Int).toNat=jj by omega] at h2
          rw[h2]
          grind
        case measure=>first | (simp[intOf];done) | (simp[intOf];omega)
       ·have hz:Hd (jv.toNat-(ii-4)=(jv+1).toNat-(ii-4)∧jv.toNat=(jv+1).toNat):=hd_ (by omega)
        go_wp2
        go_round
        case rel=>exact⟨nv,jv+1,rfl,by go_num,by omega,by omega,hn1,by rw[←hz.out.1];exact hn2.out,by rw[←hz.out.1,←hz.out.2];exact hnv.out⟩
        case measure=>first | (simp[intOf];done) | (simp[intOf];omega)
      ·obtain rfl:jv=ii:=by omega
       have hn4:nv≤9999:=by
        have h1:=hn2.out
        have h2:=p10_le4 (j:=(ii:Int).toNat-(ii-4)) (by omega)
        omega
       go_wp2_with ((refine wpL_app1 _ rfl _ _ 43 rfl .i64 8 Try.underlying43 infoI64 (w.alloc (Obj.cells #[Value.bool false,Value.slice none 0 0] 45)) ⟨oa,o.length,oc⟩ o _ rfl rfl (by simpa using hown) hx (by omega) (by omega) ?_);intro s5 w5 hrw5 hx5 hk5;rw[World.size_alloc] at hrw5)
       go_roundw
       case rel =>
        refine⟨m+1,(ii:Int)-4,s5,o++[nv],rfl,rfl,by have:=him.out;omega,by omega,hrw5,by simp[hol.out],hdo.snoc (by omega),?_,hx5⟩
        have h1:=hval.out
        have h2:=hnv.out
        rw[valL_snoc,hol.out,Int.pow_succ,h1,show ((ii:Int)-4).toNat=ii-4 by omega]
        refine read_chunk h2 (fun hk => ?_)
        rw[show ii-4=0 by omega];rfl
       case measure=>first | (simp[intOf];done) | (simp[intOf];omega)
    ·have hv:Hd (valL o=readN q):=hd_ (by have:=hval.out;rw[show iv.toNat=0 by omega] at this;simp[readN] at this ⊢;omega)
     clear him
     go_wp2_with fail
     refine (made_any _ ⟨oa,o.length,oc⟩ o _ (hown.isL hdo.fit) hdo (by rw[hv.out,←HV.out];exact hsm.out)).mono ?_
     rintro e w2 ⟨y,rfl,hy,hx2⟩
     rw[hv.out,←HV.out] at hy
     have k0:w2.cell? ⟨w.heap.size,0,none⟩=some (Value.bool false):=cell_later hx2 (cell_later hx (by simp))
     have k1:w2.cell? ⟨w.heap.size,1,none⟩=some (Value.slice none 0 0):=cell_later hx2 (cell_later hx (by simp))
     have hsz:=hx.size
     have hsz2:=hx2.size
     simp only[World.size_alloc] at hsz
     have f0:∀ i,w2.frozen? ⟨w.heap.size,i,none⟩=false:=fun i=>(hx2.frozen (p:=⟨w.heap.size,i,none⟩) (by show w.heap.size<_;omega)).trans ((hx.frozen (p:=⟨w.heap.size,i,none⟩) (by simp)).trans (by simp))
     go_wp2
     refine bodyPost_ret (v:=.agg #[.bool y.n,.slice y.s.a y.s.len y.s.cap]) (by simp[results,Try.results76,go_sem,k0,k1]) rfl ⟨y,rfl,?_,?_⟩
     ·exact hy.kept ((Kept.rf _ _).st2 (T':=45) (((Ty.new' rfl).keep hx).keep hx2) (by decide) _ _)
     ·exact ((((Ext.rf w).al _).tr hx).tr hx2).st2 (Nat.le_refl _) _ _
  ·clear hn
   go_enter Try.func76,Try.ntmps76
   go_wp2
   go_loopw [4,5] (fun ov i wr => ∃ (m:Nat) (iv:Int) (so:SV) (o:List Int),ov = .slice so.a so.len so.cap∧i = .int .i64 iv∧iv=0∧Rw wr (w.heap.size+1) .i64 so o∧o.length=m∧Dig o ∧
     readN q=readN (q.take iv.toNat)*10000^m+valL o∧Ext (w.alloc (Obj.cells #[Value.bool false,Value.slice none 0 0] 45)) wr) (fun _ i _=>(intOf i+4).toNat)
   case atStart=>exact⟨0,q.length,⟨none,0,0⟩,[],rfl,rfl,by omega,Rw.nil_ _ _ _,rfl,(fun x hx=>by cases hx),by simp[valL],(Ext.rf _)⟩
   case round =>
    obtain⟨m,iv,so,o,rfl,rfl,hiv,hown,hol,hdo,hval,hx⟩:=hrel
    have hsl:=hown.len
    obtain⟨oa,on,oc⟩:=so
    simp only at hsl
    subst hsl
    replace hol:=hd_ hol
    replace hval:=hd_ hval
    have him:=hd_ hiv
    have hi:¬ 0<iv:=by omega
    clear hiv
    have hv:Hd (valL o=readN q):=hd_ (by have:=hval.out;rw[show iv.toNat=0 by omega] at this;simp[readN] at this ⊢;omega)
    clear him
    go_wp2_with fail
    refine (made_any _ ⟨oa,o.length,oc⟩ o _ (hown.isL hdo.fit) hdo (by rw[hv.out,←HV.out];exact hsm.out)).mono ?_
    rintro e w2 ⟨y,rfl,hy,hx2⟩
    rw[hv.out,←HV.out] at hy
    have k0:w2.cell? ⟨w.heap.size,0,none⟩=some (Value.bool false):=cell_later hx2 (cell_later hx (by simp))
    have k1:w2.cell? ⟨w.heap.size,1,none⟩=some (Value.slice none 0 0):=cell_later hx2 (cell_later hx (by simp))
    have hsz:=hx.size
    have hsz2:=hx2.size
    simp only[World.size_alloc] at hsz
    have f0:∀ i,w2.frozen? ⟨w.heap.size,i,none⟩=false:=fun i=>(hx2.frozen (p:=⟨w.heap.size,i,none⟩) (by show w.heap.size<_;omega)).trans ((hx.frozen (p:=⟨w.heap.size,i,none⟩) (by simp)).trans (by simp))
    go_wp2
    refine bodyPost_ret (v:=.agg #[.bool y.n,.slice y.s.a y.s.len y.s.cap]) (by simp[results,Try.results76,go_sem,k0,k1]) rfl ⟨y,rfl,?_,?_⟩
    ·exact hy.kept ((Kept.rf _ _).st2 (T':=45) (((Ty.new' rfl).keep hx).keep hx2) (by decide) _ _)
    ·exact ((((Ext.rf w).al _).tr hx).tr hx2).st2 (Nat.le_refl _) _ _
 ·obtain⟨hl,hb⟩:=isNeg_byt hn
  rw[body_neg hn] at hq
  have hql2:q.length+1=t.length:=by rw[hq];simp;omega
  have hqe:Hd (t.tail=q):=hd_ hq.symm
  have hlq:Hd (((t.length-1:Nat):Int)=q.length):=hd_ (by omega)
  clear hq
  rw[hn] at HV
  clear hn
  go_enter Try.func76,Try.ntmps76
  go_wp2
  rw[hqe.out,hlq.out]
  go_loopw [4,5] (fun ov i wr => ∃ (m:Nat) (iv:Int) (so:SV) (o:List Int),ov = .slice so.a so.len so.cap∧i = .int .i64 iv∧iv+4*m=q.length∧-4≤iv∧Rw wr (w.heap.size+1) .i64 so o∧o.length=m∧Dig o ∧
    readN q=readN (q.take iv.toNat)*10000^m+valL o∧Ext (w.alloc (Obj.cells #[Value.bool false,Value.slice none 0 0] 45)) wr) (fun _ i _=>(intOf i+4).toNat)
  case atStart=>exact⟨0,q.length,⟨none,0,0⟩,[],rfl,rfl,by omega,by omega,Rw.nil_ _ _ _,rfl,(fun x hx=>by cases hx),by simp[valL],(Ext.rf _)⟩
  case round =>
   obtain⟨m,iv,so,o,rfl,rfl,him,hiv,hown,hol,hdo,hval,hx⟩:=hrel
   have hsl:=hown.len
   obtain⟨oa,on,oc⟩:=so
   simp only at hsl
   subst hsl
   have holb:o.length≤q.length+4:=by omega
   replace hol:=hd_ hol
   replace hval:=hd_ hval
   replace him:=hd_ him
   by_cases hi:0<iv
   ·obtain⟨ii,rfl⟩:=Int.eq_ofNat_of_zero_le (Int.le_of_lt hi)
    have hii:0<ii:=by omega
    have hiq:ii≤q.length:=by have:=him.out;omega
    go_wp2
    go_loop [6,7] (fun n j => ∃ (nv jv:Int),n = .int .i64 nv∧j = .int .i64 jv∧(ii:Int)-4≤jv∧jv≤ii∧0≤nv∧nv<10^(jv.toNat-(ii-4))∧readN (q.take jv.toNat)=readN (q.take (ii-4))*10^(jv.toNat-(ii-4))+nv) (fun _ j=>(ii-intOf j).toNat)
    case atStart=>exact⟨0,(ii:Int)-4,rfl,rfl,by omega,by omega,by omega,by rw[show ((ii:Int)-4).toNat-(ii-4)=0 by omega];simp,by rw[show ((ii:Int)-4).toNat=ii-4 by omega];simp⟩
    case round =>
     obtain⟨nv,jv,rfl,rfl,hj1,hj2,hn1,hn2,hnv⟩:=hrel
     have hn9:=(p10_le (j:=jv.toNat-(ii-4)) (by omega)).2
     have hn9':nv<1000000000:=by omega
     replace hn2:=hd_ hn2
     replace hnv:=hd_ hnv
     clear hn9
     by_cases hj:jv<ii
     ·by_cases hj0:0≤jv
      ·obtain⟨jj,rfl⟩:=Int.eq_ofNat_of_zero_le hj0
       have hjq:jj<q.length:=by omega
       have hdj:=hd.out jj hjq
       go_wp2
       go_round
       case rel =>
        refine⟨_,(jj:Int)+1,rfl,by go_num,by omega,by omega,by omega,?_,?_⟩
        ·have h2:=hn2.out
         rw[show ((jj:Int)+1).toNat-(ii-4)=(jj-(ii-4))+1 by omega,Int.pow_succ]
         rw[show (jj:Int).toNat-(ii-4)=jj-(ii-4) by omega] at h2
         generalize (10:Int)^(jj-(ii-4))=p at *
         omega
        ·have h2:=hnv.out
         rw[show ((jj:Int)+1).toNat=jj+1 by omega,readN_take_succ hjq,show jj+1-(ii-4)=(jj-(ii-4))+1 by omega,Int.pow_succ]
         rw[show (jj:Int).toNat=jj by omega] at h2
         rw[h2]
         grind
       case measure=>first | (simp[intOf];done) | (simp[intOf];omega)
      ·have hz:Hd (jv.toNat-(ii-4)=(jv+1).toNat-(ii-4)∧jv.toNat=(jv+1).toNat):=hd_ (by omega)
       go_wp2
       go_round
       case rel=>exact⟨nv,jv+1,rfl,by go_num,by omega,by omega,hn1,by rw[←hz.out.1];exact hn2.out,by rw[←hz.out.1,←hz.out.2];exact hnv.out⟩
       case measure=>first | (simp[intOf];done) | (simp[intOf];omega)
     ·obtain rfl:jv=ii:=by omega
      have hn4:nv≤9999:=by
       have h1:=hn2.out
       have h2:=p10_le4 (j:=(ii:Int).toNat-(ii-4)) (by omega)
       omega
      go_wp2_with ((refine wpL_app1 _ rfl _ _ 43 rfl .i64 8 Try.underlying43 infoI64 (w.alloc (Obj.cells #[Value.bool false,Value.slice none 0 0] 45)) ⟨oa,o.length,oc⟩ o _ rfl rfl (by simpa using hown) hx (by omega) (by omega) ?_);intro s5 w5 hrw5 hx5 hk5;rw[World.size_alloc] at hrw5)
      go_roundw
      case rel =>
       refine⟨m+1,(ii:Int)-4,s5,o++[nv],rfl,rfl,by have:=him.out;omega,by omega,hrw5,by simp[hol.out],hdo.snoc (by omega),?_,hx5⟩
       have h1:=hval.out
       have h2:=hnv.out
       rw[valL_snoc,hol.out,Int.pow_succ,h1,show ((ii:Int)-4).toNat=ii-4 by omega]
       refine read_chunk h2 (fun hk => ?_)
       rw[show ii-4=0 by omega];rfl
      case measure=>first | (simp[intOf];done) | (simp[intOf];omega)
   ·have hv:Hd (valL o=readN q):=hd_ (by have:=hval.out;rw[show iv.toNat=0 by omega] at this;simp[readN] at this ⊢;omega)
    clear him
    go_wp2_with fail
    refine (made_any _ ⟨oa,o.length,oc⟩ o _ (hown.isL hdo.fit) hdo (by rw[hv.out,←HV.out];exact hsm.out)).mono ?_
    rintro e w2 ⟨y,rfl,hy,hx2⟩
    rw[hv.out,←HV.out] at hy
    have k0:w2.cell? ⟨w.heap.size,0,none⟩=some (Value.bool false):=cell_later hx2 (cell_later hx (by simp))
    have k1:w2.cell? ⟨w.heap.size,1,none⟩=some (Value.slice none 0 0):=cell_later hx2 (cell_later hx (by simp))
    have hsz:=hx.size
    have hsz2:=hx2.size
    simp only[World.size_alloc] at hsz
    have f0:∀ i,w2.frozen? ⟨w.heap.size,i,none⟩=false:=fun i=>(hx2.frozen (p:=⟨w.heap.size,i,none⟩) (by show w.heap.size<_;omega)).trans ((hx.frozen (p:=⟨w.heap.size,i,none⟩) (by simp)).trans (by simp))
    go_wp2
    refine bodyPost_ret (v:=.agg #[.bool y.n,.slice y.s.a y.s.len y.s.cap]) (by simp[results,Try.results76,go_sem,k0,k1]) rfl ⟨y,rfl,?_,?_⟩
    ·exact hy.kept ((Kept.rf _ _).st2 (T':=45) (((Ty.new' rfl).keep hx).keep hx2) (by decide) _ _)
    ·exact ((((Ext.rf w).al _).tr hx).tr hx2).st2 (Nat.le_refl _) _ _
end Go.Proofs.Ytdjbfgfbpimakaa.Z4
end

section
namespace Go.Proofs.Ytdjbfgfbpimakaa.Z4
open Go.RowKit
end Go.Proofs.Ytdjbfgfbpimakaa.Z4
end
