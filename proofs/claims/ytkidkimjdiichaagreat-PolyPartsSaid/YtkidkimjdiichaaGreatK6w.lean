/- NumReads: the walk. A call's variables, in no order of their blocks. Variables of four cells: fractions. NumLaws: the walk. The reference's ZAbs. Bezout: plain laws. A number written and read. -/
import Derived.Test.YtkidkimjdiichaaGreatK5w
import Derived.Test.YtkidkimjdiichaaGreatZGw
import Derived.Test.YtkidkimjdiichaaGreatLatew
import Derived.Test.YtkidkimjdiichaaGreatGcdw
import Derived.Test.YtkidkimjdiichaaGreatK2w
section
namespace Go.Proofs.YtkidkimjdiichaaGreat
open Go.RowKit
theorem parse_dec {t:List UInt8} (h:parseC t=0):dec (parseZ t)=t:=by
 unfold parseC at h
 split at h
 ·rename_i hok
  split at h
  ·rename_i hl
   unfold parseZ
   rw[if_pos hok,if_pos hl]
   exact dec_numVal hok
  ·omega
 ·omega
end Go.Proofs.YtkidkimjdiichaaGreat
end
section
namespace Go.Proofs.YtkidkimjdiichaaGreat
open Go.RowKit
def Vs (w wc:World) (L:List (Nat × TypeId × Array Value)):Prop:=
 Ext w wc∧(L.map (·.1)).Nodup∧∀ e∈L,w.heap.size≤e.1∧Box wc e.1 e.2.1 e.2.2
section
variable {w wc w':World} {L:List (Nat × TypeId × Array Value)} {n i k:Nat} {T:TypeId} {vs:Array Value}
theorem Vs.nil (w:World):Vs w w []:=⟨Ext.rf w,by simp,fun e he=>by cases he⟩
theorem Vs.ext (h:Vs w wc L):Ext w wc:=h.1
theorem Vs.keep (h:Vs w wc L) (e:Ext wc w'):Vs w w' L:=⟨h.1.tr e,h.2.1,fun x hx=>⟨(h.2.2 x hx).1,(h.2.2 x hx).2.keep e⟩⟩
theorem Vs.add (h:Vs w wc L) (vs:Array Value) (T:TypeId):Vs w (wc.alloc (.cells vs T)) ((wc.heap.size,T,vs)::L):=by
 refine⟨h.1.al _,?_,?_⟩
 ·rw[List.map_cons,List.nodup_cons]
  refine⟨fun hm => ?_,h.2.1⟩
  obtain⟨e,he,he1⟩:=List.mem_map.1 hm
  have:=(h.2.2 e he).2.lt
  omega
 ·intro e he
  rcases List.mem_cons.1 he with rfl | he
  ·exact⟨h.1.size,Box.new rfl⟩
  ·exact⟨(h.2.2 e he).1,(h.2.2 e he).2.al _⟩
theorem Vs.add' (h:Vs w wc L) {vs:Array Value} {T:TypeId} (hn:n=wc.heap.size):Vs w (wc.alloc (.cells vs T)) ((n,T,vs)::L):=by subst hn;exact h.add vs T
theorem Vs.box (h:Vs w wc L) (i:Nat) (hi:L[i]? = some (n,T,vs)):Box wc n T vs:=(h.2.2 _ (List.mem_of_getElem? hi)).2
theorem Vs.ge (h:Vs w wc L) (i:Nat) (hi:L[i]? = some (n,T,vs)):w.heap.size≤n:=(h.2.2 _ (List.mem_of_getElem? hi)).1
theorem Vs.lt (h:Vs w wc L) (i:Nat) (hi:L[i]? = some (n,T,vs)):n<wc.heap.size:=(h.box i hi).lt
theorem Vs.ne (h:Vs w wc L) (i j:Nat) {m:Nat} {U:TypeId} {us:Array Value} (hi:L[i]? = some (n,T,vs)) (hj:L[j]? = some (m,U,us)) (hij:i≠j):n≠m:=by
 rintro rfl
 have h1:(L.map (·.1))[i]? = some n:=by rw[List.getElem?_map,hi];rfl
 have h2:(L.map (·.1))[j]? = some n:=by rw[List.getElem?_map,hj];rfl
 exact hij ((List.getElem?_inj (List.getElem?_eq_some_iff.1 h1).1 h.2.1).1 (h1.trans h2.symm))
theorem Vs.set1 (h:Vs w wc L) (i:Nat) (hi:L[i]? = some (n,T,vs)) (k:Nat) (u:Value):Vs w (wc.setCell ⟨n,k,none⟩ u) (L.set i (n,T,vs.setIfInBounds k u)):=by
 refine⟨h.1.st (h.ge i hi) _,?_,?_⟩
 ·have:(L.set i (n,T,vs.setIfInBounds k u)).map (·.1)=L.map (·.1):=by
   rw[List.map_set]
   apply List.ext_getElem?
   intro j
   rw[List.getElem?_set]
   split
   ·rename_i e
    subst e
    have hl:=(List.getElem?_eq_some_iff.1 hi).1
    rw[if_pos (by simpa using hl),List.getElem?_map,hi]
    rfl
   ·rfl
  rw[this];exact h.2.1
 ·intro e he
  obtain⟨j,hj⟩:=List.mem_iff_getElem?.1 he
  by_cases hij:i=j
  ·subst hij
   have hl:=(List.getElem?_eq_some_iff.1 hi).1
   rw[List.getElem?_set_self hl] at hj
   injection hj with hj
   subst hj
   exact⟨h.ge i hi,(h.box i hi).set1 _ _⟩
  ·rw[List.getElem?_set_ne hij] at hj
   have hm:=h.2.2 e (List.mem_of_getElem? hj)
   exact⟨hm.1,hm.2.far (h.ne j i hj hi (fun e=>hij e.symm)) _⟩
theorem Vs.set2 (h:Vs w wc L) (i:Nat) {a b:Value} (hi:L[i]? = some (n,T,#[a,b])) (u v:Value):Vs w ((wc.setCell ⟨n,0,none⟩ u).setCell ⟨n,1,none⟩ v) (L.set i (n,T,#[u,v])):=by
 have h1:=h.set1 i hi 0 u
 have hl:=(List.getElem?_eq_some_iff.1 hi).1
 have h2:=h1.set1 i (n:=n) (T:=T) (vs:=#[u,b]) (by rw[List.getElem?_set_self hl];rfl) 1 v
 rw[List.set_set] at h2
 exact h2
theorem Vs.tl {e:Nat × TypeId × Array Value} (h:Vs w wc (e::L)):Vs w wc L:=⟨h.1,(by have:=h.2.1;rw[List.map_cons,List.nodup_cons] at this;exact this.2),fun x hx=>h.2.2 x (.tail _ hx)⟩
theorem Vs.facts (h:Vs w wc L) (i:Nat) {a b:Value} (hi:L[i]? = some (n,T,#[a,b])):wc.cell? ⟨n,0,none⟩=some a∧wc.cell? ⟨n,1,none⟩=some b∧wc.frozen? ⟨n,0,none⟩=false∧wc.frozen? ⟨n,1,none⟩=false:=(h.box i hi).facts
theorem Vs.kept2 (h:Vs w wc L) (i:Nat) {U:TypeId} (hi:L[i]? = some (n,T,vs)) (hT:U≠T) (u v:Value):Kept U wc ((wc.setCell ⟨n,0,none⟩ u).setCell ⟨n,1,none⟩ v):=(Kept.rf _ _).st2 (h.box i hi).ty hT u v
end
end Go.Proofs.YtkidkimjdiichaaGreat
end
section
namespace Go.Proofs.YtkidkimjdiichaaGreat
open Go.RowKit
section
variable {w wc w':World} {L:List (Nat × TypeId × Array Value)} {n i:Nat} {T:TypeId}
theorem Vs.set4 (h:Vs w wc L) (i:Nat) {a b c d:Value} (hi:L[i]? = some (n,T,#[a,b,c,d])) (p q r s:Value) :
  Vs w ((((wc.setCell ⟨n,0,none⟩ p).setCell ⟨n,1,none⟩ q).setCell ⟨n,2,none⟩ r).setCell ⟨n,3,none⟩ s) (L.set i (n,T,#[p,q,r,s])):=by
 have hl:=(List.getElem?_eq_some_iff.1 hi).1
 have h1:=h.set1 i hi 0 p
 have h2:=h1.set1 i (n:=n) (T:=T) (vs:=#[p,b,c,d]) (by rw[List.getElem?_set_self hl];rfl) 1 q
 rw[List.set_set] at h2
 have h3:=h2.set1 i (n:=n) (T:=T) (vs:=#[p,q,c,d]) (by rw[List.getElem?_set_self hl];rfl) 2 r
 rw[List.set_set] at h3
 have h4:=h3.set1 i (n:=n) (T:=T) (vs:=#[p,q,r,d]) (by rw[List.getElem?_set_self hl];rfl) 3 s
 rw[List.set_set] at h4
 exact h4
theorem Vs.facts4 (h:Vs w wc L) (i:Nat) {a b c d:Value} (hi:L[i]? = some (n,T,#[a,b,c,d])) :
  wc.cell? ⟨n,0,none⟩=some a∧wc.cell? ⟨n,1,none⟩=some b∧wc.cell? ⟨n,2,none⟩=some c∧wc.cell? ⟨n,3,none⟩=some d ∧
  wc.frozen? ⟨n,0,none⟩=false∧wc.frozen? ⟨n,1,none⟩=false∧wc.frozen? ⟨n,2,none⟩=false∧wc.frozen? ⟨n,3,none⟩=false:=
 have hb:=h.box i hi
 ⟨hb.cell 0 rfl,hb.cell 1 rfl,hb.cell 2 rfl,hb.cell 3 rfl,hb.frozen 0,hb.frozen 1,hb.frozen 2,hb.frozen 3⟩
theorem Vs.kept4 (h:Vs w wc L) (i:Nat) {U:TypeId} {vs:Array Value} (hi:L[i]? = some (n,T,vs)) (hT:U≠T) (p q r s:Value) :
  Kept U wc ((((wc.setCell ⟨n,0,none⟩ p).setCell ⟨n,1,none⟩ q).setCell ⟨n,2,none⟩ r).setCell ⟨n,3,none⟩ s):=
 (((((Kept.rf U wc).st (p:=⟨n,0,none⟩) (h.box i hi).ty hT p).st (p:=⟨n,1,none⟩) ((h.box i hi).ty.st _ _) hT q).st (p:=⟨n,2,none⟩) (((h.box i hi).ty.st _ _).st _ _) hT r).st (p:=⟨n,3,none⟩) ((((h.box i hi).ty.st _ _).st _ _).st _ _) hT s)
theorem Cs.st4 {w:World} {L:List (Nat × Nat × Value)} {n:Nat} (h:Cs w L) (hn:Off n L) (p q r s:Value) :
  Cs ((((w.setCell ⟨n,0,none⟩ p).setCell ⟨n,1,none⟩ q).setCell ⟨n,2,none⟩ r).setCell ⟨n,3,none⟩ s) L:=(((h.st1 hn p).st1 hn q).st1 hn r).st1 hn s
end
end Go.Proofs.YtkidkimjdiichaaGreat
end
section
namespace Go.Proofs.YtkidkimjdiichaaGreat
open Go.RowKit
theorem bt_gcd {a b:Int} {n:Nat} (ha:Bt a n) (hb:Bt b n):Bt (Int.gcd a b) n:=by
 by_cases h:a=0
 ·subst h
  rw[Int.gcd_zero_left]
  exact hb.le (by simp)
 ·have h1:Int.gcd a b≤a.natAbs:=Nat.le_of_dvd (by omega) (Nat.gcd_dvd_left _ _)
  exact ha.le (by simpa using h1)
theorem bt_ediv {a:Int} {n:Nat} (b:Int) (h:Bt a n):Bt (a / b) n:=h.le (Int.natAbs_ediv_le_natAbs a b)
theorem bt_emod {a b:Int} {n:Nat} (hb:b≠0) (h:Bt b n):Bt (a % b) n:=by
 have h1:=Int.emod_nonneg a hb
 have h2:=Int.emod_lt a hb
 exact h.le (by omega)
theorem dec_zero:dec 0=[48]:=by unfold dec decN;rw[if_neg (by omega)];rfl
end Go.Proofs.YtkidkimjdiichaaGreat
end
section
namespace Go.Proofs.YtkidkimjdiichaaGreat.Z4
open Go.RowKit
theorem isZ_nonneg {w:World} {x:IV} {z:Int} (h:IsZ w x z) (hz:0≤z):∃ l,IsL w x.s .i64 l∧Norm l∧Dig l∧valL l=z∧l.length≤676622540800:=by
 obtain⟨l,hl,hn,hd,hle,he,_,_⟩:=h.open_
 refine⟨l,hl,hn,hd,?_,hle⟩
 have:=valL_nonneg hd
 unfold sg at he
 split at he<;>omega
theorem isZ_size {w:World} {x:IV} {z:Int} (h:IsZ w x z):∃ l,IsL w x.s .i64 l∧Norm l∧Dig l∧valL l=z.natAbs∧l.length≤676622540800:=by
 obtain⟨l,hl,hn,hd,hle,he,_,_⟩:=h.open_
 refine⟨l,hl,hn,hd,?_,hle⟩
 have:=valL_nonneg hd
 rw[he,natAbs_sg]
 omega
theorem madeAbs_any (x:IV) (z:Int) (w:World) (h:IsZ w x z):Calls Tryz.prog 193 #[.bool false,.slice x.s.a x.s.len x.s.cap] w (RetZ w (z.natAbs:Int)):=by
 obtain⟨l,hl,hn,hd,hv,_⟩:=isZ_size h
 have h1:sg false (valL l)=(z.natAbs:Int):=hv
 have:=made_any false x.s l w hl hd (by rw[h1];obtain⟨_,_,_,_,_,_,h6⟩:=h;exact h6.le (by omega))
 rw[h1] at this
 exact this
end Go.Proofs.YtkidkimjdiichaaGreat.Z4
end
section
namespace Go.Proofs.YtkidkimjdiichaaGreat
end Go.Proofs.YtkidkimjdiichaaGreat
end
section
namespace Go.Proofs.YtkidkimjdiichaaGreat
theorem rdec_last {n:Nat} (h:0<n):∃ c t,(rdec n).reverse=c::t∧48<c.toNat∧c.toNat≤57:=by
 induction n using Nat.strongRecOn with
 | ind n ih =>
  rw[rdec_pos h]
  rcases Nat.eq_zero_or_pos (n / 10) with h1 | h1
  ·rw[h1,rdec_zero]
   refine⟨dch (n % 10),[],rfl,?_⟩
   rw[dch_toNat (by omega)]
   omega
  ·obtain⟨c,t,h2,h3⟩:=ih (n / 10) (by omega) h1
   exact⟨c,t++[dch (n % 10)],by rw[List.reverse_cons,h2];rfl,h3⟩
theorem decN_head {n:Nat}:∃ c t,decN n=c::t∧48≤c.toNat∧c.toNat≤57∧(c=48→n=0):=by
 unfold decN
 split
 ·rename_i h;exact⟨48,[],rfl,by decide,by decide,fun _=>h⟩
 ·rename_i h
  obtain⟨c,t,h1,h2,h3⟩:=rdec_last (n:=n) (by omega)
  refine⟨c,t,h1,by omega,h3,fun e => ?_⟩
  subst e
  simp at h2
theorem dec_parts (z:Int):isNeg (dec z)=decide (z<0)∧body (dec z)=decN z.natAbs:=by
 obtain⟨c,t,hc,h1,h2,_⟩:=decN_head (n:=z.natAbs)
 unfold dec
 by_cases hz:z<0
 ·rw[if_pos hz]
  have:isNeg (45::decN z.natAbs)=true:=by simp[isNeg]
  exact⟨by rw[this];simp[hz],by rw[body_neg this];rfl⟩
 ·rw[if_neg hz]
  have:isNeg (decN z.natAbs)=false:=by
   rw[hc]
   simp only[isNeg,List.head?_cons]
   rw[beq_eq_false_iff_ne]
   intro e
   injection e with e
   subst e
   simp at h1
  exact⟨by rw[this];simp[hz],by rw[body_pos this]⟩
end Go.Proofs.YtkidkimjdiichaaGreat
end
