/- Lemmas. -/
import Derived.Test.YtdchbabgopglcaaC14
import Derived.Test.YtdchbabgopglcaaC18
import Derived.Test.YtdchbabgopglcaaC27
import Derived.Test.YtdchbabgopglcaaC20
import Derived.Test.YtdchbabgopglcaaC26
set_option linter.defProp false
set_option linter.unusedSimpArgs false
set_option linter.unusedVariables false
namespace Go.Proofs.Ytdchbabgopglcaa
open Go.RowKit
theorem oC {t:List UInt8} (h:cA t=0):dec (parseZ t)=t:=by
 unfold cA at h;split at h
 ·rename_i hok;split at h
  ·rename_i hl;unfold parseZ;rw[if_pos hok,if_pos hl];exact Nz hok
  ·omega
 ·omega
end Go.Proofs.Ytdchbabgopglcaa
namespace Go.Proofs.Ytdchbabgopglcaa.M
open Go.RowKit
def digs (B n:Nat):List Int:=if h:n=0∨B<2 then [] else ((n % B:Nat):Int)::digs B (n / B)
termination_by n
decreasing_by exact Nat.div_lt_self (by omega) (by omega)
theorem jB {B:Nat} (hB:2≤B){v:List Int→Int} (v0:v []=0) (v1:∀x t,v (x::t)=x+B*v t):∀l:List Int,(∀x∈l,0≤x∧x<B)→(l=[]∨at_ l (l.length-1)≠0)→0≤v l∧(l≠[]→0<v l)∧digs B (v l).toNat=l
 |[],_,_=>by
  rw[v0];refine⟨by omega,fun h=>absurd rfl h,?_⟩;rw[digs];simp
 |x::t,hd,hn=>by
  have hx:=hd x (by simp);have ih:=jB hB v0 v1 t (fun y hy=>hd y (by simp[hy])) (by
   cases t with
   |nil=>exact .inl rfl
   |cons y t =>
    right
    rcases hn with h | h
    ·cases h
    ·simpa[at_] using h)
  obtain⟨i1,i2,i3⟩:=ih;rw[v1];have hp0:0≤(B:Int)*v t:=Int.mul_nonneg (by omega) i1;have hpos:0<x+B*v t:=by
   cases t with
   |nil =>
    rcases hn with h | h
    ·cases h
    ·simp[at_] at h;omega
   |cons y t =>
    have:=i2 (by simp);have:0<(B:Int)*v (y::t):=Int.mul_pos (by omega) this;omega
  refine⟨by omega,fun _=>hpos,?_⟩;have e:(x+B*v t).toNat=x.toNat+B*(v t).toNat:=by
   have:((x.toNat+B*(v t).toNat:Nat):Int)=x+B*v t:=by
    rw[Int.natCast_add,Int.natCast_mul,Int.toNat_of_nonneg hx.1,Int.toNat_of_nonneg i1]
   omega
  rw[digs,dif_neg (by omega),e];have h1:(x.toNat+B*(v t).toNat) % B=x.toNat:=by rw[Nat.add_mul_mod_self_left];exact Nat.mod_eq_of_lt (by omega)
  have h2:(x.toNat+B*(v t).toNat) / B=(v t).toNat:=by rw[Nat.add_mul_div_left _ _ (by omega),Nat.div_eq_of_lt (by omega)];omega
  rw[h1,h2,i3,Int.toNat_of_nonneg hx.1]
theorem jC {B:Nat} (hB:2≤B){v:List Int→Int} (v0:v []=0) (v1:∀x t,v (x::t)=x+B*v t) (n:Nat):(∀x∈digs B n,0≤x∧x<B)∧(digs B n=[]∨at_ (digs B n) ((digs B n).length-1)≠0)∧v (digs B n)=n:=by
 induction n using Nat.strongRecOn with
 |_ n ih =>
  by_cases hn:n=0
  ·subst hn;have e:digs B 0=[]:=by rw[digs];simp
   rw[e,v0];exact⟨by simp,.inl rfl,rfl⟩
  ·have hlt:=Nat.div_lt_self (n:=n) (k:=B) (by omega) (by omega);obtain⟨i1,i2,i3⟩:=ih _ hlt;have e:digs B n=((n % B:Nat):Int)::digs B (n / B):=by rw[digs,dif_neg (by omega)]
   have hm:=Nat.mod_lt n (show 0<B by omega);rw[e,v1,i3];refine⟨?_,.inr ?_,?_⟩
   ·intro x hx;rcases List.mem_cons.1 hx with rfl | hx
    ·exact⟨by omega,by omega⟩
    ·exact i1 x hx
   ·rcases i2 with h | h
    ·rw[h];simp only[at_,List.length_singleton,Nat.sub_self,List.getD_cons_zero];rw[h,v0] at i3;have hq:n / B=0:=by omega
     have:=Nat.div_add_mod n B;rw[hq] at this;omega
    ·have hne:digs B (n / B)≠[]:=by
      intro h0;rw[h0] at h;exact h rfl
     have:(((n % B:Nat):Int)::digs B (n / B)).length-1=(digs B (n / B)).length-1+1:=by
      have:=List.length_pos_iff.2 hne;simp only[List.length_cons];omega
     rw[this];exact h
   ·have:=Nat.div_add_mod n B;have h2:((n % B:Nat):Int)+(B:Int)*((n / B:Nat):Int)=((n % B+B*(n / B):Nat):Int):=by rw[Int.natCast_add,Int.natCast_mul]
    rw[h2];congr 1
    omega
def Av (A:List TypeId) (base:Nat→Prop) (w:World):Prop:=∀b,base b→∀c T fr,w.heap[b]? = some (.cells c T fr)→T ∉ A
abbrev NBs (base:Nat→Prop) (w:World):Nat→Prop:=fun b=>b<w.heap.size∧¬ base b
section
variable {P:Program}{A:List TypeId}{f:FuncId}{d d1 d2 d3:D}{w:World}{base:Nat→Prop}{N:Nat→Prop}{v:Value}
theorem lq (t:List UInt8):V w N (.string (bs t)) (.str t):=V.str (bs t)
theorem fP {t:List UInt8} (h:V w N v (.str t)):v = .string (bs t):=by
 generalize he:D.str t=e at h;cases h with
 |str s=>injection he with he;subst he;rfl
 |_=>cases he
theorem ls {k:IntKind}{n:Int} (h:V w N v (.int k n)):v = .int k n:=by
 generalize he:D.int k n=e at h;cases h with
 |int k n=>injection he with h1 h2;subst h1 h2;rfl
 |_=>cases he
theorem fQ {b:Bool} (h:V w N v (.bool b)):v = .bool b:=by
 generalize he:D.bool b=e at h;cases h with
 |bool b=>injection he with h1;subst h1;rfl
 |_=>cases he
theorem lw {k:IntKind}{s:SV}{l:List Int} (hA:ET k∈A) (hav:Av A base w) (h:IsL w s k l):V w (NBs base w) (.slice s.a s.len s.cap) (.list (ET k) 1 (l.map (D.int k))):=by
 obtain⟨ao,cap,rfl,h1,h2,h3⟩:=h.open_;by_cases hl:l=[]
 ·subst hl;exact .empty _ _ _ _ h2
 ·obtain⟨b,off,rfl,⟨c,fr,hb⟩,hc⟩:=h3 (List.length_pos_iff.2 hl);have hlt:b<w.heap.size:=Ty.lt ⟨c,fr,hb⟩;have hcell:∀j,j<l.length→c[off+j]? = some (.int k (at_ l j)):=fun j hj=>by
   have:=hc j hj;simp only[World.cell?,hb] at this;simpa using this
  have:=V.list (w:=w) (N:=NBs base w) b off cap (ET k) 1 (l.map (D.int k)) c fr (.of hb) ⟨hlt,fun hh=>hav b hh _ _ _ hb hA⟩ (by simpa using h1) h2 ?_ ?_ ?_
  ·rw[List.length_map] at this;exact this
  ·intro e he;obtain⟨x,hx,rfl⟩:=List.mem_map.1 he;exact⟨rfl,by simp[D.cells,D.one]⟩
  all_goals
   intro i e j q he hq;rw[List.getElem?_map,Option.map_eq_some_iff] at he;obtain⟨x,hx,rfl⟩:=he;obtain⟨hi,hx⟩:=List.getElem?_eq_some_iff.1 hx;have hci:=hcell i hi
   match j,hq with
   |0,hq =>
    simp only[D.cells,List.getElem?_cons_zero,Option.some.injEq] at hq;subst hq;simp only[Nat.mul_one,Nat.add_zero];first
     |(exact (Array.getElem?_eq_some_iff.1 hci).1)
     |(rw[Array.getD_eq_getD_getElem?,hci,eu hi,hx];exact .int k x)
   |j+1,hq=>simp[D.cells] at hq
theorem dR {k:IntKind}{l:List Int} (h:V w N v (.list (ET k) 1 (l.map (D.int k)))) (hf:∀x∈l,Fit k x):∃s:SV,v = .slice s.a s.len s.cap∧IsL w s k l:=by
 generalize he:D.list (ET k) 1 (l.map (D.int k))=e at h;cases h with
 |empty a cap T sz hc =>
  injection he with e1 e2 e3
  have:l=[]:=by simpa using e3
  subst this;exact⟨⟨a,0,cap⟩,rfl,⟨⟨rfl,Nat.zero_le _,hc,by simp⟩,by simp⟩⟩
 |list b o cap T sz m c fr hb hn h1 h2 h3 h4 h5 =>
  injection he with e1 e2 e3
  subst e1 e2 e3;obtain⟨T',hb,hT⟩:=hb;obtain rfl:T'=ET k:=hT.resolve_right (by cases k<;>decide);refine⟨⟨some ⟨b,o,none⟩,l.length,cap⟩,by simp,IsL.mk_ (by simpa using h1) h2 (fun _=>⟨b,o,rfl,⟨c,fr,hb⟩,fun j hj => ?_⟩) hf⟩;have hj':(l.map (D.int k))[j]? = some (.int k (at_ l j)):=by simp[at_,hj]
  have q1:=h4 j _ 0 _ hj' rfl;have q2:=h5 j _ 0 _ hj' rfl;simp only[Nat.mul_one,Nat.add_zero] at q1 q2;rw[dn hb q1,ls q2]
 |_=>cases he
theorem lA {v1 v2:Value} (h1:V w N v1 d1) (h2:V w N v2 d2) (o1:d1.one=true) (o2:d2.one=true):V w N (.agg #[v1,v2]) (.agg [d1,d2]):=by
 refine .agg _ _ rfl (by simp[o1,o2]) fun i e he => ?_
 match i,he with
 |0,he=>simp at he;subst he;exact h1
 |1,he=>simp at he;subst he;exact h2
 |i+2,he=>simp at he
theorem iu {v1 v2:Value} (h1:V w N v1 d1) (h2:V w N v2 d2):V w N (.tuple #[v1,v2]) (.tup [d1,d2]):=by
 refine .tup _ _ rfl fun i e he => ?_
 match i,he with
 |0,he=>simp at he;subst he;exact h1
 |1,he=>simp at he;subst he;exact h2
 |i+2,he=>simp at he
theorem o7 (h:V w N v (.agg [d1,d2])):∃v1 v2,v = .agg #[v1,v2]∧V w N v1 d1∧V w N v2 d2:=by
 generalize he:D.agg [d1,d2]=e at h;cases h with
 |agg cs l h1 h2 h3 =>
  injection he with he
  subst he;obtain⟨cs⟩:=cs
  match cs,h1 with
  |[x,y],h1=>exact⟨x,y,rfl,h3 0 _ rfl,h3 1 _ rfl⟩
  |[],h1 | [_],h1 | _::_::_::_,h1=>simp at h1
 |_=>cases he
theorem Av.later {w':World} (h:Av A base w) (hlow:∀b,base b→b<w.heap.size) (e:Ext w w'):Av A base w':=fun b hb c T fr hc=>h b hb c T fr (by rw[←e.block b (hlow b hb)];exact hc)
theorem eV (H:∀(base:Nat→Prop) w v1,Av A base w→V w (NBs base w) v1 d1→Calls P f #[v1] w fun e w' => ∃v,e = .returned v∧(∀base,Av A base w'→V w' (NBs base w') v d)∧Ext w w'):Con P A f [d1] d:=by
 intro base w vs hlow hav hsz hargs;have e:vs = #[vs.getD 0 undef]:=by
  obtain⟨vs⟩:=vs
  match vs,hsz with
  |[x],_=>rfl
  |[],h | _::_::_,h=>simp at h
 rw[e];refine (H base w _ hav (hargs 0 _ rfl)).mono ?_;rintro e w' ⟨v,rfl,hv,hext⟩;exact⟨v,rfl,hv base (Av.later hav hlow hext),hext⟩
theorem ey (H:∀(base:Nat→Prop) w v1 v2,Av A base w→V w (NBs base w) v1 d1→V w (NBs base w) v2 d2→Calls P f #[v1,v2] w fun e w' => ∃v,e = .returned v∧(∀base,Av A base w'→V w' (NBs base w') v d)∧Ext w w'):Con P A f [d1,d2] d:=by
 intro base w vs hlow hav hsz hargs;have e:vs = #[vs.getD 0 undef,vs.getD 1 undef]:=by
  obtain⟨vs⟩:=vs
  match vs,hsz with
  |[x,y],_=>rfl
  |[],h | [_],h | _::_::_::_,h=>simp at h
 rw[e];refine (H base w _ _ hav (hargs 0 _ rfl) (hargs 1 _ rfl)).mono ?_;rintro e w' ⟨v,rfl,hv,hext⟩;exact⟨v,rfl,hv base (Av.later hav hlow hext),hext⟩
theorem FC (H:∀(base:Nat→Prop) w v1 v2 v3,Av A base w→V w (NBs base w) v1 d1→V w (NBs base w) v2 d2→V w (NBs base w) v3 d3→Calls P f #[v1,v2,v3] w fun e w' => ∃v,e = .returned v∧(∀base,Av A base w'→V w' (NBs base w') v d)∧Ext w w'):Con P A f [d1,d2,d3] d:=by
 intro base w vs hlow hav hsz hargs;have e:vs = #[vs.getD 0 undef,vs.getD 1 undef,vs.getD 2 undef]:=by
  obtain⟨vs⟩:=vs
  match vs,hsz with
  |[x,y,z],_=>rfl
  |[],h | [_],h | [_,_],h | _::_::_::_::_,h=>simp at h
 rw[e];refine (H base w _ _ _ hav (hargs 0 _ rfl) (hargs 1 _ rfl) (hargs 2 _ rfl)).mono ?_;rintro e w' ⟨v,rfl,hv,hext⟩;exact⟨v,rfl,hv base (Av.later hav hlow hext),hext⟩
def AN:List TypeId:=[100,3]
def aT (z:Int):D:=.agg [.bool (decide (z<0)),.list 100 1 ((digs 4294967296 z.natAbs).map (D.int .u32))]
def aF (z:Int):D:=.agg [.bool (decide (z<0)),.list 3 1 ((digs 10000 z.natAbs).map (D.int .i64))]
def cT (a b:Int):D:=.agg [.bool (decide (a<0)),.list 100 1 ((digs 4294967296 a.natAbs).map (D.int .u32)),.bool (decide (b-1<0)),.list 100 1 ((digs 4294967296 (b-1).natAbs).map (D.int .u32))]
def cB (a b:Int):D:=.agg [.bool (decide (a<0)),.list 3 1 ((digs 10000 a.natAbs).map (D.int .i64)),.bool (decide (b<0)),.list 3 1 ((digs 10000 b.natAbs).map (D.int .i64))]
theorem FE {x:IV}{z:Int} (h:IsI w x z):∃l,IsL w x.s .u32 l∧digs 4294967296 z.natAbs=l∧x.n=decide (z<0):=by
 obtain⟨l,h1,h2,h3,h4,h5⟩:=h;obtain⟨g1,g2,g3⟩:=jB (B:=4294967296) (by omega) (v:=valL) rfl (fun _ _=>rfl) l (fun x hx=>by have:=h1.2 x hx;simp only[Fit] at this;omega) h2;refine⟨l,h1,?_,?_⟩
 ·rw[←g3];congr 1
  rw[h3];unfold sg;split<;>omega
 ·cases hn:x.n
  ·rw[hn] at h3;have:¬ z<0:=by rw[h3];simp[sg];omega
   simp[this]
  ·have hl:l≠[]:=fun e=>by have:=h4 e;rw[hn] at this;cases this
   have:=g2 hl;have:z<0:=by rw[h3,hn];simp[sg];omega
   simp[this]
theorem FF {x:IV}{z:Int} (h:Z4.IsZ w x z):∃l,IsL w x.s .i64 l∧digs 10000 z.natAbs=l∧x.n=decide (z<0):=by
 obtain⟨l,h1,hd,h2,h3,h4,h5⟩:=h;obtain⟨g1,g2,g3⟩:=jB (B:=10000) (by omega) (v:=Z4.valL) rfl (fun _ _=>rfl) l (fun x hx=>by have:=hd x hx;omega) h2;refine⟨l,h1,?_,?_⟩
 ·rw[←g3];congr 1
  rw[h3];unfold sg;split<;>omega
 ·cases hn:x.n
  ·rw[hn] at h3;have:¬ z<0:=by rw[h3];simp[sg];omega
   simp[this]
  ·have hl:l≠[]:=fun e=>by have:=h4 e;rw[hn] at this;cases this
   have:=g2 hl;have:z<0:=by rw[h3,hn];simp[sg];omega
   simp[this]
theorem o8 {x:IV}{z:Int} (h:IsI w x z) (hav:Av AN base w):V w (NBs base w) (.bool x.n) (.bool (decide (z<0)))∧V w (NBs base w) (.slice x.s.a x.s.len x.s.cap) (.list 100 1 ((digs 4294967296 z.natAbs).map (D.int .u32))):=by
 obtain⟨l,h1,h2,h3⟩:=FE h;rw[h2,h3];exact⟨.bool _,lw (k:=.u32) (by simp[AN,ET]) hav h1⟩
theorem o9 {x:IV}{z:Int} (h:Z4.IsZ w x z) (hav:Av AN base w):V w (NBs base w) (.bool x.n) (.bool (decide (z<0)))∧V w (NBs base w) (.slice x.s.a x.s.len x.s.cap) (.list 3 1 ((digs 10000 z.natAbs).map (D.int .i64))):=by
 obtain⟨l,h1,h2,h3⟩:=FF h;rw[h2,h3];exact⟨.bool _,lw (k:=.i64) (by simp[AN,ET]) hav h1⟩
theorem gC {x:IV}{z:Int} (h:IsI w x z) (hav:Av AN base w):V w (NBs base w) (.agg #[.bool x.n,.slice x.s.a x.s.len x.s.cap]) (aT z):=lA (o8 h hav).1 (o8 h hav).2 rfl rfl
theorem FG {x:IV}{z:Int} (h:Z4.IsZ w x z) (hav:Av AN base w):V w (NBs base w) (.agg #[.bool x.n,.slice x.s.a x.s.len x.s.cap]) (aF z):=lA (o9 h hav).1 (o9 h hav).2 rfl rfl
theorem pa (z:Int):z=sg (decide (z<0)) (z.natAbs:Int):=by
 unfold sg;by_cases h:z<0
 ·rw[if_pos (by simpa using h)];omega
 ·rw[if_neg (by simpa using h)];omega
theorem FH {z:Int}{v1 v2:Value} (h1:V w N v1 (.bool (decide (z<0)))) (h2:V w N v2 (.list 100 1 ((digs 4294967296 z.natAbs).map (D.int .u32)))) (hs:Sm z):∃x:IV,v1 = .bool x.n∧v2 = .slice x.s.a x.s.len x.s.cap∧IsI w x z:=by
 obtain⟨g1,g2,g3⟩:=jC (B:=4294967296) (by omega) (v:=valL) rfl (fun _ _=>rfl) z.natAbs;obtain⟨s,rfl,hl⟩:=dR (k:=.u32) h2 (fun x hx=>by have:=g1 x hx;simp only[Fit];omega);refine⟨⟨decide (z<0),s⟩,fQ h1,rfl,_,hl,g2,?_,fun e => ?_,hs⟩
 ·rw[g3];exact pa z
 ·rw[e] at g3;have:(0:Int)=(z.natAbs:Int):=g3;have:¬ z<0:=by omega
  simp[this]
theorem FI {z:Int}{v1 v2:Value} (h1:V w N v1 (.bool (decide (z<0)))) (h2:V w N v2 (.list 3 1 ((digs 10000 z.natAbs).map (D.int .i64)))) (hs:Sm z):∃x:IV,v1 = .bool x.n∧v2 = .slice x.s.a x.s.len x.s.cap∧Z4.IsZ w x z:=by
 obtain⟨g1,g2,g3⟩:=jC (B:=10000) (by omega) (v:=Z4.valL) rfl (fun _ _=>rfl) z.natAbs;obtain⟨s,rfl,hl⟩:=dR (k:=.i64) h2 (fun x hx=>by have:=g1 x hx;simp only[Fit];omega);refine⟨⟨decide (z<0),s⟩,fQ h1,rfl,_,hl,fun x hx=>by have:=g1 x hx;omega,g2,?_,fun e => ?_,hs⟩
 ·rw[g3];exact pa z
 ·rw[e] at g3;have:(0:Int)=(z.natAbs:Int):=g3;have:¬ z<0:=by omega
  simp[this]
theorem fR {z:Int} (h:V w N v (aT z)) (hs:Sm z):∃x:IV,v = .agg #[.bool x.n,.slice x.s.a x.s.len x.s.cap]∧IsI w x z:=by
 obtain⟨v1,v2,rfl,h1,h2⟩:=o7 h;obtain⟨x,rfl,rfl,hx⟩:=FH h1 h2 hs;exact⟨x,rfl,hx⟩
theorem FJ {z:Int} (h:V w N v (aF z)) (hs:Sm z):∃x:IV,v = .agg #[.bool x.n,.slice x.s.a x.s.len x.s.cap]∧Z4.IsZ w x z:=by
 obtain⟨v1,v2,rfl,h1,h2⟩:=o7 h;obtain⟨x,rfl,rfl,hx⟩:=FI h1 h2 hs;exact⟨x,rfl,hx⟩
def flt (c p:Int):D:=.agg [.int .i64 c,.int .i64 p]
theorem FK (c p:Int):V w N (.agg #[.int .i64 c,.int .i64 p]) (flt c p):=lA (.int _ _) (.int _ _) rfl rfl
end
end Go.Proofs.Ytdchbabgopglcaa.M
namespace Go.Proofs.Ytdchbabgopglcaa
open Go.RowKit
theorem gu {a:Int}{n:Nat} (b:Int) (h:Bt a n):Bt (a / b) n:=h.le (Int.natAbs_ediv_le_natAbs a b)
theorem BI:dec 0=[48]:=by unfold dec cr;rw[if_neg (by omega)];rfl
end Go.Proofs.Ytdchbabgopglcaa
namespace Go.Proofs.Ytdchbabgopglcaa.M
open Go.RowKit
abbrev J (n:Int):D:=.int .i64 n
abbrev At:=List UInt8×List Int
def atD (U:Nat) (t:At):D:=.agg [.str t.1,.list U 1 (t.2.map (D.int .i64))]
abbrev LTa (T U:Nat) (l:List At):D:=.list T 2 (l.map (atD U))
set_option maxRecDepth 20000
set_option maxHeartbeats 2000000
def csB:=an @AV.mk.eq_1 (an @dV.eq_1 (an @dV.eq_2 (an @AV.pure.eq_1 (an @AV.pure.eq_2 (an @AV.pure.eq_3 (an @AV.pure.eq_4 (an @cZ.eq_1 (an @cZ.eq_2 (an @AV.get.eq_1 (an @AV.part.eq_1 (an @AV.part.eq_2 (an @D.part.eq_1 (an @eW.eq_1 (an @Nat.mul_one (an @and_false (an @false_and (an @Nat.zero_add (@List.length_map.{0,0}))))))))))))))))))
abbrev LJ (l:List Int):D:=.list 3 1 (l.map (D.int .i64))
theorem Rj {l m:List Int} (h:l.length=m.length) (k:∀j,at_ l j=at_ m j):l=m:=gS h k
theorem at_take (l:List Int) (k j:Nat):at_ (l.take k) j=if j<k then at_ l j else 0:=by
 unfold at_;rw[List.getD_eq_getElem?_getD,List.getElem?_take];split
 ·rw[List.getD_eq_getElem?_getD]
 ·rfl
theorem atJ {l:List Int}{i:Nat} (h:i<l.length):(l.map (D.int .i64)).getD i default = .int .i64 (at_ l i):=by simp[at_,h]
def zd (z:Int):List Int:=digs 10000 z.natAbs
theorem cI (z:Int):Z4.Dig (zd z)∧Z4.Norm (zd z)∧Z4.valL (zd z)=z.natAbs:=by
 obtain⟨g1,g2,g3⟩:=jC (B:=10000) (by omega) (v:=Z4.valL) rfl (fun _ _=>rfl) z.natAbs;exact⟨fun x hx=>by have:=g1 x hx;omega,g2,g3⟩
theorem Rk {l:List Int} (hd:Z4.Dig l) (hn:Z4.Norm l){z:Int} (h:Z4.valL l=z.natAbs):l=zd z:=by
 obtain⟨g1,g2,g3⟩:=jB (B:=10000) (by omega) (v:=Z4.valL) rfl (fun _ _=>rfl) l (fun x hx=>by have:=hd x hx;omega) hn;unfold zd;rw[←g3,h];rfl
theorem Rl {neg:Bool}{l:List Int} (hd:Z4.Dig l) (hn:Z4.Norm l) (h0:l=[]→neg=false):D.agg [.bool neg,LJ l]=aF (sg neg (Z4.valL l)):=by
 have hv:=Z4.valL_nonneg hd;have e1:l=zd (sg neg (Z4.valL l)):=Rk hd hn (by rw[fx];omega);have e2:neg=decide (sg neg (Z4.valL l)<0):=by
  have:=Z4.neg_iff (n:=neg) hd hn h0;cases neg
  ·exact (decide_eq_false (fun h=>by have:=this.1 h;cases this)).symm
  ·exact (decide_eq_true (this.2 rfl)).symm
 unfold aF;rw[←e2];exact congrArg (fun q=>D.agg [.bool neg,LJ q]) e1
theorem aX (z:Int):aF z = .agg [.bool (decide (z<0)),LJ (zd z)]:=rfl
theorem fi {z:Int}:zd z=[]↔z=0:=by
 obtain⟨h1,h2,h3⟩:=cI z;rw[←Z4.valL_eq_zero h1 h2,h3];omega
theorem bV {z:Int}{n:Nat} (h:Bt z n):13*(zd z).length≤n+13:=by
 obtain⟨h1,h2,h3⟩:=cI z;refine Z4.len_of_bt h1 h2 ?_;rw[h3];unfold Bt at *;omega
theorem du (neg:Bool) (l:List Int) (hd:Z4.Dig l) (hl:l.length≤9223372036854775807):Con Try.prog [] 54 [.bool neg,LJ l] (aF (sg neg (Z4.valL l))):=by
 refine s7.con rfl (by simp) ?_;(repeat first|simp only[kV,simprocAttr,csB,aw]|refine aN ?_);refine kp [0,1,4] ?_;(repeat first|simp only[kV,simprocAttr,csB,aw]|refine aN ?_);refine kp [0,1,4,5] ?_;(repeat first|simp only[kV,simprocAttr,csB,aw]|refine aN ?_);refine aY (ι:=Nat) (fun n=>n≤l.length∧∀j,n≤j→at_ l j=0) (fun n=>⟨av [(0,.p (.bool neg)),(1,.p (LJ l)),(4,.ptr 4 0 0),(5,.p (.int .i64 n))],az [(4,⟨68,2,.box (.p (.agg [.bool false,LJ []])),false⟩)]⟩) (fun n=>n) l.length ⟨Nat.le_refl _,fun j hj=>a8 hj⟩ (Sub.toG [0,1,4,5] []) ?_;rintro n ⟨hn,h0⟩;cases n with
 |zero =>
  have hI:¬ (0:Int)<0:=by decide
  have hv:Z4.valL l=0:=Z4.valL_zero fun j=>h0 j (by omega)
  have he:D.agg [.bool false,LJ []]=aF (sg neg (Z4.valL l)):=by rw[hv,show sg neg 0=0 by unfold sg;split<;>rfl,aX,fi.2 rfl];rfl
  (repeat first|with_reducible refine kp [0,1,4,5,17] ?_|simp only[kV,simprocAttr,csB,hI]|refine aN ?_);refine ulk ?_;(repeat first|with_reducible refine kp [0,1,4,5,21] ?_|simp only[kV,simprocAttr,csB,hI]|refine aN ?_);refine ulk ?_;(repeat first|with_reducible refine kp [4] ?_|simp only[kV,simprocAttr,csB,ac,af,ae,ah,hI]|refine aN ?_);exact he
 |succ n =>
  have e0:((n+1:Nat):Int)=(n:Int)+1:=rfl;have hp:(0:Int)<(n:Int)+1:=by omega
  have hp2:(0:Int)≤(n:Int):=by omega
  have e1:(n:Int)+1-1=(n:Int):=by omega
  have hI:(n:Int)<(l.length:Int):=by omega
  have hlt:n<l.length:=by omega
  have g1:=atJ hlt;rw[e0];by_cases hz:at_ l n=0
  ·-- slow
   (repeat first|with_reducible refine kp [0,1,4,5,17] ?_|simp only[kV,simprocAttr,csB,hp,e1,hI,g1,hlt,hz,hp2]|refine aN ?_);refine ulk ?_;(repeat first|with_reducible refine kp [0,1,4,5] ?_|simp only[kV,simprocAttr,csB,e1]|refine aN ?_);exact⟨n,⟨by omega,fun j hj=>by
    by_cases hj2:n+1≤j
    ·exact h0 j hj2
    ·obtain rfl:j=n:=by omega
     exact hz⟩,(Sub.toG [0,1,4,5] []),by omega⟩
  ·have hd2:Z4.Dig (l.take (n+1)):=fun x hx=>hd x (List.mem_of_mem_take hx)
   have hn2:Z4.Norm (l.take (n+1)):=.inr (by
    rw[List.length_take,Nat.min_eq_left hn,Nat.add_sub_cancel,at_take,if_pos (by omega)];exact hz)
   have hv:Z4.valL (l.take (n+1))=Z4.valL l:=Z4.valL_take h0;have he:D.agg [.bool neg,LJ (l.take (n+1))]=aF (sg neg (Z4.valL l)):=by
    rw[←hv];exact Rl hd2 hn2 fun h=>by have:=congrArg List.length h;rw[List.length_take,Nat.min_eq_left hn] at this;simp at this
   have e2:((n:Int)+1).toNat=n+1:=by omega
   have e3:¬ (n:Int)+1=0:=by omega
   have e4:(n:Int)+1≤(l.length:Int):=by omega
   have e5:List.take (n+1) (l.map (D.int .i64))=(l.take (n+1)).map (D.int .i64):=List.map_take.symm;(repeat first|with_reducible refine kp [0,1,4,5,17] ?_|simp only[kV,simprocAttr,csB,hp,e1,hI,g1,hlt,hz,hp2]|refine aN ?_);refine ulk ?_;(repeat first|with_reducible refine kp [0,1,4,5,21] ?_|simp only[kV,simprocAttr,csB,e1]|refine aN ?_);(try simp only[kV,simprocAttr,csB,e2,e3,e4,e5,hp,List.drop_zero,Nat.sub_zero]);refine ulk ?_;(repeat first|with_reducible refine kp [0,1,4,5] ?_|simp only[kV,simprocAttr,csB,ac,af,ae,ah,e2,e3,e4,e5,hp,List.drop_zero,Nat.sub_zero]|refine aN ?_);exact he
theorem Rm (z:Int):(aF z).cells.length=2:=rfl
theorem Rn (z:Int):((aF z).cells.map AV.p).all AV.one=true:=rfl
theorem Ro (z:Int):(aF z).isAgg=true:=rfl
def csC:=an @Rm (an @Rn (an @Ro csB))
abbrev zl (z:Int):D:=LJ (zd z)
theorem fp {z:Int} (h:z≠0):0<(zd z).length:=List.length_pos_iff.2 fun e=>h (fi.1 e)
theorem Rq (z:Int):Con Try.prog [] 87 [aF z] (.int .i64 (bR z)):=by
 rw[aX];by_cases h0:z=0
 ·have hd:=fi.2 h0;have hs:bR z=0:=by unfold bR;rw[if_neg (by omega),if_pos h0]
  rw[hd,hs];refine kC.con rfl (by simp) ?_;(repeat first|with_reducible refine kp [1,6] ?_|simp only[kV,simprocAttr,csB,csC,bh]|refine aN ?_);refine ulk ?_;(repeat first|with_reducible refine kp [2] ?_|simp only[kV,simprocAttr,csB,csC,ac,af,ae,ah]|refine aN ?_)
 ·have hl:=fp h0;have hI:¬ ((zd z).length:Int)=0:=by omega
  by_cases hn:z<0
  ·have hs:bR z = -1:=by unfold bR;rw[if_pos hn]
   rw[hs];refine kC.con rfl (by simp) ?_;(repeat first|with_reducible refine kp [1,6] ?_|simp only[kV,simprocAttr,csB,csC,bh,hI,hn]|refine aN ?_);refine ulk ?_;(repeat first|with_reducible refine kp [1,8] ?_|simp only[kV,simprocAttr,csB,csC,hn]|refine aN ?_);refine ulk ?_;(repeat first|with_reducible refine kp [2] ?_|simp only[kV,simprocAttr,csB,csC,ac,af,ae,ah]|refine aN ?_)
  ·have hs:bR z=1:=by unfold bR;rw[if_neg hn,if_neg h0]
   rw[hs];refine kC.con rfl (by simp) ?_;(repeat first|with_reducible refine kp [1,6] ?_|simp only[kV,simprocAttr,csB,csC,bh,hI,hn]|refine aN ?_);refine ulk ?_;(repeat first|with_reducible refine kp [1,8] ?_|simp only[kV,simprocAttr,csB,csC,hn]|refine aN ?_);refine ulk ?_;(repeat first|with_reducible refine kp [2] ?_|simp only[kV,simprocAttr,csB,csC,ac,af,ae,ah,hn]|refine aN ?_)
theorem mq (z:Int) (hl:(zd z).length≤9223372036854775807):Con Try.prog [] 67 [aF z] (aF (-z)):=by
 obtain⟨h1,h2,h3⟩:=cI z;have hc:=du (!decide (z<0)) (zd z) h1 hl;have e:sg (!decide (z<0)) (Z4.valL (zd z)) = -z:=by
  rw[h3];by_cases h:z<0
  ·rw[decide_eq_true h];show (z.natAbs:Int) = -z;omega
  ·rw[decide_eq_false h];show -(z.natAbs:Int) = -z;omega
 rw[e] at hc;rw[aX];refine tK.con rfl (by simp) ?_;(repeat first|with_reducible refine kp [1,2] ?_|simp only[kV,simprocAttr,csB,csC,bh]|refine aN ?_);refine⟨_,cx (hc),ulc ?_⟩;(repeat first|with_reducible refine kp [2] ?_|simp only[kV,simprocAttr,csB,csC,ac,af,ae,ah]|refine aN ?_)
theorem qS (a b:List Int) (ha:Z4.Dig a) (hb:Z4.Dig b) (na:Z4.Norm a) (nb:Z4.Norm b) (hla:a.length≤9223372036854775807) (hlb:b.length≤9223372036854775807):Con Try.prog [] 78 [LJ a,LJ b] (.int .i64 (cmpZ (Z4.valL a) (Z4.valL b))):=by
 by_cases hl:a.length=b.length
 ·have hlI:(a.length:Int)=(b.length:Int):=by omega
  refine kD.con rfl (by simp) ?_;(repeat first|with_reducible refine kp [0,1,10] ?_|simp only[kV,simprocAttr,csB,csC,aw,hlI]|refine aN ?_);refine ulk ?_;(repeat first|simp only[kV,simprocAttr,csB,csC,hlI]|refine aN ?_);refine kp [0,1] ?_;(repeat first|simp only[kV,simprocAttr,csB,csC,hlI]|refine aN ?_);refine kp [0,1,5] ?_;(repeat first|simp only[kV,simprocAttr,csB,csC,hlI]|refine aN ?_);refine aY (ι:=Nat) (fun i=>i≤a.length∧∀j,i≤j→at_ a j=at_ b j) (fun i=>⟨av [(0,.p (LJ a)),(1,.p (LJ b)),(5,.p (.int .i64 ((i:Int)-1)))],az []⟩) (fun i=>i) a.length ⟨Nat.le_refl _,fun j hj=>by rw[a8 hj,a8 (by omega)]⟩ (by rw[hlI];exact (Sub.toG [0,1,5] [])) ?_;rintro i ⟨hi,he⟩;cases i with
  |zero =>
   have hI:decide ((0:Int)≤0-1)=false:=by decide
   have hv:cmpZ (Z4.valL a) (Z4.valL b)=0:=gT (by rw[Rj hl fun j=>he j (by omega)]);rw[hv];(repeat first|with_reducible refine kp [0,1,5,20] ?_|simp only[kV,simprocAttr,csB,csC,hI]|refine aN ?_);refine ulk ?_;(repeat first|with_reducible refine kp [4] ?_|simp only[kV,simprocAttr,csB,csC,ac,af,ae,ah,hI]|refine aN ?_)
  |succ i =>
   have e0:((i+1:Nat):Int)-1=(i:Int):=by omega
   have e1:(0:Int)≤(i:Int):=by omega
   have h:i<a.length:=by omega
   have hb':i<b.length:=by omega
   have hI:(i:Int)<(a.length:Int):=by omega
   have hI2:(i:Int)<(b.length:Int):=by omega
   have g1:=atJ h;have g2:=atJ hb';rw[e0];by_cases c1:at_ a i<at_ b i
   ·have hv:=ei (Z4.valL_lt_of_at ha hb hl h (fun j hj=>he j (by omega)) c1);rw[hv];(repeat first|with_reducible refine kp [0,1,5,20] ?_|simp only[kV,simprocAttr,csB,csC,e1]|refine aN ?_);(try simp only[kV,simprocAttr,csB,csC,hI,hI2,g1,g2,h,hb',c1]);refine ulk ?_;(repeat first|with_reducible refine kp [0,1,5,31] ?_|simp only[kV,simprocAttr,csB,csC,hI,hI2,g1,g2,h,hb',c1]|refine aN ?_);refine ulk ?_;(repeat first|with_reducible refine kp [4] ?_|simp only[kV,simprocAttr,csB,csC,ac,af,ae,ah]|refine aN ?_)
   ·by_cases c2:at_ b i<at_ a i
    ·have hv:=fq (Z4.valL_lt_of_at hb ha hl.symm hb' (fun j hj=>(he j (by omega)).symm) c2);rw[hv];(repeat first|with_reducible refine kp [0,1,5,20] ?_|simp only[kV,simprocAttr,csB,csC,e1]|refine aN ?_);(try simp only[kV,simprocAttr,csB,csC,hI,hI2,g1,g2,h,hb',c1,c2]);refine ulk ?_;(repeat first|with_reducible refine kp [0,1,5,31] ?_|simp only[kV,simprocAttr,csB,csC,hI,hI2,g1,g2,h,hb',c1,c2]|refine aN ?_);refine ulk ?_;(repeat first|with_reducible refine kp [0,1,5,40] ?_|simp only[kV,simprocAttr,csB,csC,hI,hI2,g1,g2,h,hb',c1,c2]|refine aN ?_);refine ulk ?_;(repeat first|with_reducible refine kp [4] ?_|simp only[kV,simprocAttr,csB,csC,ac,af,ae,ah]|refine aN ?_)
    ·-- skip
     (repeat first|with_reducible refine kp [0,1,5,20] ?_|simp only[kV,simprocAttr,csB,csC,e1]|refine aN ?_);(try simp only[kV,simprocAttr,csB,csC,hI,hI2,g1,g2,h,hb',c1,c2]);refine ulk ?_;(repeat first|with_reducible refine kp [0,1,5,31] ?_|simp only[kV,simprocAttr,csB,csC,hI,hI2,g1,g2,h,hb',c1,c2]|refine aN ?_);refine ulk ?_;(repeat first|with_reducible refine kp [0,1,5,40] ?_|simp only[kV,simprocAttr,csB,csC,hI,hI2,g1,g2,h,hb',c1,c2]|refine aN ?_);refine ulk ?_;(repeat first|with_reducible refine kp [0,1,5] ?_|simp only[kV,simprocAttr,csB,csC]|refine aN ?_);exact⟨i,⟨by omega,fun j hj=>by
      by_cases hj2:i+1≤j
      ·exact he j hj2
      ·obtain rfl:j=i:=by omega
       omega⟩,(Sub.toG [0,1,5] []),by omega⟩
 ·have hlI:¬ (a.length:Int)=(b.length:Int):=by omega
  by_cases hlt:a.length<b.length
  ·have hltI:(a.length:Int)<(b.length:Int):=by omega
   have hv:=ei (Z4.valL_lt_of_len ha hb nb hlt);rw[hv];refine kD.con rfl (by simp) ?_;(repeat first|with_reducible refine kp [0,1,10] ?_|simp only[kV,simprocAttr,csB,csC,aw,hlI]|refine aN ?_);(try simp only[kV,simprocAttr,csB,csC,hltI]);refine ulk ?_;(repeat first|with_reducible refine kp [15] ?_|simp only[kV,simprocAttr,csB,csC,hltI]|refine aN ?_);refine ulk ?_;(repeat first|with_reducible refine kp [4] ?_|simp only[kV,simprocAttr,csB,csC,ac,af,ae,ah]|refine aN ?_)
  ·have hltI:¬ (a.length:Int)<(b.length:Int):=by omega
   have hv:=fq (Z4.valL_lt_of_len hb ha na (by omega));rw[hv];refine kD.con rfl (by simp) ?_;(repeat first|with_reducible refine kp [0,1,10] ?_|simp only[kV,simprocAttr,csB,csC,aw,hlI]|refine aN ?_);(try simp only[kV,simprocAttr,csB,csC,hltI]);refine ulk ?_;(repeat first|with_reducible refine kp [15] ?_|simp only[kV,simprocAttr,csB,csC,hltI]|refine aN ?_);refine ulk ?_;(repeat first|with_reducible refine kp [4] ?_|simp only[kV,simprocAttr,csB,csC,ac,af,ae,ah,hltI]|refine aN ?_)
end Go.Proofs.Ytdchbabgopglcaa.M
namespace Go.Proofs.Ytdchbabgopglcaa
theorem Tf {n:Nat} (h:0<n):∃c t,(aW n).reverse=c::t∧48<c.toNat∧c.toNat≤57:=by
 induction n using Nat.strongRecOn with
 |ind n ih =>
  rw[bJ h];rcases Nat.eq_zero_or_pos (n / 10) with h1 | h1
  ·rw[h1,bX];refine⟨dch (n % 10),[],rfl,?_⟩;rw[d4 (by omega)];omega
  ·obtain⟨c,t,h2,h3⟩:=ih (n / 10) (by omega) h1;exact⟨c,t++[dch (n % 10)],by rw[List.reverse_cons,h2];rfl,h3⟩
theorem Tg {n:Nat}:∃c t,cr n=c::t∧48≤c.toNat∧c.toNat≤57∧(c=48→n=0):=by
 unfold cr;split
 ·rename_i h;exact⟨48,[],rfl,by decide,by decide,fun _=>h⟩
 ·rename_i h;obtain⟨c,t,h1,h2,h3⟩:=Tf (n:=n) (by omega);refine⟨c,t,h1,by omega,h3,fun e => ?_⟩;subst e;simp at h2
theorem Th (z:Int):aH (dec z)=decide (z<0)∧body (dec z)=cr z.natAbs:=by
 obtain⟨c,t,hc,h1,h2,_⟩:=Tg (n:=z.natAbs);unfold dec;by_cases hz:z<0
 ·rw[if_pos hz];have:aH (45::cr z.natAbs)=true:=by simp[aH]
  exact⟨by rw[this];simp[hz],by rw[iX this];rfl⟩
 ·rw[if_neg hz];have:aH (cr z.natAbs)=false:=by
   rw[hc];simp only[aH,List.head?_cons];rw[beq_eq_false_iff_ne];intro e;injection e with e
   subst e;simp at h1
  exact⟨by rw[this];simp[hz],by rw[gV this]⟩
def frN (a b:Int):Int:=if b / (Int.gcd a b:Int)<0 then -(a / (Int.gcd a b:Int)) else a / (Int.gcd a b:Int)
def frD (a b:Int):Int:=if b / (Int.gcd a b:Int)<0 then -(b / (Int.gcd a b:Int)) else b / (Int.gcd a b:Int)
theorem qx {a b:Int} (h:b≠0):(Int.gcd a b:Int)≠0:=by
 intro e;have:Int.gcd a b=0:=by omega
 exact h (Int.gcd_eq_zero_iff.1 this).2
theorem iN {a b:Int}{n:Nat} (h:Bt a n):Bt (frN a b) n:=by
 unfold frN;split
 ·exact (gu _ h).neg
 ·exact gu _ h
theorem iO {a b:Int}{n:Nat} (h:Bt b n):Bt (frD a b) n:=by
 unfold frD;split
 ·exact (gu _ h).neg
 ·exact gu _ h
theorem qy {z:Int}:bR z<0↔z<0:=by unfold bR;(repeat' split)<;>omega
theorem qz {b:Int}{n:Nat} (h:Bt b n):Bt (b-1) (n+1):=by
 unfold Bt at *;have:=Nat.pow_pos (n:=n) (show 0<2 by omega);rw[Nat.pow_succ];omega
theorem Qu {z:Int}:bR z=0↔z=0:=by unfold bR;(repeat' split)<;>omega
end Go.Proofs.Ytdchbabgopglcaa
namespace Go.Proofs.Ytdchbabgopglcaa.M
open Go.RowKit
inductive Fm where
 |mk (kd:Int) (p:List At) (rel v k:Int) (gs:List Fm)
def Fm.kd:Fm→Int | .mk a _ _ _ _ _=>a
def Fm.p:Fm→List At | .mk _ a _ _ _ _=>a
def Fm.rel:Fm→Int | .mk _ _ a _ _ _=>a
def Fm.v:Fm→Int | .mk _ _ _ a _ _=>a
def Fm.k:Fm→Int | .mk _ _ _ _ a _=>a
def Fm.gs:Fm→List Fm | .mk _ _ _ _ _ a=>a
theorem Fm.ind {P:Fm→Prop} (h:∀kd p rel v k gs,(∀a∈gs,P a)→P (.mk kd p rel v k gs)) (f:Fm):P f:=
 Fm.rec (motive_1:=P) (motive_2:=fun l => ∀a∈l,P a) (fun kd p rel v k gs ih=>h _ _ _ _ _ _ ih) (fun a ha=>absurd ha List.not_mem_nil) (fun b l hb hl a ha=>(List.mem_cons.1 ha).elim (fun e=>e ▸ hb) (hl a)) f
mutual
def fmD (T U X:Nat):Fm→D
 |.mk kd p rel v k gs => .agg [J kd,LTa T U p,J rel,J v,J k,.list X 6 (bi T U X gs)]
def bi (T U X:Nat):List Fm→List D
 |[]=>[]
 |a::l=>fmD T U X a::bi T U X l
end
theorem eN (T U X:Nat):∀l,bi T U X l=l.map (fmD T U X)
 |[]=>by rw[bi];rfl
 |a::l=>by rw[bi,eN T U X l];rfl
def Qt (f:Fm):Prop:=f.kd=8∨f.kd=9
instance (f:Fm):Decidable (Qt f):=inferInstanceAs (Decidable (_∨_))
mutual
def nds:Fm→List Int→List (Fm×List Int)
 |.mk kd p rel v k gs,ab=>(.mk kd p rel v k gs,ab)::ndsL gs (if kd=8∨kd=9 then ab++[v] else ab)
def ndsL:List Fm→List Int→List (Fm×List Int)
 |[],_=>[]
 |a::l,ab=>nds a ab++ndsL l ab
end
theorem kI:∀(l m:List Fm) (ab:List Int),ndsL (l++m) ab=ndsL l ab++ndsL m ab
 |[],m,ab=>by rw[ndsL];rfl
 |a::l,m,ab=>by rw[List.cons_append,ndsL,ndsL,kI l m ab,List.append_assoc]
def mk1 (m:Nat) (v:Int):Nat:=if 0≤v∧v<4 then m ||| (1 <<< v.toNat) else m
def eO (m:Nat) (l:List Int):Nat:=l.foldl mk1 m
abbrev msk (l:List Int):Nat:=eO 0 l
theorem yD (m:Nat) (l:List Int) (v:Int):eO m (l++[v])=mk1 (eO m l) v:=by simp[eO]
theorem kJ (m:Nat) (v:Int) (j:Nat) (hj:j<4):(mk1 m v).testBit j=(m.testBit j||decide (v=(j:Int))):=by
 unfold mk1;split
 ·rw[Nat.testBit_or,Nat.one_shiftLeft,Nat.testBit_two_pow];congr 1
  exact decide_eq_decide.2 (by omega)
 ·rw[decide_eq_false (by omega),Bool.or_false]
theorem jh {m:Nat} (v:Int) (h:m<16):mk1 m v<16:=by
 unfold mk1;split
 ·refine Nat.or_lt_two_pow (n:=4) h ?_;rw[Nat.one_shiftLeft];exact Nat.pow_lt_pow_right (by omega) (by omega)
 ·exact h
theorem nu:∀(l:List Int){m:Nat},m<16→eO m l<16
 |[],m,h=>h
 |v::l,m,h=>nu l (jh v h)
theorem nw (j:Nat) (hj:j<4):∀(l:List Int) (m:Nat),(eO m l).testBit j=(m.testBit j||decide ((j:Int)∈l))
 |[],m=>by simp[eO]
 |v::l,m=>by
  show (eO (mk1 m v) l).testBit j=_
  rw[nw j hj l,kJ m v j hj,Bool.or_assoc];congr 1
  rw[←Bool.decide_or];exact decide_eq_decide.2 (by simp[List.mem_cons,eq_comm])
theorem yE (j:Nat) (hj:j<4) (l:List Int):(msk l).testBit j=decide ((j:Int)∈l):=by
 rw[nw j hj,Nat.zero_testBit,Bool.false_or]
theorem yF {m:Nat} (h:m<16):m≠0↔∃j,j<4∧m.testBit j=true:=by
 constructor
 ·intro h0;obtain⟨j,hj⟩:=Nat.exists_testBit_of_ne_zero h0;refine⟨j,?_,hj⟩;rcases Nat.lt_or_ge j 4 with h1 | h1
  ·exact h1
  ·have h2:m<2^j:=Nat.lt_of_lt_of_le h ((show 2^4≤2^j from Nat.pow_le_pow_right (by omega) h1));rw[Nat.testBit_lt_two_pow h2] at hj;cases hj
 ·rintro⟨j,-,hj⟩ rfl;rw[Nat.zero_testBit] at hj;cases hj
end Go.Proofs.Ytdchbabgopglcaa.M
