/- Lemmas. -/
import Derived.Test.YtbnhgnhgbhjkcaaGreatL18
import Derived.Test.YtbnhgnhgbhjkcaaGreatL19
import Derived.Test.YtbnhgnhgbhjkcaaGreatL8
namespace Go.Proofs.YtbnhgnhgbhjkcaaGreat
open Go.RowKit
set_option maxRecDepth 100000
set_option maxHeartbeats 1000000
structure Only (b:Nat) (w w':World):Prop where
 os:w'.os=w.os
 tape:w'.tape=w.tape
 output:w'.output=w.output
 size:w.heap.size≤w'.heap.size
 block:∀k,k≠b→k<w.heap.size→w'.heap[k]? = w.heap[k]?
theorem Only.rf (b:Nat) (w:World):Only b w w:=⟨rfl,rfl,rfl,Nat.le_refl _,fun _ _ _=>rfl⟩
theorem Only.st {b:Nat}{w w':World} (h:Only b w w') (i:Nat) (u:Value):Only b w (w'.setCell ⟨b,i,none⟩ u):=by
 refine⟨h.os,h.tape,h.output,?_,fun k hk hl=>(Below.heap_setCell w' _ u k hk).trans (h.block k hk hl)⟩;have:=h.size;simpa[World.setCell] using this
theorem Only.ext {b:Nat}{a w w':World} (h:Only b w w') (e:Ext a w) (hb:a.heap.size≤b):Ext a w':=
 ⟨h.os.trans e.os,h.tape.trans e.tape,h.output.trans e.output,Nat.le_trans e.size h.size,fun k hk=>(h.block k (by omega) (Nat.lt_of_lt_of_le hk e.size)).trans (e.block k hk)⟩
theorem Own.only {b c:Nat}{w w':World}{T:TypeId}{k:IntKind}{l:List Int} (h:Own w b T k l) (e:Only c w w') (hne:b≠c):Own w' b T k l:=(e.block b hne h.lt).trans h
theorem Vn {x:Int} (h:0≤x∧x≤18446744073709551615):bits BinOp.and IntKind.u64 x 4294967295=x % 4294967296:=by
 rw[u64_and _ _ (by omega) (by omega) (by omega) (by omega)];obtain⟨n,rfl⟩:=Int.eq_ofNat_of_zero_le h.1;have e:((n:Int).toNat &&& (4294967295:Int).toNat)=n % 4294967296:=Nat.and_two_pow_sub_one_eq_mod n 32;rw[e];omega
theorem Vo {u c b:Int} (hu:0≤u∧u≤4294967295) (hc:0≤c∧c≤18446744073709551615) (hb:0≤b∧b≤1) :
  IntKind.u64.wrap (IntKind.u64.wrap (u-bits BinOp.and IntKind.u64 c 4294967295)-b) % 4294967296=(u-c % 4294967296-b) % 4294967296 ∧
  IntKind.u64.wrap (IntKind.u64.wrap (u-bits BinOp.and IntKind.u64 c 4294967295)-b) / 9223372036854775808=bor u (c % 4294967296) b:=by
 rw[Vn hc];have h:0≤c % 4294967296∧c % 4294967296≤4294967295:=by omega
 generalize c % 4294967296=d at *;rw[IntKind.wrap_u64,IntKind.wrap_u64];unfold bor;split<;>omega
theorem sT {u d b:Int} (hu:0≤u∧u≤4294967295) (hd:0≤d∧d≤4294967295) (hb:0≤b∧b≤1):(u-d-b) % 4294967296=u-d-b+4294967296*bor u d b:=by
 unfold bor;split<;>omega
theorem Vp {V L0 u cc bb bo v g bj bk W d:Int} (h:V=L0+bj*(bk*(cc+bb)-g*W)) (hd:d=u-(cc+v*g) % 4294967296-bb+4294967296*bo) :
  V+(d-u)*(bj*bk)=L0+bj*(bk*4294967296*((cc+v*g) / 4294967296+bo)-g*(W+v*bk)):=by
 have h1:=Int.mul_ediv_add_emod (cc+v*g) 4294967296;generalize (cc+v*g) / 4294967296=q at *;generalize (cc+v*g) % 4294967296=s at *;subst h;subst hd;have e:s=cc+v*g-4294967296*q:=by omega
 subst e;grind
theorem Vq {V L0 u cc bb bo g bj bk W d:Int} (h:V=L0+bj*(bk*(cc+bb)-g*W)) (hd:d=u-cc-bb+4294967296*bo) :
  V+(d-u)*(bj*bk)=L0-bj*(g*W)+bj*(bk*4294967296)*bo:=by
 subst h;subst hd;grind
theorem Vr {u c b:Int} (hu:0≤u∧u≤4294967295) (hc:0≤c∧c≤4294967295) (hb:0≤b∧b≤1) :
  IntKind.u64.wrap (IntKind.u64.wrap (u-c)-b) % 4294967296=(u-c-b) % 4294967296 ∧
  IntKind.u64.wrap (IntKind.u64.wrap (u-c)-b) / 9223372036854775808=bor u c b:=by
 rw[IntKind.wrap_u64,IntKind.wrap_u64];unfold bor;split<;>omega
theorem Vs (u d b:Int):bor u d b=0∨bor u d b=1:=by unfold bor;split<;>simp
def Vt (w:World) (b j n:Nat) (L:List Int) (z top:Int) (e:Ending) (w':World):Prop:=
 ∃(L':List Int) (c:Int),e = .returned (.bool (decide (0<c)))∧(c=0∨c=1)∧Own w' b 173 .u32 L'∧L'.length=L.length∧Dig L'∧(∀i,j+n<i→at_ L' i=at_ L i)∧valL L'=z+top*c∧Only b w w'
theorem nQ (b j n bv cu cv:Nat) (L lv:List Int) (g:Int) (w:World) (hu:Own w b 173 .u32 L) (hdu:Dig L) (hj:j+n<L.length) (_hL:L.length≤1099511627776) (hcu:n+1≤cu)
  (hcm:cu≤9223372036854775807) (hv:Own w bv 173 .u32 lv) (hdv:Dig lv) (hn:n≤lv.length) (hne:bv≠b) (hg:0≤g∧g≤4294967295) :
  Calls Tryz.prog 143 #[.slice (some ⟨b,j,none⟩) (n+1) cu,.slice (some ⟨bv,0,none⟩) n cv,.int .u32 g] w
   (Vt w b j n L (valL L-4294967296^j*(g*valL (lv.take n))) (4294967296^j*4294967296^(n+1))):=by
 go_enter Tryz.func143,Tryz.ntmps143;go_wp2;go_loopw [7,8,15] (fun bo ca i wr => ∃(k:Nat) (bb cc:Int) (o:List Int),bo = .int .u64 bb∧ca = .int .u64 cc∧i = .int .i64 k∧k≤n∧(0≤bb∧bb≤1)∧(0≤cc∧cc≤4294967295)∧Own wr b 173 .u32 o∧o.length=L.length∧Dig o ∧
   valL o=valL L+4294967296^j*(4294967296^k*(cc+bb)-g*valL (lv.take k))∧(∀i,j+k≤i→at_ o i=at_ L i)∧Only b w wr) (fun _ _ i _=>n-(intOf i).toNat)
 case atStart=>exact⟨0,0,0,L,rfl,rfl,rfl,Nat.zero_le _,by omega,by omega,hu,rfl,hdu,by simp[valL],fun _ _=>rfl,Only.rf _ _⟩
 case round =>
  obtain⟨k,bb,cc,o,rfl,rfl,rfl,hk,hbb,hcc,hown,hol,hdo,hval,hsame,hx⟩:=hrel;replace hval:=hd_ hval;replace hol:=hd_ hol;replace hsame:=hd_ hsame;by_cases hlt:k<n
  ·have gv:=(hv.only hx hne).cell (i:=k) (by omega);have fv:=hdv.at_ k;have go:=hown.cell (i:=j+k) (by have:=hol.out;omega);have gf:=hown.frozen (j+k);have fo:=hdo.at_ (j+k);have fm:=mul_bound fv hg;go_wp2;have hcc2:0≤cc+at_ lv k*g∧cc+at_ lv k*g≤18446744069414584320:=by omega
   obtain⟨c1,c2⟩:=Vo (u:=at_ o (j+k)) (c:=cc+at_ lv k*g) (b:=bb) fo (by omega) hbb;have c3:=sT (u:=at_ o (j+k)) (d:=(cc+at_ lv k*g) % 4294967296) (b:=bb) fo (by omega) hbb;rw[c1,c2];go_roundw
   case rel =>
    refine⟨k+1,_,_,o.set (j+k) _,rfl,rfl,rfl,by omega,oI _ _ _,by omega,hown.set _ _,by rw[List.length_set];exact hol.out,hdo.set _ (by omega),?_,fun i hi => ?_,hx.st _ _⟩
    ·rw[valL_set_full (by have:=hol.out;omega),valL_take_succ,pow_add',Int.pow_succ];exact Vp hval.out c3
    ·rw[cF (by omega)];exact hsame.out i (by omega)
   case measure=>first | (simp[intOf];done) | (simp[intOf];omega)
  ·obtain rfl:k=n:=by omega
   have go:=hown.cell (i:=j+k) (by have:=hol.out;omega);have gf:=hown.frozen (j+k);have fo:=hdo.at_ (j+k);go_wp2;obtain⟨c1,c2⟩:=Vr (u:=at_ o (j+k)) (c:=cc) (b:=bb) fo hcc hbb;have c3:=sT (u:=at_ o (j+k)) (d:=cc) (b:=bb) fo hcc hbb;rw[c1,c2];go_ret;refine⟨o.set (j+k) _,bor (at_ o (j+k)) cc bb,rfl,Vs _ _ _,hown.set _ _,by rw[List.length_set];exact hol.out,hdo.set _ (by omega),fun i hi => ?_,?_,hx.st _ _⟩
   ·rw[cF (by omega)];exact hsame.out i (by omega)
   ·rw[valL_set_full (by have:=hol.out;omega),pow_add',Int.pow_succ];exact Vq hval.out c3
theorem Vu {V L0 u v c bj bk W d d':Int} (h:V=L0+bj*(W-bk*c)) (hd:d=(u+v+c) % 4294967296) (hd':d'=(u+v+c) / 4294967296) :
  V+(d-u)*(bj*bk)=L0+bj*(W+v*bk-bk*4294967296*d'):=by
 have h1:=Int.mul_ediv_add_emod (u+v+c) 4294967296;rw[←hd,←hd'] at h1;have e:d=u+v+c-4294967296*d':=by omega
 subst h;subst e;grind
theorem Vv {V L0 u c bj bk W d d':Int} (h:V=L0+bj*(W-bk*c)) (hd:d=(u+c) % 4294967296) (hd':d'=(u+c) / 4294967296) :
  V+(d-u)*(bj*bk)=L0+bj*W-bj*(bk*4294967296)*d':=by
 have h1:=Int.mul_ediv_add_emod (u+c) 4294967296;rw[←hd,←hd'] at h1;have e:d=u+c-4294967296*d':=by omega
 subst h;subst e;grind
def Vw (w:World) (b j n:Nat) (L:List Int) (z top:Int) (e:Ending) (w':World):Prop:=
 ∃(L':List Int) (c:Int),e = .returned (.tuple #[])∧(c=0∨c=1)∧Own w' b 173 .u32 L'∧L'.length=L.length∧Dig L'∧(∀i,j+n<i→at_ L' i=at_ L i)∧valL L'=z-top*c∧Only b w w'
theorem nR (b j n bv cu cv:Nat) (L lv:List Int) (w:World) (hu:Own w b 173 .u32 L) (hdu:Dig L) (hj:j+n<L.length) (_hL:L.length≤1099511627776) (hcu:n+1≤cu)
  (hcm:cu≤9223372036854775807) (hv:Own w bv 173 .u32 lv) (hdv:Dig lv) (hn:n≤lv.length) (hne:bv≠b) :
  Calls Tryz.prog 144 #[.slice (some ⟨b,j,none⟩) (n+1) cu,.slice (some ⟨bv,0,none⟩) n cv] w
   (Vw w b j n L (valL L+4294967296^j*valL (lv.take n)) (4294967296^j*4294967296^(n+1))):=by
 go_enter Tryz.func144,Tryz.ntmps144;go_wp2;go_loopw [4,9] (fun ca i wr => ∃(k:Nat) (cc:Int) (o:List Int),ca = .int .u32 cc∧i = .int .i64 k∧k≤n∧(0≤cc∧cc≤1)∧Own wr b 173 .u32 o∧o.length=L.length∧Dig o ∧
   valL o=valL L+4294967296^j*(valL (lv.take k)-4294967296^k*cc)∧(∀i,j+k≤i→at_ o i=at_ L i)∧Only b w wr) (fun _ i _=>n-(intOf i).toNat)
 case atStart=>exact⟨0,0,L,rfl,rfl,Nat.zero_le _,by omega,hu,rfl,hdu,by simp[valL],fun _ _=>rfl,Only.rf _ _⟩
 case round =>
  obtain⟨k,cc,o,rfl,rfl,hk,hcc,hown,hol,hdo,hval,hsame,hx⟩:=hrel;replace hval:=hd_ hval;replace hol:=hd_ hol;replace hsame:=hd_ hsame;by_cases hlt:k<n
  ·have gv:=(hv.only hx hne).cell (i:=k) (by omega);have fv:=hdv.at_ k;have go:=hown.cell (i:=j+k) (by have:=hol.out;omega);have gf:=hown.frozen (j+k);have fo:=hdo.at_ (j+k);go_wp2_with (go_at_call 150;refine (jn _ _ _ _ fo fv hcc).mono ?_;rintro e w' ⟨rfl,rfl⟩);go_roundw
   case rel =>
    refine⟨k+1,_,o.set (j+k) _,rfl,rfl,by omega,by omega,hown.set _ _,by rw[List.length_set];exact hol.out,hdo.set _ (by omega),?_,fun i hi => ?_,hx.st _ _⟩
    ·rw[valL_set_full (by have:=hol.out;omega),valL_take_succ,pow_add',Int.pow_succ];exact Vu hval.out rfl rfl
    ·rw[cF (by omega)];exact hsame.out i (by omega)
   case measure=>first | (simp[intOf];done) | (simp[intOf];omega)
  ·obtain rfl:k=n:=by omega
   have go:=hown.cell (i:=j+k) (by have:=hol.out;omega);have gf:=hown.frozen (j+k);have fo:=hdo.at_ (j+k);go_wp2;go_end0;refine⟨o.set (j+k) _,(at_ o (j+k)+cc) / 4294967296,rfl,by omega,hown.set _ _,by rw[List.length_set];exact hol.out,hdo.set _ (by omega),fun i hi => ?_,?_,hx.st _ _⟩
   ·rw[cF (by omega)];exact hsame.out i (by omega)
   ·rw[valL_set_full (by have:=hol.out;omega),pow_add',Int.pow_succ,Int.mul_assoc];have:=Vv (d:=(at_ o (j+k)+cc) % 4294967296) hval.out rfl rfl;rw[Int.mul_assoc] at this;exact this
end Go.Proofs.YtbnhgnhgbhjkcaaGreat
namespace Go.Proofs.YtbnhgnhgbhjkcaaGreat.M
open Go.RowKit
def gE (ops:Array Oper) (x y:Nat):Bool:=match ops[x]? with
 |some o=>o.after.all fun e => !Region.binds .any e||e.on != y
 |none=>true
def io (am:List Nat) (x y:Nat):Bool:=(am.getD y 0).testBit x
def km (ops:Array Oper) (am:List Nat) (ap:List (Nat×Nat)):List (Nat×COp)→Bool
 |[]=>true
 |x::l=>gE ops x.1 x.1&&l.all (fun y=>gE ops x.1 y.1&&x.1 != y.1&&(io am x.1 y.1||ig ap x.2 y.2))&&km ops am ap l
def ko (ops:Array Oper) (am:List Nat) (n:Nat):Bool:=(List.range n).all fun i=>match ops[i]? with
 |some o=>o.after.all (fun e => !Region.binds .any e||decide (e.on<n))&&(List.range n).all fun j => !io am j i||o.after.any fun e=>Region.binds .any e&&(e.on == j||io am j e.on)
 |none=>true
def qv (ops:Array Oper) (am:List Nat) (ap:List (Nat×Nat)) (l:List (Nat×COp)):Bool:=
 l.length == ops.size&&(List.range ops.size).all (fun i=>(l.map (·.1)).contains i)&&l.all (fun x=>decide (x.1<ops.size)&&eA ap x.2)&&ko ops am ops.size&&km ops am ap l
section
variable {C:Ctx}{s:St}{a:Act}{w:World}{ops:Array Oper}{Q:Exit→Act→World→Prop}{K:St→Prop}{am:List Nat}{ap:List (Nat×Nat)}
def Rp (ops:Array Oper) (am:List Nat) (ap:List (Nat×Nat)) (x y:Nat×COp):Prop:=gE ops x.1 y.1=true∧x.1≠y.1∧(io am x.1 y.1=true∨ig ap x.2 y.2=true)
theorem qw:∀{l:List (Nat×COp)},km ops am ap l=true→l.Pairwise (Rp ops am ap)∧∀x∈l,gE ops x.1 x.1=true
 |[],_=>⟨.nil,by simp⟩
 |x::l,h=>by
  simp only[km,Bool.and_eq_true,List.all_eq_true,Bool.or_eq_true,bne_iff_ne,ne_eq] at h;obtain⟨⟨h1,h2⟩,h3⟩:=h;obtain⟨g1,g2⟩:=qw h3;refine⟨.cons (fun y hy=>⟨(h2 y hy).1.1,(h2 y hy).1.2,(h2 y hy).2⟩) g1,fun y hy => ?_⟩;rcases List.mem_cons.1 hy with rfl | hy
  ·exact h1
  ·exact g2 y hy
theorem qx {x y:Nat}{o:Oper} (ho:ops[x]? = some o) (h:gE ops x y=true):∀e∈o.after,Region.binds .any e=true→e.on≠y:=by
 intro e he hb heq;simp only[gE,ho,Array.all_eq_true_iff_forall_mem,Bool.or_eq_true,Bool.not_eq_true',bne_iff_ne,ne_eq] at h;rcases h e he with h | h
 ·rw[hb] at h;cases h
 ·exact h heq
theorem yW {al:Nat→Prop} (hC:C.Ok) (hanc:ko ops am ops.size=true) (hQ:∀t a' w',Is C t a' w'→K t→Q .normal a' w') :
  ∀(n:Nat) (l:List (Nat×COp)) (listed:Array Bool) (s:St) (a:Act) (w:World),l.length=n→listed.size=ops.size →
   (∀i,i<ops.size→(listed.getD i true=false↔i∈l.map (·.1)))→l.Pairwise (Rp ops am ap)→(∀x∈l,gE ops x.1 x.1=true∧x.1<ops.size∧(eA ap x.2=true∧(x.2.alc=true→∀t,x.2.dst=some t→al t))∧∃o,ops[x.1]? = some o∧cop C.P C.nt C.OT ops o=some x.2) →
   (∀j,j<ops.size→listed.getD j true=true→∀k,k<ops.size→io am k j=true→listed.getD k true=true) →
   Is C s a w→ApI al ap s.r→bN (ConX C.P C.A) (l.map (·.2)) K s→wpAny C.P .any ops Q n listed a w:=by
 intro n;induction n with
 |zero =>
  intro l listed s a w hl hsz hlist _ _ _ his _ hK;have hnil:l=[]:=List.eq_nil_of_length_eq_zero hl;subst hnil;refine⟨?_,hQ s a w his hK⟩;rw[List.eq_nil_iff_forall_not_mem];intro i hi;obtain⟨h1,o,ho,_⟩:=mem_ready.1 hi;have:=(hlist i (Array.getElem?_eq_some_iff.1 ho).1).1 h1;simp at this
 |succ n ih =>
  intro l listed s a w hl hsz hlist hp hall hcl his hap hK;refine⟨fun h0 => ?_,fun i hi => ?_⟩
  ·exfalso
   match l,hl,hlist,hp,hall with
   |x::l',_,hlist,hp,hall =>
    obtain⟨g1,g2,g3,o,ho,-⟩:=hall x (by simp);have hmem:x.1∈Region.ready .any ops listed:=by
     rw[mem_ready];refine⟨(hlist x.1 g2).2 (by simp),o,ho,fun e he hb => ?_⟩;have hon:e.on<ops.size:=by
      simp only[ko,List.all_eq_true,List.mem_range] at hanc;have:=hanc x.1 g2;rw[ho] at this;simp only[Bool.and_eq_true,Array.all_eq_true_iff_forall_mem,Bool.or_eq_true,Bool.not_eq_true',decide_eq_true_eq] at this;rcases this.1 e he with h | h
      ·rw[hb] at h;cases h
      ·exact h
     have hnot:¬ (listed.getD e.on true=false):=by
      intro hf;have:=(hlist e.on hon).1 hf;simp only[List.map_cons,List.mem_cons,List.mem_map] at this;rcases this with h | ⟨y,hy,h⟩
      ·exact qx ho g1 e he hb h
      ·exact qx ho ((List.pairwise_cons.1 hp).1 y hy).1 e he hb h.symm
     have hlt:e.on<listed.size:=by omega
     simp[hlt] at hnot ⊢;exact hnot
    rw[h0] at hmem;cases hmem
  ·obtain⟨h1,o,ho,hpre⟩:=mem_ready.1 hi;have hin:i<ops.size:=(Array.getElem?_eq_some_iff.1 ho).1;have hmem:=(hlist i hin).1 h1;obtain⟨x,hx,rfl⟩:=List.mem_map.1 hmem;obtain⟨l1,l2,rfl⟩:=List.append_of_mem hx;obtain⟨g1,g2,g3,o',ho',hcop⟩:=hall x hx;rw[ho] at ho';cases ho';have hbef:∀k,k<ops.size→io am k x.1=true→listed.getD k true=true:=by
    intro k hk hb;simp only[ko,List.all_eq_true,List.mem_range] at hanc;have:=hanc x.1 hin;rw[ho] at this;simp only[Bool.and_eq_true,List.all_eq_true,List.mem_range,Bool.or_eq_true,Bool.not_eq_true'] at this;rcases this.2 k hk with h | h
    ·rw[hb] at h;cases h
    ·obtain⟨e,he,hh⟩:=Array.any_eq_true'.1 h;simp only[Bool.and_eq_true,Bool.or_eq_true,beq_iff_eq] at hh;have hl':=hpre e he hh.1;have hon:e.on<ops.size:=by
      rw[←hsz];rcases Nat.lt_or_ge e.on listed.size with h' | h'
      ·exact h'
      ·simp[Array.getElem?_eq_none h'] at hl'
     have hlt:e.on<listed.size:=by omega
     have hl'':listed.getD e.on true=true:=by simp[hlt] at hl' ⊢;exact hl'
     rcases hh.2 with rfl | hh2
     ·exact hl''
     ·exact hcl e.on hon hl'' k hk hh2
   have hsw:∀c'∈l1.map (·.2),ig ap c' x.2=true∧eA ap c'=true∧(c'.alc=true→∀t,c'.dst=some t→al t):=by
    intro c' hc';obtain⟨y,hy,rfl⟩:=List.mem_map.1 hc';obtain⟨q1,q2,q3,-⟩:=hall y (by simp[hy]);have hR:=(List.pairwise_append.1 hp).2.2 y hy x (by simp);refine⟨hR.2.2.resolve_left fun hb => ?_,q3⟩;have:=hbef y.1 q2 hb;have hf:=(hlist y.1 q2).2 (by simp;exact .inl ⟨_,hy⟩);rw[hf] at this;cases this
   have hK':bN (ConX C.P C.A) (l1.map (·.2)++x.2::l2.map (·.2)) K s:=by simpa using hK
   have hg:=pP g3.1 g3.2 hap (pQ (l1.map (·.2)) (l2.map (·.2)) s hsw hap hK');refine sv hC ho hcop his (fun t a' w' ht hk => ?_) hg;have hsub:(l1++l2).Sublist (l1++x::l2):=List.Sublist.append (List.Sublist.refl _) (List.sublist_cons_self _ _);have hxn:x.1 ∉ (l1++l2).map (·.1):=by
    intro hm;obtain⟨y,hy,he⟩:=List.mem_map.1 hm;rcases List.mem_append.1 hy with hy | hy
    ·exact ((List.pairwise_append.1 hp).2.2 y hy x (by simp)).2.1 he
    ·exact ((List.pairwise_cons.1 (List.pairwise_append.1 hp).2.1).1 y hy).2.1 he.symm
   refine ih (l1++l2) _ t a' w' (by simp at hl ⊢;omega) (by simpa using hsz) (fun k hk' => ?_) (hp.sublist hsub) (fun y hy=>hall y (hsub.subset hy)) (fun j hj hlj k hk' hb => ?_) ht hk.1 (by simpa using hk.2)
   ·by_cases hkx:x.1=k
    ·subst hkx;have hlt:x.1<listed.size:=by omega
     simp only[Array.getD_eq_getD_getElem?,Array.getElem?_setIfInBounds_self,hlt,if_true,Option.getD_some];exact⟨fun h=>(by cases h),fun h=>absurd h hxn⟩
    ·rw[getD_set_ne true hkx,hlist k hk'];constructor
     ·intro hm;obtain⟨y,hy,rfl⟩:=List.mem_map.1 hm;simp only[List.mem_append,List.mem_cons] at hy;rcases hy with hy | rfl | hy
      ·exact List.mem_map.2 ⟨y,by simp[hy],rfl⟩
      ·exact absurd rfl hkx
      ·exact List.mem_map.2 ⟨y,by simp[hy],rfl⟩
     ·intro hm;obtain⟨y,hy,rfl⟩:=List.mem_map.1 hm;exact List.mem_map.2 ⟨y,hsub.subset hy,rfl⟩
   ·have hset:∀q,listed.getD q true=true→(listed.setIfInBounds x.1 true).getD q true=true:=by
     intro q hq;by_cases hqx:x.1=q
     ·subst hqx;have hlt:x.1<listed.size:=by omega
      simp[hlt]
     ·rw[getD_set_ne true hqx];exact hq
    by_cases hjx:x.1=j
    ·subst hjx;exact hset k (hbef k hk' hb)
    ·rw[getD_set_ne true hjx] at hlj;exact hset k (hcl j hj hlj k hk' hb)
end
end Go.Proofs.YtbnhgnhgbhjkcaaGreat.M
namespace Go.Proofs.YtbnhgnhgbhjkcaaGreat
open Go.RowKit
def dch (d:Nat):UInt8:=UInt8.ofNat (48+d)
def aZ (n:Nat):List UInt8:=if h:n=0 then [] else dch (n % 10)::aZ (n / 10)
termination_by n
decreasing_by omega
def aK (n:Nat):List UInt8:=if n=0 then [48] else (aZ n).reverse
def dec (z:Int):List UInt8:=if z<0 then 45::aK z.natAbs else aK z.natAbs
theorem bV:aZ 0=[]:=by rw[aZ];rfl
theorem bM {n:Nat} (h:0<n):aZ n=dch (n % 10)::aZ (n / 10):=by rw[aZ,dif_neg (by omega)]
theorem dz {d:Nat} (h:d<10):(dch d).toNat=48+d:=by
 unfold dch;simp[UInt8.toNat_ofNat'];omega
theorem qz:aJ []=0:=rfl
theorem yZ (n:Nat):aJ (aZ n).reverse=n:=by
 induction n using Nat.strongRecOn with
 |ind n ih =>
  rcases Nat.eq_zero_or_pos n with h | h
  ·subst h;rw[bV];rfl
  ·rw[bM h,List.reverse_cons,m9,ih (n / 10) (by omega),dz (by omega)];omega
theorem mI (n:Nat):aJ (aK n)=n:=by
 unfold aK;split
 ·rename_i h;subst h;rfl
 ·exact yZ n
theorem y7 {l:List UInt8} (h:∀c∈l,48≤c.toNat∧c.toNat≤57):∀j,j<l.length→48≤byt l j∧byt l j≤57:=by
 intro j hj;rw[ja hj];exact h _ (List.getElem_mem hj)
theorem y8 {l:List UInt8} (h:∀j,j<l.length→48≤byt l j∧byt l j≤57):∀c∈l,48≤c.toNat∧c.toNat≤57:=by
 intro c hc;obtain⟨j,hj,rfl⟩:=List.mem_iff_getElem.1 hc;have:=h j hj
 rwa[ja hj] at this
theorem y9 (n:Nat):∀c∈aZ n,48≤c.toNat∧c.toNat≤57:=by
 induction n using Nat.strongRecOn with
 |ind n ih =>
  rcases Nat.eq_zero_or_pos n with h | h
  ·subst h;rw[bV];intro c hc;cases hc
  ·rw[bM h];intro c hc;rcases List.mem_cons.1 hc with hc | hc
   ·subst hc;rw[dz (by omega)];omega
   ·exact ih (n / 10) (by omega) c hc
theorem za:∀(a:List UInt8),(∀c∈a,48≤c.toNat∧c.toNat≤57)→a.getLast?≠some 48→a=aZ (aJ a.reverse).toNat:=by
 intro a;induction a with
 |nil=>intro _ _;rw[List.reverse_nil,qz];exact bV.symm
 |cons c t ih =>
  intro hd hl;have hc:=hd c (List.mem_cons_self ..);have ht:t=aZ (aJ t.reverse).toNat:=by
   by_cases e:t=[]
   ·subst e;rw[List.reverse_nil,qz];exact bV.symm
   ·refine ih (fun x hx=>hd x (List.mem_cons_of_mem _ hx)) ?_
    rwa[List.getLast?_cons_of_ne_nil e] at hl
  have hb:0≤aJ t.reverse:=(jX (y7 (l:=t.reverse) fun x hx=>hd x (List.mem_cons_of_mem _ (List.mem_reverse.1 hx)))).1;rw[List.reverse_cons,m9];obtain⟨m,hm⟩:=Int.eq_ofNat_of_zero_le hb;rw[hm] at ht ⊢;have e:((m:Int)*10+((c.toNat:Int)-48)).toNat=m*10+(c.toNat-48):=by omega
  rw[e];simp only[Int.toNat_natCast] at ht;have hpos:0<m*10+(c.toNat-48):=by
   rcases Nat.eq_zero_or_pos m with h0 | h0
   ·subst h0;rw[bV] at ht;subst ht;rcases Nat.eq_zero_or_pos (c.toNat-48) with h1 | h1
    ·have:c=48:=UInt8.toNat_inj.1 (by show c.toNat=48;omega);subst this;simp at hl
    ·omega
   ·omega
  rw[bM hpos,show (m*10+(c.toNat-48)) % 10=c.toNat-48 by omega,show (m*10+(c.toNat-48)) / 10=m by omega,←ht];congr 1
  apply UInt8.toNat_inj.1;rw[dz (by omega)];omega
theorem zb {l:List UInt8} (h:Canon l):aK (aJ l).toNat=l:=by
 have hb:=jX h.digs;by_cases h0:byt l 0=48
 ·have h1:=h.lead h0
  match l,h1,h0 with
  |[c],_,h0 =>
   rw[fO] at h0;have:c=48:=UInt8.toNat_inj.1 h0;subst this;rfl
 ·have hr:=za l.reverse (fun c hc=>y8 h.digs c (List.mem_reverse.1 hc)) (by
   rw[List.getLast?_reverse];intro e
   match l,e,h0 with
   |c::t,e,h0 =>
    simp at e;subst e;exact h0 rfl)
  rw[List.reverse_reverse] at hr;unfold aK;split
  ·rename_i hz;rw[hz,bV] at hr;have:=h.pos;rw[List.reverse_eq_nil_iff] at hr;rw[hr] at this;simp at this
  ·rw[←hr,List.reverse_reverse]
theorem zc {t:List UInt8} (h:ct t=true):dec (ef t)=t:=by
 obtain⟨hc,hz⟩:=me h;have hb:=jX hc.digs;have hd:=zb hc;unfold ef dec;cases hn:aG t
 ·simp only[sg,Bool.false_eq_true,if_false];rw[if_neg (by omega),show (aJ (body t)).natAbs=(aJ (body t)).toNat by omega,hd,ib hn]
 ·have hpos:0<aJ (body t):=by
   rcases Int.lt_or_le 0 (aJ (body t)) with h1 | h1
   ·exact h1
   ·exfalso
    have e0:aJ (body t)=0:=by omega
    rw[e0] at hd;have:=hz hn;rw[←hd] at this;exact this rfl
  simp only[sg,if_true];rw[if_pos (by omega),show (-aJ (body t)).natAbs=(aJ (body t)).toNat by omega,hd,i9 hn]
  match t,hn with
  |c::r,hn =>
   have:c=45:=by simpa[aG] using hn
   subst this;rfl
end Go.Proofs.YtbnhgnhgbhjkcaaGreat
namespace Go.Proofs.YtbnhgnhgbhjkcaaGreat.Z4
open Go.RowKit
set_option maxHeartbeats 400000
theorem qm:(Tryz.prog.info? (ET .i64)).map (fun i=>(i.zero,i.size,i.bytes))=some (some (.int .i64 0),1,8):=by kernel_rfl
theorem mB {t:List UInt8}{f:Nat} (h:((t.drop f).head? == some 48)=true):f<t.length∧byt t f=48:=by
 rw[beq_iff_eq,List.head?_drop] at h;obtain⟨h1,h2⟩:=List.getElem?_eq_some_iff.1 h;exact⟨h1,by rw[ja h1,h2];rfl⟩
theorem mC {t:List UInt8}{f:Nat} (h:((t.drop f).head? == some 48)=false) (hl:f<t.length):byt t f≠48:=by
 intro e;rw[beq_eq_false_iff_ne,List.head?_drop,List.getElem?_eq_getElem hl] at h;rw[ja hl] at e;exact h (congrArg some (UInt8.toNat_inj.1 e))
theorem mD {t:List UInt8} (h:aG t=true):0<t.length∧((byt t 0:Int) == 45)=true:=by
 have h0:=pI h;refine⟨h0,?_⟩
 match t,h with
 |c::r,h =>
  have:c=45:=by simpa[aG] using h
  subst this;rfl
theorem mE {t:List UInt8} (h:aG t=false) (hl:0<t.length):((byt t 0:Int) == 45)=false:=by
 match t,hl with
 |c::r,_ =>
  rw[beq_eq_false_iff_ne,fO];intro e;have:c=45:=UInt8.toNat_inj.1 (by show c.toNat=45;omega);subst this;cases h
theorem yP (t:List UInt8) (w:World) (hs:t.length≤9223372036854775807) (hn:aG t=true) :
  Calls Tryz.prog 63 #[.string (bs t),.bool true,.bool true] w (fun e w'=>e = .returned (.tuple #[.int .i64 (av true t).1,.bool (av true t).2])∧Ext w w'):=by
 have hf:(if true&&aG t then 1 else 0)=1:=by simp[hn]
 obtain⟨hl,hb⟩:=mD hn;clear hn;by_cases h48:((t.drop 1).head? == some 48)=true
 ·have H:=hd_ (eU hf h48);obtain⟨hl48,hb48⟩:=mB h48;have hb48':((byt t 1:Int) == 48)=true:=by rw[beq_iff_eq];omega
  replace hf:=hd_ hf;clear h48 hb48;go_enter Tryz.func63,Tryz.ntmps63;go_wp2;go_ret2;exact⟨by rw[H.out];rfl,Ext.rf _⟩
 ·have h48:((t.drop 1).head? == some 48)=false:=by simpa using h48
  have H:Hd (∀k:Nat,(1:Nat)+bK (t.drop 1)=k→av true t=(k,decide (1<k))):=hd_ (fun k hk=>dO hf h48 hk);have hnb:∀h:1<t.length,((byt t 1:Int) == 48)=false:=fun h=>by rw[beq_eq_false_iff_ne];have:=mC h48 h;omega
  replace hf:=hd_ hf;clear h48;by_cases hl48:1<t.length
  ·have hnb:=hnb hl48;go_enter Tryz.func63,Tryz.ntmps63;go_wp2;go_loop [9] (fun i => ∃k:Nat,i = .int .i64 k∧1≤k∧k≤t.length∧∀j,1≤j→j<k→48≤byt t j∧byt t j≤57) (fun n=>t.length-(intOf n).toNat)
   case atStart=>exact⟨1,rfl,Nat.le_refl _,by omega,fun j h1 h2=>by omega⟩
   case round =>
    obtain⟨k,rfl,hk1,hk2,hall⟩:=hrel;replace hall:=hd_ hall;by_cases hlt:k<t.length
    ·by_cases hd:48≤byt t k∧byt t k≤57
     ·obtain⟨hd1,hd2⟩:=hd;go_wp2;go_round
      case rel=>exact⟨k+1,by go_num,by omega,by omega,fun j h1 h2=>if e:j=k then by subst e;exact⟨hd1,hd2⟩ else hall.out j h1 (by omega)⟩
      case measure=>first | (simp[intOf];done) | (simp[intOf];omega)
     ·have HK:=hd_ (H.out k (dj hk1 hk2 hall.out (.inr hd)));by_cases hd1:48≤byt t k
      ·have hd2:¬ byt t k≤57:=fun h=>hd ⟨hd1,h⟩
       clear hd;go_wp2;go_ret2;exact⟨cB (by rw[HK.out]) (by rw[HK.out];try exact decide_eq_decide.2 (by omega)),Ext.rf _⟩
      ·clear hd;go_wp2;go_ret2;exact⟨cB (by rw[HK.out]) (by rw[HK.out];try exact decide_eq_decide.2 (by omega)),Ext.rf _⟩
    ·have HK:=hd_ (H.out k (dj hk1 hk2 hall.out (.inl (by omega))));go_wp2;go_ret2;exact⟨cB (by rw[HK.out]) (by rw[HK.out];try exact decide_eq_decide.2 (by omega)),Ext.rf _⟩
  ·clear hnb;first
   |(exfalso;omega)
   |(
     go_enter Tryz.func63,Tryz.ntmps63;go_wp2;go_loop [9] (fun i=>i = .int .i64 t.length∧1=t.length) (fun _=>0)
     case atStart=>exact⟨by congr 1;omega,by omega⟩
     case round =>
      obtain⟨rfl,hk⟩:=hrel;have HK:=hd_ (H.out t.length (dj (by omega) (Nat.le_refl _) (fun j h1 h2=>by omega) (.inl rfl)));replace hk:=hd_ hk;go_wp2;go_ret2;exact⟨cB (by rw[HK.out]) (by rw[HK.out];try first | exact decide_eq_decide.2 (by omega) | exact (decide_eq_false (by omega)).symm),Ext.rf _⟩)
theorem yQ (t:List UInt8) (w:World) (hs:t.length≤9223372036854775807) (hn:aG t=false) (hl:0<t.length) :
  Calls Tryz.prog 63 #[.string (bs t),.bool true,.bool true] w (fun e w'=>e = .returned (.tuple #[.int .i64 (av true t).1,.bool (av true t).2])∧Ext w w'):=by
 have hf:(if true&&aG t then 1 else 0)=0:=by simp[hn]
 have hb:=mE hn hl;clear hn;by_cases h48:((t.drop 0).head? == some 48)=true
 ·have H:=hd_ (eU hf h48);obtain⟨hl48,hb48⟩:=mB h48;have hb48':((byt t 0:Int) == 48)=true:=by rw[beq_iff_eq];omega
  replace hf:=hd_ hf;clear h48 hb48;go_enter Tryz.func63,Tryz.ntmps63;go_wp2;go_ret2;exact⟨by rw[H.out];rfl,Ext.rf _⟩
 ·have h48:((t.drop 0).head? == some 48)=false:=by simpa using h48
  have H:Hd (∀k:Nat,(0:Nat)+bK (t.drop 0)=k→av true t=(k,decide (0<k))):=hd_ (fun k hk=>dO hf h48 hk);have hnb:∀h:0<t.length,((byt t 0:Int) == 48)=false:=fun h=>by rw[beq_eq_false_iff_ne];have:=mC h48 h;omega
  replace hf:=hd_ hf;clear h48;by_cases hl48:0<t.length
  ·have hnb:=hnb hl48;go_enter Tryz.func63,Tryz.ntmps63;go_wp2;go_loop [9] (fun i => ∃k:Nat,i = .int .i64 k∧0≤k∧k≤t.length∧∀j,0≤j→j<k→48≤byt t j∧byt t j≤57) (fun n=>t.length-(intOf n).toNat)
   case atStart=>exact⟨0,rfl,Nat.le_refl _,by omega,fun j h1 h2=>by omega⟩
   case round =>
    obtain⟨k,rfl,hk1,hk2,hall⟩:=hrel;replace hall:=hd_ hall;by_cases hlt:k<t.length
    ·by_cases hd:48≤byt t k∧byt t k≤57
     ·obtain⟨hd1,hd2⟩:=hd;go_wp2;go_round
      case rel=>exact⟨k+1,by go_num,by omega,by omega,fun j h1 h2=>if e:j=k then by subst e;exact⟨hd1,hd2⟩ else hall.out j h1 (by omega)⟩
      case measure=>first | (simp[intOf];done) | (simp[intOf];omega)
     ·have HK:=hd_ (H.out k (dj hk1 hk2 hall.out (.inr hd)));by_cases hd1:48≤byt t k
      ·have hd2:¬ byt t k≤57:=fun h=>hd ⟨hd1,h⟩
       clear hd;go_wp2;go_ret2;exact⟨cB (by rw[HK.out]) (by rw[HK.out];try exact decide_eq_decide.2 (by omega)),Ext.rf _⟩
      ·clear hd;go_wp2;go_ret2;exact⟨cB (by rw[HK.out]) (by rw[HK.out];try exact decide_eq_decide.2 (by omega)),Ext.rf _⟩
    ·have HK:=hd_ (H.out k (dj hk1 hk2 hall.out (.inl (by omega))));go_wp2;go_ret2;exact⟨cB (by rw[HK.out]) (by rw[HK.out];try exact decide_eq_decide.2 (by omega)),Ext.rf _⟩
  ·clear hnb;first
   |(exfalso;omega)
   |(
     go_enter Tryz.func63,Tryz.ntmps63;go_wp2;go_loop [9] (fun i=>i = .int .i64 t.length∧0=t.length) (fun _=>0)
     case atStart=>exact⟨by congr 1;omega,by omega⟩
     case round =>
      obtain⟨rfl,hk⟩:=hrel;have HK:=hd_ (H.out t.length (dj (by omega) (Nat.le_refl _) (fun j h1 h2=>by omega) (.inl rfl)));replace hk:=hd_ hk;go_wp2;go_ret2;exact⟨cB (by rw[HK.out]) (by rw[HK.out];try first | exact decide_eq_decide.2 (by omega) | exact (decide_eq_false (by omega)).symm),Ext.rf _⟩)
theorem yR (t:List UInt8) (w:World) (hs:t.length≤9223372036854775807)  :
  Calls Tryz.prog 63 #[.string (bs t),.bool false,.bool false] w (fun e w'=>e = .returned (.tuple #[.int .i64 (av false t).1,.bool (av false t).2])∧Ext w w'):=by
 have hf:(if false&&aG t then 1 else 0)=0:=by simp[aG]
 skip
 by_cases h48:((t.drop 0).head? == some 48)=true
 ·have H:=hd_ (eU hf h48);obtain⟨hl48,hb48⟩:=mB h48;have hb48':((byt t 0:Int) == 48)=true:=by rw[beq_iff_eq];omega
  replace hf:=hd_ hf;clear h48 hb48;go_enter Tryz.func63,Tryz.ntmps63;go_wp2;go_ret2;exact⟨by rw[H.out];rfl,Ext.rf _⟩
 ·have h48:((t.drop 0).head? == some 48)=false:=by simpa using h48
  have H:Hd (∀k:Nat,(0:Nat)+bK (t.drop 0)=k→av false t=(k,decide (0<k))):=hd_ (fun k hk=>dO hf h48 hk);have hnb:∀h:0<t.length,((byt t 0:Int) == 48)=false:=fun h=>by rw[beq_eq_false_iff_ne];have:=mC h48 h;omega
  replace hf:=hd_ hf;clear h48;by_cases hl48:0<t.length
  ·have hnb:=hnb hl48;go_enter Tryz.func63,Tryz.ntmps63;go_wp2;go_loop [9] (fun i => ∃k:Nat,i = .int .i64 k∧0≤k∧k≤t.length∧∀j,0≤j→j<k→48≤byt t j∧byt t j≤57) (fun n=>t.length-(intOf n).toNat)
   case atStart=>exact⟨0,rfl,Nat.le_refl _,by omega,fun j h1 h2=>by omega⟩
   case round =>
    obtain⟨k,rfl,hk1,hk2,hall⟩:=hrel;replace hall:=hd_ hall;by_cases hlt:k<t.length
    ·by_cases hd:48≤byt t k∧byt t k≤57
     ·obtain⟨hd1,hd2⟩:=hd;go_wp2;go_round
      case rel=>exact⟨k+1,by go_num,by omega,by omega,fun j h1 h2=>if e:j=k then by subst e;exact⟨hd1,hd2⟩ else hall.out j h1 (by omega)⟩
      case measure=>first | (simp[intOf];done) | (simp[intOf];omega)
     ·have HK:=hd_ (H.out k (dj hk1 hk2 hall.out (.inr hd)));by_cases hd1:48≤byt t k
      ·have hd2:¬ byt t k≤57:=fun h=>hd ⟨hd1,h⟩
       clear hd;go_wp2;go_ret2;exact⟨cB (by rw[HK.out]) (by rw[HK.out];try exact decide_eq_decide.2 (by omega)),Ext.rf _⟩
      ·clear hd;go_wp2;go_ret2;exact⟨cB (by rw[HK.out]) (by rw[HK.out];try exact decide_eq_decide.2 (by omega)),Ext.rf _⟩
    ·have HK:=hd_ (H.out k (dj hk1 hk2 hall.out (.inl (by omega))));go_wp2;go_ret2;exact⟨cB (by rw[HK.out]) (by rw[HK.out];try exact decide_eq_decide.2 (by omega)),Ext.rf _⟩
  ·clear hnb;first
   |(exfalso;omega)
   |(
     go_enter Tryz.func63,Tryz.ntmps63;go_wp2;go_loop [9] (fun i=>i = .int .i64 t.length∧0=t.length) (fun _=>0)
     case atStart=>exact⟨by congr 1;omega,by omega⟩
     case round =>
      obtain⟨rfl,hk⟩:=hrel;have HK:=hd_ (H.out t.length (dj (by omega) (Nat.le_refl _) (fun j h1 h2=>by omega) (.inl rfl)));replace hk:=hd_ hk;go_wp2;go_ret2;exact⟨cB (by rw[HK.out]) (by rw[HK.out];try first | exact decide_eq_decide.2 (by omega) | exact (decide_eq_false (by omega)).symm),Ext.rf _⟩)
theorem yS (w:World) :
  Calls Tryz.prog 63 #[.string (bs []),.bool true,.bool true] w (fun e w'=>e = .returned (.tuple #[.int .i64 (av true []).1,.bool (av true []).2])∧Ext w w'):=by
 go_enter Tryz.func63,Tryz.ntmps63;go_wp2;go_loop [9] (fun i=>i = .int .i64 0) (fun _=>0)
 case atStart=>rfl
 case round =>
  subst hrel;go_wp2;go_ret2;exact⟨rfl,Ext.rf _⟩
theorem word_any (t:List UInt8) (sg:Bool) (w:World) (hs:t.length≤9223372036854775807) :
  Calls Tryz.prog 63 #[.string (bs t),.bool sg,.bool sg] w (fun e w'=>e = .returned (.tuple #[.int .i64 (av sg t).1,.bool (av sg t).2])∧Ext w w'):=by
 cases sg
 ·exact yR t w hs
 ·cases hn:aG t
  ·rcases Nat.eq_zero_or_pos t.length with h | h
   ·rw[List.eq_nil_of_length_eq_zero h];exact yS w
   ·exact yQ t w hs hn h
  ·exact yP t w hs hn
theorem digitsOf_any (t:List UInt8) (w:World) (hs:t.length≤9223372036854775807) :
  Calls Tryz.prog 64 #[.string (bs t)] w (fun e w'=>e = .returned (.int .i64 (body t).length)∧Ext w w'):=by
 have hb:=hP t;cases hn:aG t
 ·rw[hn] at hb;have H:Hd ((body t).length=t.length):=hd_ (by simpa using hb);clear hb;by_cases hl:0<t.length
  ·have hb:=mE hn hl;clear hn;go_enter Tryz.func64,Tryz.ntmps64;go_wp2;go_ret;exact⟨nS (by rw[H.out]),Ext.rf _⟩
  ·clear hn;go_enter Tryz.func64,Tryz.ntmps64;go_wp2;go_ret;exact⟨nS (by rw[H.out]),Ext.rf _⟩
 ·obtain⟨hl,hb2⟩:=mD hn;have H:Hd (((body t).length:Int)=t.length-1):=hd_ (by rw[hb,hn];simp;omega);clear hb hn;go_enter Tryz.func64,Tryz.ntmps64;go_wp2;go_ret;exact⟨nS (by rw[H.out]),Ext.rf _⟩
end Go.Proofs.YtbnhgnhgbhjkcaaGreat.Z4
