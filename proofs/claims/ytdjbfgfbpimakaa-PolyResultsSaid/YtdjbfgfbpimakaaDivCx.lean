/- takeAway, giveBack: a block that is written in place. -/
import Derived.Test.YtdjbfgfbpimakaaDivBx
namespace Go.Proofs.Ytdjbfgfbpimakaa
open Go.RowKit
structure Only (b:Nat) (w w':World):Prop where
 os:w'.os=w.os
 tape:w'.tape=w.tape
 output:w'.output=w.output
 size:w.heap.size≤w'.heap.size
 block:∀ k,k≠b→k<w.heap.size→w'.heap[k]? = w.heap[k]?
theorem Only.rf (b:Nat) (w:World):Only b w w:=⟨rfl,rfl,rfl,Nat.le_refl _,fun _ _ _=>rfl⟩
theorem Only.st {b:Nat} {w w':World} (h:Only b w w') (i:Nat) (u:Value):Only b w (w'.setCell ⟨b,i,none⟩ u):=by
 refine⟨h.os,h.tape,h.output,?_,fun k hk hl=>(Below.heap_setCell w' _ u k hk).trans (h.block k hk hl)⟩
 have:=h.size
 simpa[World.setCell] using this
theorem Only.ext {b:Nat} {a w w':World} (h:Only b w w') (e:Ext a w) (hb:a.heap.size≤b):Ext a w':=
 ⟨h.os.trans e.os,h.tape.trans e.tape,h.output.trans e.output,Nat.le_trans e.size h.size,fun k hk=>(h.block k (by omega) (Nat.lt_of_lt_of_le hk e.size)).trans (e.block k hk)⟩
theorem Own.only {b c:Nat} {w w':World} {T:TypeId} {k:IntKind} {l:List Int} (h:Own w b T k l) (e:Only c w w') (hne:b≠c):Own w' b T k l:=(e.block b hne h.lt).trans h
theorem and32 {x:Int} (h:0≤x∧x≤18446744073709551615):bits BinOp.and IntKind.u64 x 4294967295=x % 4294967296:=by
 rw[u64_and _ _ (by omega) (by omega) (by omega) (by omega)]
 obtain⟨n,rfl⟩:=Int.eq_ofNat_of_zero_le h.1
 have e:((n:Int).toNat &&& (4294967295:Int).toNat)=n % 4294967296:=Nat.and_two_pow_sub_one_eq_mod n 32
 rw[e]
 omega
theorem take_cell {u c b:Int} (hu:0≤u∧u≤4294967295) (hc:0≤c∧c≤18446744073709551615) (hb:0≤b∧b≤1) :
  IntKind.u64.wrap (IntKind.u64.wrap (u-bits BinOp.and IntKind.u64 c 4294967295)-b) % 4294967296=(u-c % 4294967296-b) % 4294967296 ∧
  IntKind.u64.wrap (IntKind.u64.wrap (u-bits BinOp.and IntKind.u64 c 4294967295)-b) / 9223372036854775808=bor u (c % 4294967296) b:=by
 rw[and32 hc]
 have h:0≤c % 4294967296∧c % 4294967296≤4294967295:=by omega
 generalize c % 4294967296=d at *
 rw[IntKind.wrap_u64,IntKind.wrap_u64]
 unfold bor
 split<;>omega
theorem bor_mod {u d b:Int} (hu:0≤u∧u≤4294967295) (hd:0≤d∧d≤4294967295) (hb:0≤b∧b≤1):(u-d-b) % 4294967296=u-d-b+4294967296*bor u d b:=by
 unfold bor;split<;>omega
theorem take_step {V L0 u cc bb bo v g bj bk W d:Int} (h:V=L0+bj*(bk*(cc+bb)-g*W)) (hd:d=u-(cc+v*g) % 4294967296-bb+4294967296*bo) :
  V+(d-u)*(bj*bk)=L0+bj*(bk*4294967296*((cc+v*g) / 4294967296+bo)-g*(W+v*bk)):=by
 have h1:=Int.mul_ediv_add_emod (cc+v*g) 4294967296
 generalize (cc+v*g) / 4294967296=q at *
 generalize (cc+v*g) % 4294967296=s at *
 subst h;subst hd
 have e:s=cc+v*g-4294967296*q:=by omega
 subst e
 grind
theorem take_end {V L0 u cc bb bo g bj bk W d:Int} (h:V=L0+bj*(bk*(cc+bb)-g*W)) (hd:d=u-cc-bb+4294967296*bo) :
  V+(d-u)*(bj*bk)=L0-bj*(g*W)+bj*(bk*4294967296)*bo:=by
 subst h;subst hd
 grind
theorem end_cell {u c b:Int} (hu:0≤u∧u≤4294967295) (hc:0≤c∧c≤4294967295) (hb:0≤b∧b≤1) :
  IntKind.u64.wrap (IntKind.u64.wrap (u-c)-b) % 4294967296=(u-c-b) % 4294967296 ∧
  IntKind.u64.wrap (IntKind.u64.wrap (u-c)-b) / 9223372036854775808=bor u c b:=by
 rw[IntKind.wrap_u64,IntKind.wrap_u64]
 unfold bor
 split<;>omega
theorem bor_cases (u d b:Int):bor u d b=0∨bor u d b=1:=by unfold bor;split<;>simp
def RetTake (w:World) (b j n:Nat) (L:List Int) (z top:Int) (e:Ending) (w':World):Prop:=
 ∃ (L':List Int) (c:Int),e = .returned (.bool (decide (0<c)))∧(c=0∨c=1)∧Own w' b 116 .u32 L'∧L'.length=L.length∧Dig L'∧(∀ i,j+n<i→at_ L' i=at_ L i)∧valL L'=z+top*c∧Only b w w'
set_option maxRecDepth 100000 in
set_option maxHeartbeats 1000000 in
theorem takeAway_any (b j n bv cu cv:Nat) (L lv:List Int) (g:Int) (w:World) (hu:Own w b 116 .u32 L) (hdu:Dig L) (hj:j+n<L.length) (_hL:L.length≤13000000000000) (hcu:n+1≤cu)
  (hcm:cu≤9223372036854775807) (hv:Own w bv 116 .u32 lv) (hdv:Dig lv) (hn:n≤lv.length) (hne:bv≠b) (hg:0≤g∧g≤4294967295) :
  Calls Try.prog 108 #[.slice (some ⟨b,j,none⟩) (n+1) cu,.slice (some ⟨bv,0,none⟩) n cv,.int .u32 g] w
   (RetTake w b j n L (valL L-4294967296^j*(g*valL (lv.take n))) (4294967296^j*4294967296^(n+1))):=by
 go_enter Try.func108,Try.ntmps108
 go_wp2
 go_loopw [7,8,15] (fun bo ca i wr => ∃ (k:Nat) (bb cc:Int) (o:List Int),bo = .int .u64 bb∧ca = .int .u64 cc∧i = .int .i64 k∧k≤n∧(0≤bb∧bb≤1)∧(0≤cc∧cc≤4294967295)∧Own wr b 116 .u32 o∧o.length=L.length∧Dig o ∧
   valL o=valL L+4294967296^j*(4294967296^k*(cc+bb)-g*valL (lv.take k))∧(∀ i,j+k≤i→at_ o i=at_ L i)∧Only b w wr) (fun _ _ i _=>n-(intOf i).toNat)
 case atStart=>exact⟨0,0,0,L,rfl,rfl,rfl,Nat.zero_le _,by omega,by omega,hu,rfl,hdu,by simp[valL],fun _ _=>rfl,Only.rf _ _⟩
 case round =>
  obtain⟨k,bb,cc,o,rfl,rfl,rfl,hk,hbb,hcc,hown,hol,hdo,hval,hsame,hx⟩:=hrel
  replace hval:=hd_ hval
  replace hol:=hd_ hol
  replace hsame:=hd_ hsame
  by_cases hlt:k<n
  ·have gv:=(hv.only hx hne).cell (i:=k) (by omega)
   have fv:=hdv.at_ k
   have go:=hown.cell (i:=j+k) (by have:=hol.out;omega)
   have gf:=hown.frozen (j+k)
   have fo:=hdo.at_ (j+k)
   have fm:=mul_bound fv hg
   go_wp2
   have hcc2:0≤cc+at_ lv k*g∧cc+at_ lv k*g≤18446744069414584320:=by omega
   obtain⟨c1,c2⟩:=take_cell (u:=at_ o (j+k)) (c:=cc+at_ lv k*g) (b:=bb) fo (by omega) hbb
   have c3:=bor_mod (u:=at_ o (j+k)) (d:=(cc+at_ lv k*g) % 4294967296) (b:=bb) fo (by omega) hbb
   rw[c1,c2]
   go_roundw
   case rel =>
    refine⟨k+1,_,_,o.set (j+k) _,rfl,rfl,rfl,by omega,bor_01 _ _ _,by omega,hown.set _ _,by rw[List.length_set];exact hol.out,hdo.set _ (by omega),?_,fun i hi => ?_,hx.st _ _⟩
    ·rw[valL_set_full (by have:=hol.out;omega),valL_take_succ,pow_add',Int.pow_succ]
     exact take_step hval.out c3
    ·rw[at_set_ne (by omega)]
     exact hsame.out i (by omega)
   case measure=>first | (simp[intOf];done) | (simp[intOf];omega)
  ·obtain rfl:k=n:=by omega
   have go:=hown.cell (i:=j+k) (by have:=hol.out;omega)
   have gf:=hown.frozen (j+k)
   have fo:=hdo.at_ (j+k)
   go_wp2
   obtain⟨c1,c2⟩:=end_cell (u:=at_ o (j+k)) (c:=cc) (b:=bb) fo hcc hbb
   have c3:=bor_mod (u:=at_ o (j+k)) (d:=cc) (b:=bb) fo hcc hbb
   rw[c1,c2]
   go_ret
   refine⟨o.set (j+k) _,bor (at_ o (j+k)) cc bb,rfl,bor_cases _ _ _,hown.set _ _,by rw[List.length_set];exact hol.out,hdo.set _ (by omega),fun i hi => ?_,?_,hx.st _ _⟩
   ·rw[at_set_ne (by omega)]
    exact hsame.out i (by omega)
   ·rw[valL_set_full (by have:=hol.out;omega),pow_add',Int.pow_succ]
    exact take_end hval.out c3
theorem give_step {V L0 u v c bj bk W d d':Int} (h:V=L0+bj*(W-bk*c)) (hd:d=(u+v+c) % 4294967296) (hd':d'=(u+v+c) / 4294967296) :
  V+(d-u)*(bj*bk)=L0+bj*(W+v*bk-bk*4294967296*d'):=by
 have h1:=Int.mul_ediv_add_emod (u+v+c) 4294967296
 rw[←hd,←hd'] at h1
 have e:d=u+v+c-4294967296*d':=by omega
 subst h;subst e
 grind
theorem give_end {V L0 u c bj bk W d d':Int} (h:V=L0+bj*(W-bk*c)) (hd:d=(u+c) % 4294967296) (hd':d'=(u+c) / 4294967296) :
  V+(d-u)*(bj*bk)=L0+bj*W-bj*(bk*4294967296)*d':=by
 have h1:=Int.mul_ediv_add_emod (u+c) 4294967296
 rw[←hd,←hd'] at h1
 have e:d=u+c-4294967296*d':=by omega
 subst h;subst e
 grind
def RetGive (w:World) (b j n:Nat) (L:List Int) (z top:Int) (e:Ending) (w':World):Prop:=
 ∃ (L':List Int) (c:Int),e = .returned (.tuple #[])∧(c=0∨c=1)∧Own w' b 116 .u32 L'∧L'.length=L.length∧Dig L'∧(∀ i,j+n<i→at_ L' i=at_ L i)∧valL L'=z-top*c∧Only b w w'
set_option maxRecDepth 100000 in
set_option maxHeartbeats 1000000 in
theorem giveBack_any (b j n bv cu cv:Nat) (L lv:List Int) (w:World) (hu:Own w b 116 .u32 L) (hdu:Dig L) (hj:j+n<L.length) (_hL:L.length≤13000000000000) (hcu:n+1≤cu)
  (hcm:cu≤9223372036854775807) (hv:Own w bv 116 .u32 lv) (hdv:Dig lv) (hn:n≤lv.length) (hne:bv≠b) :
  Calls Try.prog 109 #[.slice (some ⟨b,j,none⟩) (n+1) cu,.slice (some ⟨bv,0,none⟩) n cv] w
   (RetGive w b j n L (valL L+4294967296^j*valL (lv.take n)) (4294967296^j*4294967296^(n+1))):=by
 go_enter Try.func109,Try.ntmps109
 go_wp2
 go_loopw [4,9] (fun ca i wr => ∃ (k:Nat) (cc:Int) (o:List Int),ca = .int .u32 cc∧i = .int .i64 k∧k≤n∧(0≤cc∧cc≤1)∧Own wr b 116 .u32 o∧o.length=L.length∧Dig o ∧
   valL o=valL L+4294967296^j*(valL (lv.take k)-4294967296^k*cc)∧(∀ i,j+k≤i→at_ o i=at_ L i)∧Only b w wr) (fun _ i _=>n-(intOf i).toNat)
 case atStart=>exact⟨0,0,L,rfl,rfl,Nat.zero_le _,by omega,hu,rfl,hdu,by simp[valL],fun _ _=>rfl,Only.rf _ _⟩
 case round =>
  obtain⟨k,cc,o,rfl,rfl,hk,hcc,hown,hol,hdo,hval,hsame,hx⟩:=hrel
  replace hval:=hd_ hval
  replace hol:=hd_ hol
  replace hsame:=hd_ hsame
  by_cases hlt:k<n
  ·have gv:=(hv.only hx hne).cell (i:=k) (by omega)
   have fv:=hdv.at_ k
   have go:=hown.cell (i:=j+k) (by have:=hol.out;omega)
   have gf:=hown.frozen (j+k)
   have fo:=hdo.at_ (j+k)
   go_wp2_with (go_at_call 112;refine (add32 _ _ _ _ fo fv hcc).mono ?_;rintro e w' ⟨rfl,rfl⟩)
   go_roundw
   case rel =>
    refine⟨k+1,_,o.set (j+k) _,rfl,rfl,by omega,by omega,hown.set _ _,by rw[List.length_set];exact hol.out,hdo.set _ (by omega),?_,fun i hi => ?_,hx.st _ _⟩
    ·rw[valL_set_full (by have:=hol.out;omega),valL_take_succ,pow_add',Int.pow_succ]
     exact give_step hval.out rfl rfl
    ·rw[at_set_ne (by omega)]
     exact hsame.out i (by omega)
   case measure=>first | (simp[intOf];done) | (simp[intOf];omega)
  ·obtain rfl:k=n:=by omega
   have go:=hown.cell (i:=j+k) (by have:=hol.out;omega)
   have gf:=hown.frozen (j+k)
   have fo:=hdo.at_ (j+k)
   go_wp2
   go_end0
   refine⟨o.set (j+k) _,(at_ o (j+k)+cc) / 4294967296,rfl,by omega,hown.set _ _,by rw[List.length_set];exact hol.out,hdo.set _ (by omega),fun i hi => ?_,?_,hx.st _ _⟩
   ·rw[at_set_ne (by omega)]
    exact hsame.out i (by omega)
   ·rw[valL_set_full (by have:=hol.out;omega),pow_add',Int.pow_succ,Int.mul_assoc]
    have:=give_end (d:=(at_ o (j+k)+cc) % 4294967296) hval.out rfl rfl
    rw[Int.mul_assoc] at this
    exact this
end Go.Proofs.Ytdjbfgfbpimakaa
