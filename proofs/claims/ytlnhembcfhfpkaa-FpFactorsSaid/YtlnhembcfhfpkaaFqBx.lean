/- Polynomials modulo a prime, in plain Lean: inverses. -/
import Derived.Test.YtlnhembcfhfpkaaFqAx
namespace Go.Proofs.Ytlnhembcfhfpkaa.M
open Go.RowKit
set_option linter.unusedSimpArgs false
set_option linter.unusedVariables false
structure Inv (a:Int) (P:Nat) (x y:Nat) (u v:Int):Prop where
 cx:∃ k:Int,u*a=x+k*P
 cy:∃ k:Int,v*a=y+k*P
 gd:Nat.gcd x y=1
 sg:∃ (U W:Nat) (s:Int),(s=1∨s = -1)∧u=s*U∧v = -s*W∧U*y+W*x=P
 ub:-(P:Int)≤u∧u≤P
 x1:1≤x
theorem Inv.vb {a:Int} {P x y:Nat} {u v:Int} (h:Inv a P x y u v):-(P:Int)≤v∧v≤P:=by
 obtain⟨U,W,s,hs,-,h2,h3⟩:=h.sg
 have h4:W*1≤W*x:=Nat.mul_le_mul_left _ h.x1
 have h5:W≤P:=by omega
 rcases hs with rfl | rfl<;>omega
theorem Inv.start {a:Int} {P:Nat} (h0:0<a) (h1:a<P) (hg:Nat.gcd a.toNat P=1):Inv a P a.toNat P 1 0:=
 ⟨⟨0,by omega⟩,⟨-1,by omega⟩,hg,⟨1,0,1,.inl rfl,by simp,by simp,by simp⟩,by omega,by omega⟩
theorem Inv.next {a:Int} {P x y:Nat} {u v:Int} (h:Inv a P x y u v) (hy:0<y):Inv a P y (x % y) v (u-(x / y:Nat)*v)∧-(P:Int)≤(x / y:Nat)*v∧(x / y:Nat)*v≤P:=by
 obtain⟨U,W,s,hs,e1,e2,h3⟩:=h.sg
 obtain⟨k1,hk1⟩:=h.cx
 obtain⟨k2,hk2⟩:=h.cy
 have hdm:=Nat.div_add_mod x y
 have hsum:W*(x % y)+(U+x / y*W)*y=P:=by
  rw[←h3]
  generalize x / y=q at *
  generalize x % y=r at *
  subst hdm
  grind
 have hW:W*1≤W*x:=Nat.mul_le_mul_left _ h.x1
 have hW2:(U+x / y*W)*1≤(U+x / y*W)*y:=Nat.mul_le_mul_left _ hy
 have hq:x / y*W≤P:=by omega
 refine⟨⟨⟨k2,hk2⟩,⟨k1-(x / y:Nat)*k2,?_⟩,?_,⟨W,U+x / y*W,-s,by omega,by rw[e2],?_,hsum⟩,h.vb,hy⟩,?_⟩
 ·have hx:(x:Int)=(y:Int)*(x / y:Nat)+(x % y:Nat):=by
   rw[←Int.natCast_mul,←Int.natCast_add,hdm]
  rw[Int.sub_mul,hk1,Int.mul_assoc,hk2]
  generalize ((x / y:Nat):Int)=q at *
  generalize ((x % y:Nat):Int)=r at *
  grind
 ·rw[Nat.gcd_comm,←Nat.gcd_rec,Nat.gcd_comm];exact h.gd
 ·rw[e1,e2,Int.neg_neg,Int.natCast_add,Int.natCast_mul]
  generalize ((x / y:Nat):Int)=q at *
  grind
 ·have e:((x / y:Nat):Int)*v = -s*(x / y*W:Nat):=by rw[e2,Int.natCast_mul];generalize ((x / y:Nat):Int)=q;grind
  rw[e]
  rcases hs with rfl | rfl<;>omega
theorem Inv.finish {a:Int} {P x:Nat} {u v:Int} (h:Inv a P x 0 u v):∃ k:Int,u*a=1+k*P:=by
 have:=h.gd
 rw[Nat.gcd_zero_right] at this
 obtain⟨k,hk⟩:=h.cx
 exact⟨k,by rw[hk,this];rfl⟩
theorem inv_ex {a:Int} {P:Nat}:∀ (y x:Nat) (u v:Int),Inv a P x y u v→∃ w k:Int,w*a=1+k*P:=by
 intro y
 induction y using Nat.strongRecOn with
 | _ y ih =>
  intro x u v h
  by_cases hy:y=0
  ·subst hy
   obtain⟨k,hk⟩:=h.finish
   exact⟨u,k,hk⟩
  ·exact ih (x % y) (Nat.mod_lt _ (by omega)) y v _ (h.next (by omega)).1
theorem mod_of {w b a p k k':Int} (h1:w*a=1+k*p) (h2:a*b=1+k'*p):w % p=b % p:=by
 have:w=b+(k*b-w*k')*p:=by
  have e:w*(a*b)=w*a*b:=by grind
  rw[h1,h2] at e
  grind
 rw[this,Int.add_mul_emod_self_right]
theorem of_mod {x p:Int} (hp:1<p) (h:x % p=1):∃ k,x=1+k*p:=⟨x / p,by have:=Int.emod_add_mul_ediv x p;rw[h] at this;rw[Int.mul_comm (x / p)];exact this.symm⟩
def IsInv (a p b:Int):Prop:=0≤b∧b<p∧(a*b) % p=1
theorem isInv_ex {a p:Int} (h0:0<a) (h1:a<p) (hg:Nat.gcd a.toNat p.toNat=1):∃ b,IsInv a p b:=by
 have hp:(p.toNat:Int)=p:=by omega
 obtain⟨w,k,hk⟩:=inv_ex _ _ _ _ (Inv.start (P:=p.toNat) h0 (by omega) hg)
 rw[hp] at hk
 refine⟨w % p,Int.emod_nonneg _ (by omega),Int.emod_lt_of_pos _ (by omega),?_⟩
 rw[Int.mul_emod,Int.emod_emod,←Int.mul_emod,Int.mul_comm,hk,Int.add_mul_emod_self_right]
 exact em_self (by omega)
theorem prime_gcd {a p:Int} (hp:Prime p) (h0:0<a) (h1:a<p):Nat.gcd a.toNat p.toNat=1:=by
 have hg1:Nat.gcd a.toNat p.toNat∣a.toNat:=Nat.gcd_dvd_left _ _
 have hg2:Nat.gcd a.toNat p.toNat∣p.toNat:=Nat.gcd_dvd_right _ _
 generalize Nat.gcd a.toNat p.toNat=d at *
 have hda:=Nat.le_of_dvd (by omega) hg1
 have hpp:(p.toNat:Int)=p:=by have:=hp.1;omega
 have key:∀ e:Nat,2≤e→e∣p.toNat→¬ ((e:Int)*e≤p):=fun e he hd hle=>by
  refine hp.2 (e+1) e he (by omega) hle ?_
  rw[tm (by have:=hp.1;omega),←hpp]
  exact Int.emod_eq_zero_of_dvd (Int.natCast_dvd_natCast.2 hd)
 rcases Nat.lt_or_ge d 2 with hlt | hge
 ·have:d≠0:=by
   rintro rfl
   have:=Nat.eq_zero_of_zero_dvd hg2
   have:=hp.1
   omega
  omega
 ·exfalso
  obtain⟨e,he⟩:=hg2
  have hk:=key d hge ⟨e,he⟩
  have hed:e<d:=by
   rcases Nat.lt_or_ge e d with h | h
   ·exact h
   ·exfalso
    apply hk
    have h3:d*d≤d*e:=Nat.mul_le_mul_left _ h
    have h4:((d*d:Nat):Int)=(d:Int)*d:=by simp
    omega
  have he2:2≤e:=by
   rcases Nat.lt_or_ge e 2 with h | h
   ·exfalso
    have:e=0∨e=1:=by omega
    rcases this with rfl | rfl
    ·have:=hp.1;omega
    ·omega
   ·exact h
  refine key e he2 ⟨d,by rw[he,Nat.mul_comm]⟩ ?_
  have h3:e*e≤d*e:=Nat.mul_le_mul_right _ (by omega)
  have h4:((e*e:Nat):Int)=(e:Int)*e:=by simp
  omega
open Classical in
noncomputable def invP (a p:Int):Int:=if h:∃ b,IsInv a p b then h.choose else 0
theorem invP_ok {a p:Int} (hp:Prime p) (h0:0<a) (h1:a<p):IsInv a p (invP a p):=by
 have h:=isInv_ex h0 h1 (prime_gcd hp h0 h1)
 unfold invP
 rw[dif_pos h]
 exact h.choose_spec
theorem inv_end {a p u b k:Int} (hp:1<p) (h:u*a=1+k*p) (hb:IsInv a p b):(u.tmod p+p).tmod p=b:=by
 have h1:-p<u.tmod p:=by
  have:=Int.lt_tmod_of_pos u (show 0<p by omega)
  exact this
 rw[tm (by omega)]
 have h2:u.tmod p=u-p*u.tdiv p:=by have:=Int.mul_tdiv_add_tmod u p;omega
 rw[h2,show u-p*u.tdiv p+p=u+(1-u.tdiv p)*p by grind,Int.add_mul_emod_self_right]
 obtain⟨k',hk'⟩:=of_mod hp hb.2.2
 rw[mod_of h hk',em_self ⟨hb.1,hb.2.1⟩]
def scP (f:List Int) (u p:Int):List Int:=f.map fun x=>(x*u) % p
theorem scP_len (f:List Int) (u p:Int):(scP f u p).length=f.length:=by simp[scP]
theorem scP_getD (f:List Int) (u p:Int) (i:Nat):(scP f u p).getD i 0=(f.getD i 0*u) % p:=by
 unfold scP
 rw[List.getD_eq_getElem?_getD,List.getD_eq_getElem?_getD,List.getElem?_map]
 cases f[i]?<;>simp
noncomputable def lu (g:List Int) (p:Int):Int:=invP (g.getD (g.length-1) 0) p
theorem lu_ok {g:List Int} {p:Int} (hp:Prime p) (hg:g≠[]) (ht:Td g) (hr:Rg p g):IsInv (g.getD (g.length-1) 0) p (lu g p):=by
 refine invP_ok hp ?_ (hr _).2
 have:=(hr (g.length-1)).1
 have:=td_last ht hg
 omega
theorem lu_lead {g:List Int} {p:Int} (hp:Prime p) (hg:g≠[]) (ht:Td g) (hr:Rg p g):Lead g p (lu g p):=by
 have:=(lu_ok hp hg ht hr).2.2
 unfold Lead
 rw[this,em_self ⟨by omega,by have:=hp.1;omega⟩]
noncomputable def monP (f:List Int) (p:Int):List Int:=scP f (lu f p) p
theorem monP_len (f:List Int) (p:Int):(monP f p).length=f.length:=scP_len _ _ _
end Go.Proofs.Ytlnhembcfhfpkaa.M
