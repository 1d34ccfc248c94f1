/- Polynomials modulo a prime: the reference's powers and divisors walked; what the division makes of a polynomial. Polynomials modulo a prime as a ring, in plain Lean: identities are taken over from the integers. Polynomials modulo a prime: degrees, division, greatest common divisors, irreducible ones. Polynomials modulo a prime: powers, how often an irreducible one divides, derivatives. Polynomials modulo a prime: the p-th power of a sum; what has the derivative 0 is a p-th power. Polynomials modulo a prime: parts without squares. Polynomials modulo a prime: sums of multiples, systems of equations, roots are not more than the degree. Polynomials modulo a prime: rows brought to steps; they tell what is its own p-th power modulo f. Polynomials modulo a prime: Berlekamp's way to the irreducible factors. Polynomials modulo a prime: the pieces are the irreducible factors. Polynomials modulo a prime: powers by squares; Fermat's theorem for polynomials. -/
import Derived.Test.YtlnhembcfhfpkaaFqTx
section
namespace Go.Proofs.Ytlnhembcfhfpkaa.M
open Go.RowKit
set_option linter.unusedSimpArgs false
set_option linter.unusedVariables false
theorem S_congr {f f' g g':List Int} (hf:∀ i,f.getD i 0=f'.getD i 0) (hg:∀ i,g.getD i 0=g'.getD i 0) (k:Nat):∀ n,S f g k n=S f' g' k n
 | 0=>rfl
 | n+1=>by simp only[S,S_congr hf hg k n,hf,hg]
theorem S_set {l g:List Int} {e:Nat} {x:Int} (he:e<l.length) (h0:l.getD e 0=0) (k:Nat):∀ n,S (l.set e x) g k n=S l g k n+(if e<n∧e≤k then x*g.getD (k-e) 0 else 0)
 | 0=>by simp[S]
 | n+1=>by
  simp only[S,S_set he h0 k n]
  by_cases h1:n=e
  ·subst h1
   have h2:(l.set n x).getD n 0=x:=by simp[he]
   rw[h2,h0]
   by_cases h3:n≤k
   ·have e1:¬ (n<n∧n≤k):=by omega
    have e2:n<n+1∧n≤k:=by omega
    rw[if_neg e1,if_pos e2,if_pos h3,if_pos h3,Int.zero_mul,Int.add_zero]
   ·have e1:¬ (n<n∧n≤k):=by omega
    have e2:¬ (n<n+1∧n≤k):=by omega
    rw[if_neg e1,if_neg e2,if_neg h3,if_neg h3]
  ·have h2:(l.set e x).getD n 0=l.getD n 0:=by simp[List.getD_eq_getElem?_getD,List.getElem?_set,Ne.symm h1]
   rw[h2]
   have h4:(if e<n+1∧e≤k then x*g.getD (k-e) 0 else 0)=(if e<n∧e≤k then x*g.getD (k-e) 0 else 0):=by
    by_cases h3:e<n∧e≤k
    ·rw[if_pos h3,if_pos (by omega)]
    ·rw[if_neg h3,if_neg (by omega)]
   rw[h4,Int.add_right_comm]
theorem dv_id {f g:List Int} {p u:Int} {N:Nat} (hp:0<p) (hN:f.length+1=N+g.length) (hg0:0<g.length) (t:Nat):∀ c,c≤N→(S (dq f g p u N c) g t (t+1)+(dv f g p u N c).getD t 0) % p=f.getD t 0 % p
 | 0,_=>by
  have h0:S (dq f g p u N 0) g t (t+1)=0:=by
   rw[dq_0]
   have:∀ n,S (List.replicate N 0) g t n=0:=by
    intro n
    induction n with
    | zero=>rfl
    | succ n ih =>
     have h1:(List.replicate N (0:Int)).getD n 0=0:=by
      rw[List.getD_eq_getElem?_getD,List.getElem?_replicate]
      split<;>rfl
     simp only[S,ih,h1,Int.zero_mul]
     simp
   exact this _
  rw[h0,Int.zero_add];rfl
 | c+1,hc=>by
  have ih:=dv_id (u:=u) hp hN hg0 t c (by omega)
  have hz:(dq f g p u N c).getD (N-1-c) 0=0:=by
   unfold dq
   rw[getD_range_map,if_pos (by omega),if_neg (by omega)]
  rw[←dq_set (by omega),S_set (by rw[dq_len];omega) hz]
  simp only[dv,red]
  rw[rw_getD,dv_len]
  generalize kd (dv f g p u N c) g p u (N-1-c)=k
  generalize hs:S (dq f g p u N c) g t (t+1)=s at ih ⊢
  generalize hx:(dv f g p u N c).getD t 0=x at ih ⊢
  by_cases h1:N-1-c≤t
  ·rw[if_pos (by omega)]
   by_cases h2:t-(N-1-c)<g.length
   ·by_cases h3:t<f.length
    ·rw[if_pos h3,if_pos ⟨h1,h2⟩]
     generalize g.getD (t-(N-1-c)) 0=y
     rw[Int.add_emod_emod,show s+k*y+(x+(p-k)*y)=s+x+y*p by grind,Int.add_mul_emod_self_right]
     exact ih
    ·exfalso;omega
   ·have h4:g.getD (t-(N-1-c)) 0=0:=getD_big (by omega)
    rw[h4,Int.mul_zero,Int.add_zero]
    by_cases h3:t<f.length
    ·rw[if_pos h3,if_neg (by omega)];exact ih
    ·rw[if_neg h3]
     have h5:x=0:=by rw[←hx];exact getD_big (by rw[dv_len];omega)
     rw[h5] at ih;exact ih
  ·rw[if_neg (by omega),Int.add_zero]
   by_cases h3:t<f.length
   ·rw[if_pos h3,if_neg (by omega)];exact ih
   ·rw[if_neg h3]
    have h5:x=0:=by rw[←hx];exact getD_big (by rw[dv_len];omega)
    rw[h5] at ih;exact ih
theorem div_law {f g:List Int} {p:Int} {n m:Nat} (hP:IsP p) (hf:Pl p n f) (hg:Pl p m g) (hg0:g≠[]):addP (mulP (quo f g p) g p) (rem f g p) p=f:=by
 have hl:=List.length_pos_iff.2 hg0
 refine td_ext (td_trim _) hf.td fun t => ?_
 rw[addP_getD,mulP_getD,Int.emod_add_emod]
 unfold quo rem quoP remP
 by_cases h:f.length<g.length
 ·rw[if_pos h,if_pos h,S_nil (.inl rfl),Int.zero_add,em_self (hf.rg t)]
 ·rw[if_neg h,if_neg h,S_congr (trim_getD _) (fun _=>rfl),trim_getD]
  have:=dv_id (u:=lu g p) (f:=f) (N:=f.length-g.length+1) hP.pos.1 (by omega) hl t _ (Nat.le_refl _)
  rw[this,em_self (hf.rg t)]
end Go.Proofs.Ytlnhembcfhfpkaa.M
end

section
namespace Go.Proofs.Ytlnhembcfhfpkaa.Fx
open Go.RowKit Go.Proofs.Ytlnhembcfhfpkaa.M
set_option linter.unusedSimpArgs false
set_option linter.unusedVariables false
structure Pr where
 p:Int
 h:IsP p
theorem Pr.p2 (P:Pr):2≤P.p:=P.h.1.1
theorem Pr.pos (P:Pr):0<P.p:=P.h.pos.1
def ev:List Int→Int→Int
 | [],_=>0
 | a::l,n=>a+n*ev l n
def addZ:List Int→List Int→List Int
 | [],b=>b
 | a,[]=>a
 | a::l,b::m=>(a+b)::addZ l m
def scZ (k:Int) (l:List Int):List Int:=l.map (k * ·)
def mulZ:List Int→List Int→List Int
 | [],_=>[]
 | a::f,g=>addZ (scZ a g) (0::mulZ f g)
theorem ev_addZ:∀ (a b:List Int) (n:Int),ev (addZ a b) n=ev a n+ev b n
 | [],b,n=>by simp[addZ,ev]
 | a::l,[],n=>by simp[addZ,ev]
 | a::l,b::m,n=>by simp only[addZ,ev,ev_addZ l m];grind
theorem ev_scZ (k:Int):∀ (l:List Int) (n:Int),ev (scZ k l) n=k*ev l n
 | [],n=>by simp[scZ,ev]
 | a::l,n=>by
  have:=ev_scZ k l n
  simp only[scZ] at this
  simp only[scZ,List.map_cons,ev,this];grind
theorem ev_mulZ:∀ (a b:List Int) (n:Int),ev (mulZ a b) n=ev a n*ev b n
 | [],b,n=>by simp[mulZ,ev]
 | a::l,b,n=>by simp only[mulZ,ev_addZ,ev_scZ,ev,ev_mulZ l b];grind
theorem getD_addZ:∀ (a b:List Int) (i:Nat),(addZ a b).getD i 0=a.getD i 0+b.getD i 0
 | [],b,i=>by simp[addZ]
 | a::l,[],i=>by simp[addZ]
 | a::l,b::m,0=>by simp[addZ]
 | a::l,b::m,i+1=>by have:=getD_addZ l m i;simpa[addZ] using this
theorem getD_scZ (k:Int) (l:List Int) (i:Nat):(scZ k l).getD i 0=k*l.getD i 0:=by
 unfold scZ
 rw[List.getD_eq_getElem?_getD,List.getD_eq_getElem?_getD,List.getElem?_map]
 cases l[i]?<;>simp
theorem ev_zero:∀ (l:List Int),(∀ n,1≤n→ev l n=0)→∀ i,l.getD i 0=0
 | [],_,i=>by simp
 | a::l,h,i=>by
  have ha:a=0:=by
   have h1:=h (a.natAbs+1) (by omega)
   simp only[ev] at h1
   have hd:((a.natAbs:Int)+1)∣a:=⟨-ev l (a.natAbs+1),by grind⟩
   rcases Int.lt_trichotomy a 0 with hlt | h0 | hgt
   ·have:=Int.le_of_dvd (by omega) ((Int.dvd_neg).2 hd);omega
   ·exact h0
   ·have:=Int.le_of_dvd hgt hd;omega
  subst ha
  rcases i with _ | i
  ·rfl
  ·have:=ev_zero l (fun n hn=>by
    have h1:=h n hn
    simp only[ev,Int.zero_add] at h1
    rcases Int.mul_eq_zero.1 h1 with h2 | h2
    ·omega
    ·exact h2) i
   simpa using this
theorem ev_ext {a b:List Int} (h:∀ n,ev a n=ev b n) (i:Nat):a.getD i 0=b.getD i 0:=by
 have:=ev_zero (addZ a (scZ (-1) b)) (fun n _=>by rw[ev_addZ,ev_scZ,h n];grind) i
 rw[getD_addZ,getD_scZ] at this
 omega
def Cg (p:Int) (a b:List Int):Prop:=∃ c:List Int,∀ n,ev a n=ev b n+p*ev c n
theorem Cg.coef {p:Int} {a b:List Int} (h:Cg p a b) (i:Nat):a.getD i 0 % p=b.getD i 0 % p:=by
 obtain⟨c,hc⟩:=h
 have:=ev_ext (a:=a) (b:=addZ b (scZ p c)) (fun n=>by rw[ev_addZ,ev_scZ,hc]) i
 rw[this,getD_addZ,getD_scZ,Int.add_mul_emod_self_left]
theorem ev_getD:∀ {a b:List Int},(∀ i,a.getD i 0=b.getD i 0)→∀ n,ev a n=ev b n
 | [],[],_,n=>rfl
 | [],b::m,h,n=>by
  have h0:=h 0
  have:=ev_getD (a:=[]) (b:=m) (fun i=>by simpa using h (i+1)) n
  simp only[ev] at this ⊢
  simp at h0
  rw[←this,←h0];simp
 | a::l,[],h,n=>by
  have h0:=h 0
  have:=ev_getD (a:=l) (b:=[]) (fun i=>by simpa using h (i+1)) n
  simp only[ev] at this ⊢
  simp at h0
  rw[this,h0];simp
 | a::l,b::m,h,n=>by
  have h0:=h 0
  have:=ev_getD (a:=l) (b:=m) (fun i=>by simpa using h (i+1)) n
  simp at h0
  simp only[ev,this,h0]
def divZ (p:Int) (l:List Int):List Int:=l.map (· / p)
theorem getD_map0 {f:Int→Int} (h:f 0=0) (l:List Int) (i:Nat):(l.map f).getD i 0=f (l.getD i 0):=by
 rw[List.getD_eq_getElem?_getD,List.getD_eq_getElem?_getD,List.getElem?_map]
 cases l[i]?<;>simp[h]
theorem cg_of {p:Int} {a b:List Int} (h:∀ i,a.getD i 0 % p=b.getD i 0 % p):Cg p a b:=by
 refine⟨addZ (divZ p a) (scZ (-1) (divZ p b)),fun n => ?_⟩
 have:=ev_getD (a:=a) (b:=addZ b (scZ p (addZ (divZ p a) (scZ (-1) (divZ p b))))) (fun i=>by
  simp only[getD_addZ,getD_scZ,divZ,getD_map0 (f:=(· / p)) (by simp)]
  have h1:=Int.emod_add_mul_ediv (a.getD i 0) p
  have h2:=Int.emod_add_mul_ediv (b.getD i 0) p
  have:=h i
  generalize a.getD i 0=x at *
  generalize b.getD i 0=y at *
  grind) n
 rw[this,ev_addZ,ev_scZ]
@[ext] structure Po (P:Pr) where
 l:List Int
 td:Td l
 rg:Rg P.p l
variable {P:Pr}
def co (f:Po P) (i:Nat):Int:=f.l.getD i 0
theorem Po.co_ext {f g:Po P} (h:∀ i,co f i=co g i):f=g:=Po.ext (td_ext f.td g.td h)
theorem co_rg (f:Po P) (i:Nat):0≤co f i∧co f i<P.p:=f.rg i
theorem co_mod (f:Po P) (i:Nat):co f i % P.p=co f i:=em_self (co_rg f i)
def mk (l:List Int):Po P:=⟨trim (l.map (· % P.p)),td_trim _,Rg.trim fun i=>by rw[getD_map0 (by simp)];exact md P.pos⟩
theorem co_mk (l:List Int) (i:Nat):co (mk l:Po P) i=l.getD i 0 % P.p:=by
 unfold co mk
 rw[trim_getD,getD_map0 (by simp)]
theorem mk_eq {a b:List Int} (h:Cg P.p a b):(mk a:Po P)=mk b:=Po.co_ext fun i=>by rw[co_mk,co_mk,h.coef]
theorem eq_of_cg {f g:Po P} (h:Cg P.p f.l g.l):f=g:=Po.co_ext fun i=>by
 have:=h.coef i
 rw[show f.l.getD i 0=co f i from rfl,show g.l.getD i 0=co g i from rfl,co_mod,co_mod] at this
 exact this
theorem mk_cg (l:List Int):Cg P.p (mk l:Po P).l l:=cg_of fun i=>by
 rw[show (mk l:Po P).l.getD i 0=co (mk l) i from rfl,co_mk,Int.emod_emod]
theorem mk_l (f:Po P):mk f.l=f:=Po.co_ext fun i=>by rw[co_mk];exact co_mod f i
instance:Add (Po P):=⟨fun f g=>mk (addZ f.l g.l)⟩
instance:Mul (Po P):=⟨fun f g=>mk (mulZ f.l g.l)⟩
instance:Neg (Po P):=⟨fun f=>mk (scZ (-1) f.l)⟩
def cn (k:Int):Po P:=mk [k]
instance:Sub (Po P):=⟨fun f g=>f + -g⟩
instance:OfNat (Po P) 0:=⟨cn 0⟩
instance:OfNat (Po P) 1:=⟨cn 1⟩
instance:Inhabited (Po P):=⟨0⟩
def X:Po P:=mk [0,1]
theorem co_add (f g:Po P) (i:Nat):co (f+g) i=(co f i+co g i) % P.p:=by
 show co (mk (addZ f.l g.l)) i=_
 rw[co_mk,getD_addZ];rfl
theorem co_neg (f:Po P) (i:Nat):co (-f) i=(-co f i) % P.p:=by
 show co (mk (scZ (-1) f.l)) i=_
 rw[co_mk,getD_scZ,Int.neg_one_mul];rfl
theorem co_cn (k:Int) (i:Nat):co (cn k:Po P) i=if i=0 then k % P.p else 0:=by
 unfold cn
 rw[co_mk]
 rcases i with _ | i<;>simp
theorem co_0 (i:Nat):co (0:Po P) i=0:=by
 show co (cn 0) i=0
 rw[co_cn];split<;>simp
inductive Ex
 | x (i:Nat)
 | c (k:Int)
 | add (a b:Ex)
 | mul (a b:Ex)
 | neg (a:Ex)
instance:Add Ex:=⟨.add⟩
instance:Mul Ex:=⟨.mul⟩
instance:Neg Ex:=⟨.neg⟩
instance:Sub Ex:=⟨fun a b => .add a (.neg b)⟩
instance:OfNat Ex 0:=⟨.c 0⟩
instance:OfNat Ex 1:=⟨.c 1⟩
def evI (r:Nat→Int):Ex→Int
 | .x i=>r i
 | .c k=>k
 | .add a b=>evI r a+evI r b
 | .mul a b=>evI r a*evI r b
 | .neg a => - evI r a
def evP (r:Nat→Po P):Ex→Po P
 | .x i=>r i
 | .c k=>cn k
 | .add a b=>evP r a+evP r b
 | .mul a b=>evP r a*evP r b
 | .neg a => - evP r a
theorem evI_add (r:Nat→Int) (a b:Ex):evI r (a+b)=evI r a+evI r b:=rfl
theorem evI_mul (r:Nat→Int) (a b:Ex):evI r (a*b)=evI r a*evI r b:=rfl
theorem evI_neg (r:Nat→Int) (a:Ex):evI r (-a) = -evI r a:=rfl
theorem evI_sub (r:Nat→Int) (a b:Ex):evI r (a-b)=evI r a + -evI r b:=rfl
theorem evI_0 (r:Nat→Int):evI r 0=0:=rfl
theorem evI_1 (r:Nat→Int):evI r 1=1:=rfl
theorem evI_x (r:Nat→Int) (i:Nat):evI r (.x i)=r i:=rfl
theorem evI_c (r:Nat→Int) (k:Int):evI r (.c k)=k:=rfl
theorem cg_ex (r:Nat→Po P):∀ e:Ex,∃ c:List Int,∀ n,ev (evP r e).l n=evI (fun i=>ev (r i).l n) e+P.p*ev c n
 | .x i=>⟨[],fun n=>by simp[evP,evI,ev]⟩
 | .c k=>by
  obtain⟨c,hc⟩:=mk_cg (P:=P) [k]
  exact⟨c,fun n=>by have:=hc n;simpa[evP,evI,ev,cn] using this⟩
 | .add a b=>by
  obtain⟨c,hc⟩:=cg_ex r a
  obtain⟨d,hd⟩:=cg_ex r b
  obtain⟨e,he⟩:=mk_cg (P:=P) (addZ (evP r a).l (evP r b).l)
  refine⟨addZ e (addZ c d),fun n => ?_⟩
  have h1:=he n
  rw[ev_addZ,hc,hd] at h1
  show ev (mk (addZ (evP r a).l (evP r b).l):Po P).l n=_
  rw[h1,ev_addZ,ev_addZ]
  simp only[evI]
  grind
 | .mul a b=>by
  obtain⟨c,hc⟩:=cg_ex r a
  obtain⟨d,hd⟩:=cg_ex r b
  obtain⟨e,he⟩:=mk_cg (P:=P) (mulZ (evP r a).l (evP r b).l)
  refine⟨addZ e (addZ (mulZ c (evP r b).l) (addZ (mulZ (evP r a).l d) (scZ (-P.p) (mulZ c d)))),fun n => ?_⟩
  have h1:=he n
  have ha:=hc n
  have hb:=hd n
  rw[ev_mulZ] at h1
  show ev (mk (mulZ (evP r a).l (evP r b).l):Po P).l n=_
  rw[h1]
  simp only[ev_addZ,ev_mulZ,ev_scZ,evI]
  generalize ev (evP r a).l n=A at *
  generalize ev (evP r b).l n=B at *
  generalize evI (fun i=>ev (r i).l n) a=A' at *
  generalize evI (fun i=>ev (r i).l n) b=B' at *
  generalize ev c n=C at *
  generalize ev d n=D at *
  generalize ev e n=E at *
  subst ha hb
  grind
 | .neg a=>by
  obtain⟨c,hc⟩:=cg_ex r a
  obtain⟨e,he⟩:=mk_cg (P:=P) (scZ (-1) (evP r a).l)
  refine⟨addZ e (scZ (-1) c),fun n => ?_⟩
  have h1:=he n
  rw[ev_scZ,hc] at h1
  show ev (mk (scZ (-1) (evP r a).l):Po P).l n=_
  rw[h1,ev_addZ,ev_scZ]
  simp only[evI]
  grind
theorem idn (r:Nat→Po P) (a b:Ex) (h:∀ r:Nat→Int,evI r a=evI r b):evP r a=evP r b:=by
 obtain⟨c,hc⟩:=cg_ex r a
 obtain⟨d,hd⟩:=cg_ex r b
 refine eq_of_cg ⟨addZ c (scZ (-1) d),fun n => ?_⟩
 rw[hc,hd,h,ev_addZ,ev_scZ]
 grind
abbrev x0:Ex:=.x 0
abbrev x1:Ex:=.x 1
abbrev x2:Ex:=.x 2
abbrev x3:Ex:=.x 3
abbrev x4:Ex:=.x 4
abbrev x5:Ex:=.x 5
def vec (l:List (Po P)) (i:Nat):Po P:=l.getD i 0
theorem rg_ (l:List (Po P)) (a b:Ex) (h:∀ r:Nat→Int,evI r a=evI r b:=by intro r;simp only[evI_add,evI_mul,evI_neg,evI_sub,evI_0,evI_1,evI_x,evI_c];grind):evP (vec l) a=evP (vec l) b:=idn _ a b h
theorem evP_add (r:Nat→Po P) (a b:Ex):evP r (a+b)=evP r a+evP r b:=rfl
theorem evP_mul (r:Nat→Po P) (a b:Ex):evP r (a*b)=evP r a*evP r b:=rfl
theorem evP_x (r:Nat→Po P) (i:Nat):evP r (.x i)=r i:=rfl
theorem vec_0 (a:Po P) (l:List (Po P)):vec (a::l) 0=a:=rfl
theorem vec_1 (a b:Po P) (l:List (Po P)):vec (a::b::l) 1=b:=rfl
theorem vec_2 (a b c:Po P) (l:List (Po P)):vec (a::b::c::l) 2=c:=rfl
theorem vec_3 (a b c d:Po P) (l:List (Po P)):vec (a::b::c::d::l) 3=d:=rfl
theorem vec_4 (a b c d e:Po P) (l:List (Po P)):vec (a::b::c::d::e::l) 4=e:=rfl
theorem vec_5 (a b c d e f:Po P) (l:List (Po P)):vec (a::b::c::d::e::f::l) 5=f:=rfl
theorem vec_6 (a b c d e f g:Po P) (l:List (Po P)):vec (a::b::c::d::e::f::g::l) 6=g:=rfl
theorem add_comm (a b:Po P):a+b=b+a:=rg_ [a,b] (x0+x1) (x1+x0)
theorem add_assoc (a b c:Po P):a+b+c=a+(b+c):=rg_ [a,b,c] (x0+x1+x2) (x0+(x1+x2))
theorem mul_comm (a b:Po P):a*b=b*a:=rg_ [a,b] (x0*x1) (x1*x0)
theorem mul_assoc (a b c:Po P):a*b*c=a*(b*c):=rg_ [a,b,c] (x0*x1*x2) (x0*(x1*x2))
theorem mul_add (a b c:Po P):a*(b+c)=a*b+a*c:=rg_ [a,b,c] (x0*(x1+x2)) (x0*x1+x0*x2)
theorem add_mul (a b c:Po P):(a+b)*c=a*c+b*c:=rg_ [a,b,c] ((x0+x1)*x2) (x0*x2+x1*x2)
theorem mul_one (a:Po P):a*1=a:=rg_ [a] (x0*1) x0
theorem one_mul (a:Po P):1*a=a:=rg_ [a] (1*x0) x0
theorem mul_zero (a:Po P):a*0=0:=rg_ [a] (x0*0) 0
theorem zero_mul (a:Po P):0*a=0:=rg_ [a] (0*x0) 0
theorem add_zero (a:Po P):a+0=a:=rg_ [a] (x0+0) x0
theorem zero_add (a:Po P):0+a=a:=rg_ [a] (0+x0) x0
theorem sub_self (a:Po P):a-a=0:=rg_ [a] (x0-x0) 0
theorem sub_add (a b:Po P):a-b+b=a:=rg_ [a,b] (x0-x1+x1) x0
theorem sub_eq_zero {a b:Po P} (h:a-b=0):a=b:=by
 have:=sub_add a b
 rw[h,zero_add] at this
 exact this.symm
theorem cn_add (a b:Int):(cn (a+b):Po P)=cn a+cn b:=rg_ [] (.c (a+b)) (.add (.c a) (.c b)) (fun _=>rfl)
theorem cn_mul (a b:Int):(cn (a*b):Po P)=cn a*cn b:=rg_ [] (.c (a*b)) (.mul (.c a) (.c b)) (fun _=>rfl)
instance:Std.Commutative (α:=Po P) (· * ·):=⟨mul_comm⟩
instance:Std.Associative (α:=Po P) (· * ·):=⟨mul_assoc⟩
instance:Std.Commutative (α:=Po P) (· + ·):=⟨add_comm⟩
instance:Std.Associative (α:=Po P) (· + ·):=⟨add_assoc⟩
end Go.Proofs.Ytlnhembcfhfpkaa.Fx
end

section
namespace Go.Proofs.Ytlnhembcfhfpkaa.Fx
open Go.RowKit Go.Proofs.Ytlnhembcfhfpkaa.M
set_option linter.unusedSimpArgs false
set_option linter.unusedVariables false
variable {P:Pr}
def dg (f:Po P):Nat:=f.l.length
def lc (f:Po P):Int:=co f (dg f-1)
theorem co_big {f:Po P} {i:Nat} (h:dg f≤i):co f i=0:=getD_big h
theorem dg_0:dg (0:Po P)=0:=by
 rcases Nat.eq_zero_or_pos (dg (0:Po P)) with h | h
 ·exact h
 ·exfalso
  have:=td_last (0:Po P).td (by intro e;unfold dg at h;rw[e] at h;simp at h)
  exact this (co_0 _)
theorem dg_eq_0 {f:Po P}:dg f=0↔f=0:=by
 refine⟨fun h=>Po.co_ext fun i => ?_,fun h=>by rw[h,dg_0]⟩
 rw[co_big (by omega),co_0]
theorem dg_pos {f:Po P} (h:f≠0):0<dg f:=by
 rcases Nat.eq_zero_or_pos (dg f) with h1 | h1
 ·exact absurd (dg_eq_0.1 h1) h
 ·exact h1
theorem ne_0 {f:Po P} (h:0<dg f):f≠0:=by
 rintro rfl
 rw[dg_0] at h;omega
theorem lc_ne {f:Po P} (h:f≠0):lc f≠0:=td_last f.td (by
 have:=dg_pos h
 intro e;unfold dg at this;rw[e] at this;simp at this)
theorem lc_pos {f:Po P} (h:f≠0):0<lc f∧lc f<P.p:=by
 have h1:=lc_ne h
 have h2:=co_rg f (dg f-1)
 unfold lc at *
 omega
theorem dg_le {f:Po P} {n:Nat} (h:∀ i,n≤i→co f i=0):dg f≤n:=by
 have:=trim_len_of (l:=f.l) (n:=n) h
 rw[show trim f.l=f.l from f.td] at this
 exact this
theorem dg_eq {f:Po P} {n:Nat} (h:∀ i,n<i→co f i=0) (h1:co f n≠0):dg f=n+1:=by
 have h2:dg f≤n+1:=dg_le fun i hi=>h i (by omega)
 rcases Nat.lt_or_ge n (dg f) with h3 | h3
 ·omega
 ·exact absurd (co_big h3) h1
theorem dg_add_le (f g:Po P):dg (f+g)≤max (dg f) (dg g):=dg_le fun i hi=>by
 rw[co_add,co_big (by omega),co_big (by omega)];simp
theorem dg_neg (f:Po P):dg (-f)≤dg f:=dg_le fun i hi=>by rw[co_neg,co_big hi];simp
theorem dg_sub_le (f g:Po P):dg (f-g)≤max (dg f) (dg g):=by
 have h1:=dg_add_le f (-g)
 have h2:=dg_neg g
 show dg (f + -g)≤_
 omega
theorem dg_cn_le (k:Int):dg (cn k:Po P)≤1:=dg_le fun i hi=>by rw[co_cn,if_neg (by omega)]
theorem cn_ne {k:Int} (h:0<k∧k<P.p):(cn k:Po P)≠0:=by
 intro e
 have:=congrArg (fun f=>co f 0) e
 simp only[co_cn,co_0,if_true] at this
 rw[em_self (by omega)] at this
 omega
theorem dg_1:dg (1:Po P)=1:=by
 have h1:dg (1:Po P)≤1:=dg_cn_le 1
 have h2:=dg_pos (f:=(1:Po P)) (cn_ne (by have:=P.p2;omega))
 omega
theorem one_ne:(1:Po P)≠0:=cn_ne (by have:=P.p2;omega)
theorem eq_cn {f:Po P} (h:dg f≤1):f=cn (co f 0):=Po.co_ext fun i=>by
 rw[co_cn]
 split
 ·rename_i e;rw[e,co_mod]
 ·exact co_big (by omega)
theorem S_cons (a:Int) (f g:List Int) (k:Nat):∀ n,S (a::f) g k (n+1)=a*g.getD k 0+(if k=0 then 0 else S f g (k-1) n)
 | 0=>by simp[S]
 | n+1=>by
  have ih:=S_cons a f g k n
  rw[S,ih]
  by_cases hk:k=0
  ·subst hk;simp
  ·rw[if_neg hk,if_neg hk,S]
   by_cases h:n+1≤k
   ·rw[if_pos h,if_pos (by omega),show k-1-n=k-(n+1) by omega]
    simp only[List.getD_cons_succ]
    omega
   ·rw[if_neg h,if_neg (by omega)];omega
theorem getD_mulZ:∀ (f g:List Int) (k:Nat),(mulZ f g).getD k 0=S f g k (k+1)
 | [],g,k=>by rw[S_nil (.inl rfl)];simp[mulZ]
 | a::f,g,k=>by
  rw[S_cons,mulZ,getD_addZ,getD_scZ]
  rcases k with _ | k
  ·simp
  ·simp only[List.getD_cons_succ,Nat.add_sub_cancel,if_neg (Nat.succ_ne_zero k)]
   rw[getD_mulZ f g k]
theorem co_mul (f g:Po P) (k:Nat):co (f*g) k=S f.l g.l k (k+1) % P.p:=by
 show co (mk (mulZ f.l g.l)) k=_
 rw[co_mk,getD_mulZ]
theorem mul_l (f g:Po P):(f*g).l=mulP f.l g.l P.p:=td_ext (f*g).td (mulP_td _ _ _) fun i=>by
 rw[mulP_getD,←co_mul];rfl
theorem add_l (f g:Po P):(f+g).l=addP f.l g.l P.p:=td_ext (f+g).td (td_trim _) fun i=>by
 rw[addP_getD];exact co_add f g i
theorem S_top {f g:List Int} {m n:Nat} (hf:∀ i,m<i→f.getD i 0=0) (hg:∀ i,n<i→g.getD i 0=0):∀ K,S f g (m+n) K=if m<K then f.getD m 0*g.getD n 0 else 0
 | 0=>by simp[S]
 | a+1=>by
  rw[S,S_top hf hg a]
  rcases Nat.lt_trichotomy a m with h | h | h
  ·rw[if_neg (show ¬ m<a by omega),if_pos (show a≤m+n by omega),if_neg (show ¬ m<a+1 by omega),hg (m+n-a) (by omega)];simp
  ·subst h
   rw[if_neg (show ¬ a<a by omega),if_pos (show a≤a+n by omega),if_pos (show a<a+1 by omega),Nat.add_sub_cancel_left];omega
  ·rw[if_pos h,if_pos (show m<a+1 by omega),hf a h];split<;>simp
theorem int_prime {p a b:Int} (hp:IsP p) (ha:0<a∧a<p) (hb:0<b∧b<p):(a*b) % p≠0:=by
 intro h
 have hi:=(invP_ok hp.1 ha.1 ha.2).2.2
 generalize invP a p=c at hi
 have h1:(c*(a*b)) % p=0:=by rw[Int.mul_emod,h];simp
 have h2:(c*(a*b)) % p=b:=by
  rw[show c*(a*b)=a*c*b by grind,Int.mul_emod,hi,Int.one_mul,Int.emod_emod,em_self (by omega)]
 omega
theorem mul_top {f g:Po P} (hf:f≠0) (hg:g≠0):dg (f*g)+1=dg f+dg g∧lc (f*g)=lc f*lc g % P.p:=by
 have h1:=dg_pos hf
 have h2:=dg_pos hg
 have h3:co (f*g) (dg f-1+(dg g-1))=lc f*lc g % P.p:=by
  rw[co_mul,S_top (m:=dg f-1) (n:=dg g-1) (fun i hi=>co_big (by omega)) (fun i hi=>co_big (by omega)),if_pos (by omega)]
  rfl
 have h4:dg (f*g)=dg f-1+(dg g-1)+1:=dg_eq (fun i hi=>by
  rw[co_mul]
  have:∀ K,S f.l g.l i K=0:=by
   intro K
   induction K with
   | zero=>rfl
   | succ a ih =>
    rw[S,ih]
    split
    ·by_cases ha:dg f≤a
     ·rw[show f.l.getD a 0=0 from co_big ha];simp
     ·rw[show g.l.getD (i-a) 0=0 from co_big (show dg g≤i-a by omega)];simp
    ·rfl
  rw[this];simp) (by rw[h3];exact int_prime P.h (lc_pos hf) (lc_pos hg))
 refine⟨by omega,?_⟩
 rw[←h3]
 unfold lc
 rw[h4,Nat.add_sub_cancel]
theorem dg_mul {f g:Po P} (hf:f≠0) (hg:g≠0):dg (f*g)+1=dg f+dg g:=(mul_top hf hg).1
theorem mul_ne {f g:Po P} (hf:f≠0) (hg:g≠0):f*g≠0:=ne_0 (by have:=dg_mul hf hg;have:=dg_pos hf;have:=dg_pos hg;omega)
theorem mul_ne_l {f g:Po P} (h:f*g≠0):f≠0:=by rintro rfl;exact h (zero_mul _)
theorem mul_ne_r {f g:Po P} (h:f*g≠0):g≠0:=by rintro rfl;exact h (mul_zero _)
theorem mul_cancel {a b c:Po P} (ha:a≠0) (h:a*b=a*c):b=c:=by
 apply Classical.byContradiction
 intro hn
 have h1:b-c≠0:=fun e=>hn (sub_eq_zero e)
 have h2:a*(b-c)=0:=by
  rw[show a*(b-c)=a*b-a*c from rg_ [a,b,c] (x0*(x1-x2)) (x0*x1-x0*x2),h,sub_self]
 exact mul_ne ha h1 h2
theorem cn_inv {k:Int} (h:0<k∧k<P.p):(cn k:Po P)*cn (invP k P.p)=1:=by
 rw[←cn_mul]
 have:=(invP_ok P.h.1 h.1 h.2).2.2
 refine Po.co_ext fun i => ?_
 rw[co_cn,show co (1:Po P) i=co (cn 1) i from rfl,co_cn]
 split
 ·rw[this,em_self (by have:=P.p2;omega)]
 ·rfl
def Mo (f:Po P):Prop:=lc f=1
theorem Mo.ne {f:Po P} (h:Mo f):f≠0:=by
 rintro rfl
 unfold Mo lc at h
 rw[co_0] at h;omega
theorem mo_1:Mo (1:Po P):=by
 unfold Mo lc
 rw[dg_1,show co (1:Po P) (1-1)=co (cn 1) 0 from rfl,co_cn,if_pos rfl,em_self (by have:=P.p2;omega)]
theorem Mo.mul {f g:Po P} (hf:Mo f) (hg:Mo g):Mo (f*g):=by
 unfold Mo at *
 rw[(mul_top (Mo.ne hf) (Mo.ne hg)).2,hf,hg,Int.one_mul,em_self (by have:=P.p2;omega)]
theorem Mo.left {f g:Po P} (h:Mo (f*g)) (hf:Mo f):Mo g:=by
 have h1:=mul_top (Mo.ne hf) (mul_ne_r (Mo.ne h))
 unfold Mo at *
 rw[h,hf,Int.one_mul] at h1
 have h3:=co_rg g (dg g-1)
 have h2:=h1.2
 unfold lc at *
 rw[em_self h3] at h2
 exact h2.symm
theorem Mo.one {f:Po P} (h:Mo f) (h1:dg f≤1):f=1:=by
 have h2:=dg_pos h.ne
 have h3:co f 0=1:=by
  have h4:=h
  unfold Mo lc at h4
  rw[show dg f=1 by omega] at h4
  exact h4
 rw[eq_cn h1,h3];rfl
noncomputable def mon (f:Po P):Po P:=cn (lu f.l P.p)*f
theorem co_cn_mul (k:Int) (f:Po P) (i:Nat):co (cn k*f) i=(co f i*k) % P.p:=by
 have h1:∀ K,S (cn k:Po P).l f.l i (K+1)=(k % P.p)*co f i:=by
  intro K
  induction K with
  | zero =>
   simp only[S,Nat.zero_le,if_true,Nat.sub_zero]
   rw[show (cn k:Po P).l.getD 0 0=co (cn k) 0 from rfl,co_cn,if_pos rfl]
   simp[co]
  | succ a ih =>
   rw[S,ih,show (cn k:Po P).l.getD (a+1) 0=co (cn k) (a+1) from rfl,co_cn,if_neg (show ¬ a+1=0 by omega)]
   simp
 rw[co_mul,h1,Int.mul_comm,Int.mul_emod,Int.emod_emod,←Int.mul_emod]
theorem mon_l (f:Po P):(mon f).l=monP f.l P.p:=by
 refine td_ext (mon f).td ?_ fun i => ?_
 ·by_cases h:f=0
  ·subst h
   have:(0:Po P).l=[]:=List.eq_nil_of_length_eq_zero dg_0
   rw[this];rfl
  ·refine td_of_last fun _ => ?_
   rw[monP_len]
   unfold monP
   rw[scP_getD]
   have h1:=lc_pos h
   have h2:=invP_ok P.h.1 h1.1 h1.2
   have h3:=h2.2.2
   show lc f*invP (lc f) P.p % P.p≠0
   rw[h3];omega
 ·unfold monP
  rw[scP_getD]
  exact co_cn_mul _ f i
theorem mon_mo {f:Po P} (h:f≠0):Mo (mon f):=by
 have h1:=lc_pos h
 have h2:=(invP_ok P.h.1 h1.1 h1.2).2.2
 unfold Mo lc
 rw[show dg (mon f)=dg f by unfold dg;rw[mon_l,monP_len]]
 unfold mon
 rw[co_cn_mul]
 exact h2
theorem mon_dg (f:Po P):dg (mon f)=dg f:=by unfold dg;rw[mon_l,monP_len]
theorem mon_back {f:Po P} (h:f≠0):cn (lc f)*mon f=f:=by
 have h1:=cn_inv (lc_pos h)
 unfold mon
 rw[←mul_assoc]
 show cn (lc f)*cn (invP (lc f) P.p)*f=f
 rw[h1,one_mul]
instance:Dvd (Po P):=⟨fun a b => ∃ c,b=a*c⟩
theorem dvd_refl (a:Po P):a∣a:=⟨1,(mul_one a).symm⟩
theorem dvd_trans {a b c:Po P} (h:a∣b) (h':b∣c):a∣c:=by
 obtain⟨x,rfl⟩:=h
 obtain⟨y,rfl⟩:=h'
 exact⟨x*y,mul_assoc a x y⟩
theorem dvd_mul_r (a b:Po P):a∣a*b:=⟨b,rfl⟩
theorem dvd_mul_l (a b:Po P):a∣b*a:=⟨b,mul_comm b a⟩
theorem dvd_mul_of {a b:Po P} (h:a∣b) (c:Po P):a∣b*c:=dvd_trans h (dvd_mul_r b c)
theorem dvd_mul_of' {a b:Po P} (h:a∣b) (c:Po P):a∣c*b:=dvd_trans h (dvd_mul_l b c)
theorem dvd_add {a b c:Po P} (h:a∣b) (h':a∣c):a∣b+c:=by
 obtain⟨x,rfl⟩:=h
 obtain⟨y,rfl⟩:=h'
 exact⟨x+y,(mul_add a x y).symm⟩
theorem dvd_neg {a b:Po P} (h:a∣b):a∣-b:=by
 obtain⟨x,rfl⟩:=h
 exact⟨-x,rg_ [a,x] (-(x0*x1)) (x0 * -x1)⟩
theorem dvd_sub {a b c:Po P} (h:a∣b) (h':a∣c):a∣b-c:=dvd_add h (dvd_neg h')
theorem dvd_0 (a:Po P):a∣0:=⟨0,(mul_zero a).symm⟩
theorem one_dvd (a:Po P):1∣a:=⟨a,(one_mul a).symm⟩
theorem dvd_of_add {a b c:Po P} (h:a∣b+c) (h':a∣b):a∣c:=by
 have:=dvd_sub h h'
 rwa[show b+c-b=c from rg_ [b,c] (x0+x1-x0) x1] at this
theorem mul_dvd {a b c d:Po P} (h:a∣b) (h':c∣d):a*c∣b*d:=by
 obtain⟨x,rfl⟩:=h
 obtain⟨y,rfl⟩:=h'
 exact⟨x*y,rg_ [a,x,c,y] (x0*x1*(x2*x3)) (x0*x2*(x1*x3))⟩
theorem dg_dvd {a b:Po P} (h:a∣b) (hb:b≠0):dg a≤dg b:=by
 obtain⟨x,rfl⟩:=h
 have:=dg_mul (mul_ne_l hb) (mul_ne_r hb)
 have:=dg_pos (mul_ne_r hb)
 omega
theorem dvd_eq {a b:Po P} (h:a∣b) (ha:Mo a) (hb:Mo b) (hd:dg b≤dg a):a=b:=by
 obtain⟨x,rfl⟩:=h
 have h1:=dg_mul ha.ne (mul_ne_r hb.ne)
 have h2:=Mo.one (Mo.left hb ha) (by omega)
 rw[h2,mul_one]
theorem dvd_anti {a b:Po P} (h:a∣b) (h':b∣a) (ha:Mo a) (hb:Mo b):a=b:=dvd_eq h ha hb (dg_dvd h' ha.ne)
theorem mon_dvd {f:Po P} (h:f≠0):mon f∣f:=⟨cn (lc f),by rw[mul_comm,mon_back h]⟩
theorem dvd_mon (f:Po P):f∣mon f:=⟨cn (lu f.l P.p),by unfold mon;rw[mul_comm]⟩
theorem pl (f:Po P):Pl P.p (dg f) f.l:=⟨f.rg,f.td,Nat.le_refl _⟩
theorem l_ne {f:Po P} (h:f≠0):f.l≠[]:=by
 have:=dg_pos h
 intro e
 unfold dg at this
 rw[e] at this
 simp at this
theorem nil_of {f:Po P} (h:f.l=[]):f=0:=dg_eq_0.1 (by unfold dg;rw[h];rfl)
theorem l_0:(0:Po P).l=[]:=List.eq_nil_of_length_eq_zero dg_0
noncomputable def qo (f g:Po P):Po P:=⟨quo f.l g.l P.p,quoP_td,quoP_rg P.pos⟩
noncomputable def rm (f g:Po P):Po P:=⟨rem f.l g.l P.p,remP_td f.td,remP_rg P.pos f.rg⟩
theorem div_eq (f:Po P) {g:Po P} (hg:g≠0):f=qo f g*g+rm f g:=by
 have:=div_law P.h (pl f) (pl g) (l_ne hg)
 apply Po.ext
 rw[add_l,mul_l]
 exact this.symm
theorem rm_dg (f:Po P) {g:Po P} (hg:g≠0):dg (rm f g)<dg g:=(rem_pl P.h (pl f) (pl g) (l_ne hg)).2
theorem rm_0 {f g:Po P} (hg:g≠0) (h:g∣f):rm f g=0:=by
 have h1:=div_eq f hg
 have h2:g∣rm f g:=dvd_of_add (h1 ▸ h) (dvd_mul_l g _)
 apply Classical.byContradiction
 intro h3
 have:=dg_dvd h2 h3
 have:=rm_dg f hg
 omega
theorem qo_mul {f g:Po P} (hg:g≠0) (h:g∣f):qo f g*g=f:=by
 have:=div_eq f hg
 rw[rm_0 hg h,add_zero] at this
 exact this.symm
theorem dvd_rm {f g:Po P} (hg:g≠0):g∣f-rm f g:=⟨qo f g,by
 have h:=div_eq f hg
 generalize rm f g=r at *
 generalize qo f g=q at *
 rw[h]
 exact rg_ [q,g,r] (x0*x1+x2-x2) (x1*x0)⟩
theorem rm_unique {f g r:Po P} (hg:g≠0) (h:g∣f-r) (hr:dg r<dg g):rm f g=r:=by
 have h1:g∣r-rm f g:=by
  have:=dvd_sub (dvd_rm (f:=f) hg) h
  rwa[show f-rm f g-(f-r)=r-rm f g from rg_ [f,rm f g,r] (x0-x1-(x0-x2)) (x2-x1)] at this
 apply Classical.byContradiction
 intro h2
 have h3:r-rm f g≠0:=fun e=>h2 (sub_eq_zero e).symm
 have:=dg_dvd h1 h3
 have:=dg_sub_le r (rm f g)
 have:=rm_dg f hg
 omega
theorem gcd_ex:∀ (n:Nat) (f g:Po P),dg g≤n→∃ d:Po P,d.l=gcdP P.p n f.l g.l∧d∣f∧d∣g∧(∃ u v,d=u*f+v*g)∧(f≠0∨g≠0→Mo d):=by
 have base:∀ f g:Po P,g=0→∃ d:Po P,d.l=monP f.l P.p∧d∣f∧d∣g∧(∃ u v,d=u*f+v*g)∧(f≠0∨g≠0→Mo d):=by
  intro f g hg
  refine⟨mon f,mon_l f,?_,by rw[hg];exact dvd_0 _,⟨cn (lu f.l P.p),0,by rw[zero_mul,add_zero];rfl⟩,fun h => ?_⟩
  ·by_cases hf:f=0
   ·rw[hf];exact dvd_0 _
   ·exact mon_dvd hf
  ·rcases h with h | h
   ·exact mon_mo h
   ·exact absurd hg h
 intro n
 induction n with
 | zero=>intro f g hn;exact base f g (dg_eq_0.1 (by omega))
 | succ n ih =>
  intro f g hn
  by_cases hg:g=0
  ·rw[gcdP,if_pos (by rw[hg];exact l_0)]
   exact base f g hg
  ·rw[gcdP,if_neg (l_ne hg)]
   have h1:=rm_dg f hg
   obtain⟨d,e,hd1,hd2,⟨u,v,huv⟩,hm⟩:=ih g (rm f g) (by omega)
   have h2:=div_eq f hg
   refine⟨d,e,?_,hd1,⟨v,u-v*qo f g,?_⟩,fun _=>hm (.inl hg)⟩
   ·rw[h2];exact dvd_add (dvd_mul_of' hd1 _) hd2
   ·rw[huv]
    generalize rm f g=r at *
    generalize qo f g=q at *
    rw[h2]
    exact rg_ [u,g,v,r,q] (x0*x1+x2*x3) (x2*(x4*x1+x3)+(x0-x2*x4)*x1)
noncomputable def gc (f g:Po P):Po P:=(gcd_ex (dg g) f g (Nat.le_refl _)).choose
theorem gc_l (f g:Po P):(gc f g).l=gcdP P.p g.l.length f.l g.l:=(gcd_ex (dg g) f g (Nat.le_refl _)).choose_spec.1
theorem gc_dl (f g:Po P):gc f g∣f:=(gcd_ex (dg g) f g (Nat.le_refl _)).choose_spec.2.1
theorem gc_dr (f g:Po P):gc f g∣g:=(gcd_ex (dg g) f g (Nat.le_refl _)).choose_spec.2.2.1
theorem gc_lin (f g:Po P):∃ u v,gc f g=u*f+v*g:=(gcd_ex (dg g) f g (Nat.le_refl _)).choose_spec.2.2.2.1
theorem gc_mo {f g:Po P} (h:f≠0∨g≠0):Mo (gc f g):=(gcd_ex (dg g) f g (Nat.le_refl _)).choose_spec.2.2.2.2 h
theorem dvd_gc {a f g:Po P} (hf:a∣f) (hg:a∣g):a∣gc f g:=by
 obtain⟨u,v,h⟩:=gc_lin f g
 rw[h]
 exact dvd_add (dvd_mul_of' hf _) (dvd_mul_of' hg _)
def Cop (a b:Po P):Prop:=∃ u v,u*a+v*b=1
theorem Cop.symm {a b:Po P} (h:Cop a b):Cop b a:=by
 obtain⟨u,v,h⟩:=h
 exact⟨v,u,by rw[add_comm];exact h⟩
theorem Cop.dvd {a b c:Po P} (h:Cop a b) (hd:a∣b*c):a∣c:=by
 obtain⟨u,v,h⟩:=h
 have:c=u*c*a+v*(b*c):=by
  calc c=1*c:=(one_mul c).symm
   _=(u*a+v*b)*c:=by rw[h]
   _=_:=rg_ [u,a,v,b,c] ((x0*x1+x2*x3)*x4) (x0*x4*x1+x2*(x3*x4))
 rw[this]
 exact dvd_add (dvd_mul_l _ _) (dvd_mul_of' hd _)
theorem Cop.mul {a b c:Po P} (h:Cop a c) (h':Cop b c):Cop (a*b) c:=by
 obtain⟨u,v,h⟩:=h
 obtain⟨s,t,h'⟩:=h'
 refine⟨u*s,u*a*t+v*s*b+v*t*c,?_⟩
 have e:=rg_ [u,s,a,b,t,c,v] (x0*x1*(x2*x3)+(x0*x2*x4 + .x 6*x1*x3 + .x 6*x4*x5)*x5) ((x0*x2 + .x 6*x5)*(x1*x3+x4*x5))
 simp only[evP_add,evP_mul,evP_x,vec_0,vec_1,vec_2,vec_3,vec_4,vec_5,vec_6] at e
 rw[e,h,h',mul_one]
theorem Cop.mul_dvd {a b c:Po P} (h:Cop a b) (ha:a∣c) (hb:b∣c):a*b∣c:=by
 obtain⟨x,rfl⟩:=ha
 exact Fx.mul_dvd (dvd_refl a) (h.symm.dvd hb)
theorem cop_gc {a b:Po P} (h:dg (gc a b)≤1) (hne:a≠0∨b≠0):Cop a b:=by
 have h1:=Mo.one (gc_mo hne) h
 obtain⟨u,v,h2⟩:=gc_lin a b
 exact⟨u,v,by rw[←h2,h1]⟩
structure Irr (q:Po P):Prop where
 mo:Mo q
 d2:2≤dg q
 ir:∀ a b,q=a*b→dg a≤1∨dg b≤1
theorem Irr.ne {q:Po P} (h:Irr q):q≠0:=h.mo.ne
theorem Irr.cop {q:Po P} (h:Irr q) (a:Po P):q∣a∨Cop q a:=by
 have hm:=gc_mo (f:=q) (g:=a) (.inl h.ne)
 obtain⟨e,he⟩:=gc_dl q a
 rcases h.ir _ _ he with h1 | h1
 ·exact .inr (cop_gc h1 (.inl h.ne))
 ·have h2:Mo e:=Mo.left (he ▸ h.mo) hm
  have h3:=Mo.one h2 h1
  rw[h3,mul_one] at he
  exact .inl (he ▸ gc_dr q a)
theorem Irr.pr {q a b:Po P} (h:Irr q) (hd:q∣a*b):q∣a∨q∣b:=by
 rcases h.cop a with h1 | h1
 ·exact .inl h1
 ·exact .inr (h1.dvd hd)
theorem Irr.not_one {q:Po P} (h:Irr q):¬ q∣1:=fun hd=>by
 have:=dg_dvd hd one_ne
 have:=h.d2
 rw[dg_1] at *
 omega
theorem Irr.eq {q r:Po P} (h:Irr q) (h':Irr r) (hd:q∣r):q=r:=by
 obtain⟨e,he⟩:=hd
 rcases h'.ir _ _ he with h1 | h1
 ·have:=h.d2;omega
 ·have:=Mo.one (Mo.left (he ▸ h'.mo) h.mo) h1
  rw[he,this,mul_one]
theorem irr_ex:∀ (n:Nat) (f:Po P),dg f≤n→2≤dg f→∃ q,Irr q∧q∣f:=by
 intro n
 induction n with
 | zero=>intro f h h2;omega
 | succ n ih =>
  intro f h h2
  have hf:f≠0:=ne_0 (by omega)
  by_cases hi:∀ a b,mon f=a*b→dg a≤1∨dg b≤1
  ·exact⟨mon f,⟨mon_mo hf,by rw[mon_dg];exact h2,hi⟩,mon_dvd hf⟩
  ·obtain⟨a,b,he,h3,h4⟩:∃ a b,mon f=a*b∧¬ dg a≤1∧¬ dg b≤1:=by
    apply Classical.byContradiction
    intro hn
    apply hi
    intro a b he
    apply Classical.byContradiction
    intro h5
    exact hn ⟨a,b,he,fun h6=>h5 (.inl h6),fun h6=>h5 (.inr h6)⟩
   have h5:=dg_mul (f:=a) (g:=b) (ne_0 (by omega)) (ne_0 (by omega))
   rw[←he,mon_dg] at h5
   obtain⟨q,hq,hd⟩:=ih a (by omega) (by omega)
   exact⟨q,hq,dvd_trans hd (dvd_trans ⟨b,he⟩ (mon_dvd hf))⟩
theorem irr_of {f:Po P} (h:2≤dg f):∃ q,Irr q∧q∣f:=irr_ex _ f (Nat.le_refl _) h
end Go.Proofs.Ytlnhembcfhfpkaa.Fx
end

section
namespace Go.Proofs.Ytlnhembcfhfpkaa.Fx
open Go.RowKit Go.Proofs.Ytlnhembcfhfpkaa.M
set_option linter.unusedSimpArgs false
set_option linter.unusedVariables false
variable {P:Pr}
def pw (a:Po P):Nat→Po P
 | 0=>1
 | n+1=>pw a n*a
theorem pw_0 (a:Po P):pw a 0=1:=rfl
theorem pw_s (a:Po P) (n:Nat):pw a (n+1)=pw a n*a:=rfl
theorem pw_1 (a:Po P):pw a 1=a:=one_mul a
theorem pw_add (a:Po P) (m:Nat):∀ n,pw a (m+n)=pw a m*pw a n
 | 0=>(mul_one _).symm
 | n+1=>by rw[←Nat.add_assoc,pw_s,pw_add a m n,pw_s,mul_assoc]
theorem pw_mul (a b:Po P):∀ n,pw (a*b) n=pw a n*pw b n
 | 0=>(mul_one _).symm
 | n+1=>by
  rw[pw_s,pw_s,pw_s,pw_mul a b n]
  exact rg_ [pw a n,pw b n,a,b] (x0*x1*(x2*x3)) (x0*x2*(x1*x3))
theorem pw_pw (a:Po P) (m:Nat):∀ n,pw a (m*n)=pw (pw a m) n
 | 0=>rfl
 | n+1=>by rw[Nat.mul_succ,pw_add,pw_pw a m n,pw_s]
theorem pw_one:∀ n,pw (1:Po P) n=1
 | 0=>rfl
 | n+1=>by rw[pw_s,pw_one n,mul_one]
theorem pw_ne {a:Po P} (h:a≠0):∀ n,pw a n≠0
 | 0=>one_ne
 | n+1=>mul_ne (pw_ne h n) h
theorem pw_mo {a:Po P} (h:Mo a):∀ n,Mo (pw a n)
 | 0=>mo_1
 | n+1=>(pw_mo h n).mul h
theorem pw_dg {a:Po P} (h:2≤dg a):∀ n,n+1≤dg (pw a n)
 | 0=>by rw[pw_0,dg_1];omega
 | n+1=>by
  have ha:a≠0:=ne_0 (by omega)
  have h1:=dg_mul (pw_ne ha n) ha
  have h2:=pw_dg h n
  rw[pw_s];omega
theorem pw_dvd (a:Po P) {m n:Nat} (h:m≤n):pw a m∣pw a n:=by
 obtain⟨k,rfl⟩:∃ k,n=m+k:=⟨n-m,by omega⟩
 rw[pw_add];exact dvd_mul_r _ _
theorem pw_zero (n:Nat) (h:n≠0):pw (0:Po P) n=0:=by
 obtain⟨k,rfl⟩:∃ k,n=k+1:=⟨n-1,by omega⟩
 rw[pw_s,mul_zero]
theorem Irr.pw {q a:Po P} (h:Irr q):∀ {n:Nat},q∣pw a n→q∣a
 | 0,hd=>absurd hd h.not_one
 | n+1,hd=>by
  rcases h.pr hd with h1 | h1
  ·exact h.pw h1
  ·exact h1
def Vq (q f:Po P) (e:Nat):Prop:=pw q e∣f∧¬ pw q (e+1)∣f
theorem vq_ex {q f:Po P} (hq:2≤dg q) (hf:f≠0):∃ e,Vq q f e:=by
 apply Classical.byContradiction
 intro hn
 have:∀ e,pw q e∣f:=by
  intro e
  induction e with
  | zero=>exact one_dvd f
  | succ e ih =>
   apply Classical.byContradiction
   intro h
   exact hn ⟨e,ih,h⟩
 have h1:=dg_dvd (this (dg f)) hf
 have h2:=pw_dg hq (dg f)
 omega
theorem vq_unique {q f:Po P} {d e:Nat} (h:Vq q f d) (h':Vq q f e):d=e:=by
 rcases Nat.lt_trichotomy d e with hlt | he | hgt
 ·exact absurd (dvd_trans (pw_dvd q hlt) h'.1) h.2
 ·exact he
 ·exact absurd (dvd_trans (pw_dvd q hgt) h.1) h'.2
open Classical in
noncomputable def val (q f:Po P):Nat:=if h:∃ e,Vq q f e then h.choose else 0
theorem val_eq {q f:Po P} {e:Nat} (h:Vq q f e):val q f=e:=by
 have hx:∃ e,Vq q f e:=⟨e,h⟩
 unfold val
 rw[dif_pos hx]
 exact vq_unique hx.choose_spec h
theorem val_spec {q f:Po P} (hq:Irr q) (hf:f≠0):Vq q f (val q f):=by
 obtain⟨e,he⟩:=vq_ex hq.d2 hf
 rw[val_eq he];exact he
theorem val_of {q h:Po P} (hq:Irr q) (e:Nat) (hn:¬ q∣h):val q (pw q e*h)=e:=val_eq ⟨dvd_mul_r _ _,fun hd=>by
 obtain⟨x,hx⟩:=hd
 rw[pw_s,mul_assoc] at hx
 have:=mul_cancel (pw_ne hq.ne e) hx
 exact hn ⟨x,this⟩⟩
theorem val_split {q f:Po P} (hq:Irr q) (hf:f≠0):∃ h,f=pw q (val q f)*h∧¬ q∣h:=by
 obtain⟨⟨h,h1⟩,h2⟩:=val_spec hq hf
 refine⟨h,h1,fun hd=>h2 ?_⟩
 obtain⟨x,rfl⟩:=hd
 exact⟨x,by rw[pw_s,mul_assoc];exact h1⟩
theorem pw_dvd_iff {q f:Po P} (hq:Irr q) (hf:f≠0) (e:Nat):pw q e∣f↔e≤val q f:=by
 obtain⟨h1,h2⟩:=val_spec hq hf
 refine⟨fun h => ?_,fun h=>dvd_trans (pw_dvd q h) h1⟩
 rcases Nat.lt_or_ge (val q f) e with hlt | hge
 ·exact absurd (dvd_trans (pw_dvd q hlt) h) h2
 ·exact hge
theorem dvd_iff {q f:Po P} (hq:Irr q) (hf:f≠0):q∣f↔1≤val q f:=by
 have:=pw_dvd_iff hq hf 1
 rwa[pw_1] at this
theorem val_mul {q f g:Po P} (hq:Irr q) (hf:f≠0) (hg:g≠0):val q (f*g)=val q f+val q g:=by
 obtain⟨a,ha,ha'⟩:=val_split hq hf
 obtain⟨b,hb,hb'⟩:=val_split hq hg
 generalize val q f=m at *
 generalize val q g=n at *
 have:f*g=pw q (m+n)*(a*b):=by
  rw[ha,hb,pw_add]
  exact rg_ [pw q m,a,pw q n,b] (x0*x1*(x2*x3)) (x0*x2*(x1*x3))
 rw[this]
 exact val_of hq _ fun h=>(hq.pr h).elim ha' hb'
theorem val_0 {q f:Po P} (h:¬ q∣f) (hq:Irr q):val q f=0:=by
 have:=val_of hq 0 h
 rwa[pw_0,one_mul] at this
theorem val_1 {q:Po P} (hq:Irr q):val q 1=0:=val_0 hq.not_one hq
theorem val_self {q:Po P} (hq:Irr q):val q q=1:=by
 have:=val_of hq 1 hq.not_one
 rwa[pw_1,mul_one] at this
theorem val_irr {q r:Po P} (hq:Irr q) (hr:Irr r) (h:q≠r):val q r=0:=val_0 (fun hd=>h (hq.eq hr hd)) hq
theorem val_pw {q f:Po P} (hq:Irr q) (hf:f≠0):∀ n,val q (pw f n)=n*val q f
 | 0=>by rw[pw_0,val_1 hq];simp
 | n+1=>by rw[pw_s,val_mul hq (pw_ne hf n) hf,val_pw hq hf n,Nat.succ_mul]
theorem val_cn {q:Po P} (hq:Irr q) {k:Int} (h:0<k∧k<P.p):val q (cn k)=0:=val_0 (fun hd=>by
 have h1:=dg_dvd hd (cn_ne h)
 have h2:=dg_cn_le (P:=P) k
 have:=hq.d2
 omega) hq
theorem val_lt {q f:Po P} (hq:Irr q) (hf:f≠0):val q f+1≤dg f:=by
 have h1:=dg_dvd (val_spec hq hf).1 hf
 have h2:=pw_dg hq.d2 (val q f)
 omega
theorem val_mon {q f:Po P} (hq:Irr q) (hf:f≠0):val q (mon f)=val q f:=by
 have h:=val_mul hq (cn_ne (lc_pos hf)) (mon_mo hf).ne
 rw[mon_back hf,val_cn hq (lc_pos hf)] at h
 omega
theorem val_dvd {q f g:Po P} (hq:Irr q) (h:f∣g) (hg:g≠0):val q f≤val q g:=by
 obtain⟨x,rfl⟩:=h
 rw[val_mul hq (mul_ne_l hg) (mul_ne_r hg)];omega
theorem val_gc {q f g:Po P} (hq:Irr q) (hf:f≠0) (hg:g≠0):val q (gc f g)=min (val q f) (val q g):=by
 have h0:=(gc_mo (f:=f) (g:=g) (.inl hf)).ne
 have h1:=val_dvd hq (gc_dl f g) hf
 have h2:=val_dvd hq (gc_dr f g) hg
 have h3:=(pw_dvd_iff hq h0 (min (val q f) (val q g))).1 (dvd_gc ((pw_dvd_iff hq hf _).2 (Nat.min_le_left _ _)) ((pw_dvd_iff hq hg _).2 (Nat.min_le_right _ _)))
 omega
theorem mo_ext:∀ (n:Nat) (f g:Po P),dg f≤n→Mo f→Mo g→(∀ q,Irr q→val q f=val q g)→f=g:=by
 intro n
 induction n with
 | zero=>intro f g hn hf;have:=dg_pos hf.ne;omega
 | succ n ih =>
  intro f g hn hf hg h
  by_cases hd:dg f≤1
  ·have h1:=hf.one hd
   by_cases hd2:dg g≤1
   ·rw[h1,hg.one hd2]
   ·obtain⟨q,hq,hqd⟩:=irr_of (f:=g) (by omega)
    have h2:=(dvd_iff hq hg.ne).1 hqd
    have h3:=h q hq
    rw[h1,val_1 hq] at h3
    omega
  ·obtain⟨q,hq,hqd⟩:=irr_of (f:=f) (by omega)
   have h2:=(dvd_iff hq hf.ne).1 hqd
   rw[h q hq] at h2
   obtain⟨a,rfl⟩:=hqd
   obtain⟨b,rfl⟩:=(dvd_iff hq hg.ne).2 h2
   have ha:=hf.left hq.mo
   have hb:=hg.left hq.mo
   have h3:=dg_mul hq.ne ha.ne
   have:=hq.d2
   rw[ih a b (by omega) ha hb fun r hr=>by
    have:=h r hr
    rw[val_mul hr hq.ne ha.ne,val_mul hr hq.ne hb.ne] at this
    omega]
theorem mo_eq {f g:Po P} (hf:Mo f) (hg:Mo g) (h:∀ q,Irr q→val q f=val q g):f=g:=mo_ext _ f g (Nat.le_refl _) hf hg h
theorem dvd_of_val {f g:Po P} (hf:Mo f) (hg:g≠0) (h:∀ q,Irr q→val q f≤val q g):f∣g:=by
 have:=mo_eq (gc_mo (f:=f) (g:=g) (.inl hf.ne)) hf fun q hq=>by rw[val_gc hq hf.ne hg];have:=h q hq;omega
 rw[←this];exact gc_dr f g
def derZ:List Int→List Int
 | []=>[]
 | a::l=>addZ l (0::derZ l)
def ev':List Int→Int→Int
 | [],_=>0
 | a::l,n=>ev l n+n*ev' l n
theorem ev_derZ:∀ (l:List Int) (n:Int),ev (derZ l) n=ev' l n
 | [],n=>rfl
 | a::l,n=>by simp only[derZ,ev_addZ,ev,ev',ev_derZ l n];omega
theorem ev'_addZ:∀ (a b:List Int) (n:Int),ev' (addZ a b) n=ev' a n+ev' b n
 | [],b,n=>by simp[addZ,ev']
 | a::l,[],n=>by simp[addZ,ev']
 | a::l,b::m,n=>by simp only[addZ,ev',ev_addZ,ev'_addZ l m];grind
theorem ev'_scZ (k:Int):∀ (l:List Int) (n:Int),ev' (scZ k l) n=k*ev' l n
 | [],n=>by simp[scZ,ev']
 | a::l,n=>by
  have h1:=ev'_scZ k l n
  have h2:=ev_scZ k l n
  simp only[scZ] at h1 h2
  simp only[scZ,List.map_cons,ev',h1,h2];grind
theorem ev'_mulZ:∀ (a b:List Int) (n:Int),ev' (mulZ a b) n=ev' a n*ev b n+ev a n*ev' b n
 | [],b,n=>by simp[mulZ,ev,ev']
 | a::l,b,n=>by simp only[mulZ,ev'_addZ,ev'_scZ,ev,ev',ev'_mulZ l b,ev_mulZ];grind
theorem getD_derZ:∀ (l:List Int) (i:Nat),(derZ l).getD i 0=((i:Int)+1)*l.getD (i+1) 0
 | [],i=>by simp[derZ]
 | a::l,i=>by
  rw[derZ,getD_addZ]
  rcases i with _ | i
  ·simp
  ·simp only[List.getD_cons_succ,getD_derZ l i,Int.natCast_add,Int.natCast_one];grind
theorem derZ_cg {p:Int} {a b:List Int} (h:Cg p a b):Cg p (derZ a) (derZ b):=cg_of fun i=>by
 rw[getD_derZ,getD_derZ,Int.mul_emod,h.coef,←Int.mul_emod]
def der (f:Po P):Po P:=mk (derZ f.l)
theorem co_der (f:Po P) (i:Nat):co (der f) i=(((i:Int)+1)*co f (i+1)) % P.p:=by
 unfold der
 rw[co_mk,getD_derZ];rfl
theorem mk_add (a b:List Int):(mk (addZ a b):Po P)=mk a+mk b:=Po.co_ext fun i=>by
 rw[co_add,co_mk,co_mk,co_mk,getD_addZ,Int.add_emod]
theorem mk_mul (a b:List Int):(mk (mulZ a b):Po P)=mk a*mk b:=by
 refine mk_eq ?_
 obtain⟨c,hc⟩:=mk_cg (P:=P) a
 obtain⟨d,hd⟩:=mk_cg (P:=P) b
 refine⟨addZ (scZ (-1) (mulZ (mk a:Po P).l d)) (scZ (-1) (mulZ c b)),fun n => ?_⟩
 have h1:=hc n
 have h2:=hd n
 simp only[ev_mulZ,ev_addZ,ev_scZ]
 grind
theorem der_mk (l:List Int):der (mk l:Po P)=mk (derZ l):=mk_eq (derZ_cg (mk_cg l))
theorem der_mul (f g:Po P):der (f*g)=der f*g+f*der g:=by
 show der (mk (mulZ f.l g.l))=_
 have e:der f*g+f*der g=mk (addZ (mulZ (derZ f.l) g.l) (mulZ f.l (derZ g.l))):=by
  rw[mk_add,mk_mul,mk_mul,mk_l,mk_l];rfl
 rw[der_mk,e]
 exact mk_eq ⟨[],fun n=>by simp only[ev_derZ,ev'_mulZ,ev_mulZ,ev_addZ,ev];grind⟩
theorem der_dg {f:Po P} (h:der f≠0):dg (der f)+1≤dg f:=by
 have h1:dg (der f)≤dg f-1:=dg_le fun i hi=>by rw[co_der,co_big (by omega)];simp
 have h2:=dg_pos h
 omega
theorem der_pw (f:Po P):∀ n,der (pw f (n+1))=cn (n+1)*pw f n*der f
 | 0=>by
  rw[pw_1,pw_0]
  show der f=1*1*der f
  rw[mul_one,one_mul]
 | n+1=>by
  rw[pw_s,der_mul,der_pw f n]
  have e:(cn (((n+1:Nat):Int)+1):Po P)=cn ((n:Int)+1)+1:=by
   rw[show (((n+1:Nat):Int)+1)=((n:Int)+1)+1 by omega,cn_add];rfl
  rw[e,pw_s]
  exact rg_ [cn ((n:Int)+1),pw f n,der f,f] (x0*x1*x2*x3+x1*x3*x2) ((x0+1)*(x1*x3)*x2)
end Go.Proofs.Ytlnhembcfhfpkaa.Fx
end

section
namespace Go.Proofs.Ytlnhembcfhfpkaa.Fx
open Go.RowKit Go.Proofs.Ytlnhembcfhfpkaa.M
set_option linter.unusedSimpArgs false
set_option linter.unusedVariables false
variable {P:Pr}
def ch:Nat→Nat→Nat
 | _,0=>1
 | 0,_+1=>0
 | n+1,k+1=>ch n k+ch n (k+1)
theorem ch_big:∀ {n k:Nat},n<k→ch n k=0
 | 0,k+1,_=>rfl
 | n+1,k+1,h=>by rw[ch,ch_big (by omega),ch_big (by omega)]
theorem ch_self:∀ n,ch n n=1
 | 0=>rfl
 | n+1=>by rw[ch,ch_self n,ch_big (by omega)]
theorem ch_0 (n:Nat):ch n 0=1:=by cases n<;>rfl
theorem ch_id:∀ (n k:Nat),(k+1)*ch (n+1) (k+1)=(n+1)*ch n k
 | 0,0=>rfl
 | 0,k+1=>by simp[ch]
 | n+1,0=>by
  have ih:=ch_id n 0
  have e:ch (n+1+1) (0+1)=ch (n+1) 0+ch (n+1) (0+1):=rfl
  rw[e,ch_0]
  rw[ch_0] at ih
  omega
 | n+1,k+1=>by
  have h1:=ch_id n k
  have h2:=ch_id n (k+1)
  have e1:ch (n+1+1) (k+1+1)=ch (n+1) (k+1)+ch (n+1) (k+1+1):=rfl
  have e2:ch (n+1) (k+1)=ch n k+ch n (k+1):=rfl
  rw[e1]
  generalize ch (n+1) (k+1+1)=z at *
  rw[e2] at h1 ⊢
  generalize ch n k=x at *
  generalize ch n (k+1)=y at *
  grind
def sm (f:Nat→Po P):Nat→Po P
 | 0=>0
 | n+1=>sm f n+f n
theorem sm_congr {f g:Nat→Po P}:∀ {n:Nat},(∀ i,i<n→f i=g i)→sm f n=sm g n
 | 0,_=>rfl
 | n+1,h=>by rw[sm,sm,sm_congr fun i hi=>h i (by omega),h n (by omega)]
theorem sm_add (f g:Nat→Po P):∀ n,sm (fun i=>f i+g i) n=sm f n+sm g n
 | 0=>(add_zero _).symm
 | n+1=>by
  rw[sm,sm_add f g n,sm,sm]
  exact rg_ [sm f n,sm g n,f n,g n] (x0+x1+(x2+x3)) (x0+x2+(x1+x3))
theorem sm_mul (f:Nat→Po P) (a:Po P):∀ n,sm (fun i=>f i*a) n=sm f n*a
 | 0=>(zero_mul _).symm
 | n+1=>by rw[sm,sm_mul f a n,sm,add_mul]
theorem sm_head (f:Nat→Po P):∀ n,sm f (n+1)=f 0+sm (fun i=>f (i+1)) n
 | 0=>by rw[sm,sm,sm,zero_add,add_zero]
 | n+1=>by rw[sm,sm_head f n,sm,add_assoc]
theorem sm_zero {f:Nat→Po P}:∀ {n:Nat},(∀ i,i<n→f i=0)→sm f n=0
 | 0,_=>rfl
 | n+1,h=>by rw[sm,sm_zero fun i hi=>h i (by omega),h n (by omega),add_zero]
def tm_ (a b:Po P) (n k:Nat):Po P:=cn (ch n k)*(pw a k*pw b (n-k))
theorem tm_0 (a b:Po P) (n:Nat):tm_ a b n 0=pw b n:=by
 unfold tm_
 rw[ch_0,pw_0,one_mul,Nat.sub_zero]
 exact one_mul _
theorem tm_big (a b:Po P) (n:Nat):tm_ a b n (n+1)=0:=by
 unfold tm_
 rw[ch_big (by omega)]
 exact zero_mul _
theorem tm_s (a b:Po P) {n k:Nat} (h:k≤n):tm_ a b (n+1) (k+1)=tm_ a b n k*a+tm_ a b n (k+1)*b:=by
 by_cases hk:k=n
 ·subst hk
  rw[tm_big,zero_mul,add_zero]
  unfold tm_
  rw[ch_self,ch_self,Nat.sub_self,Nat.sub_self,pw_s]
  exact rg_ [cn ((1:Nat):Int),pw a k,pw b 0,a] (x0*(x1*x3*x2)) (x0*(x1*x2)*x3)
 ·unfold tm_
  have e:n-k=n-(k+1)+1:=by omega
  rw[Nat.add_sub_add_right,ch,e,pw_s,pw_s,Int.natCast_add,cn_add]
  exact rg_ [cn (ch n k:Int),cn (ch n (k+1):Int),pw a k,a,pw b (n-(k+1)),b] ((x0+x1)*(x2*x3*(x4*x5))) (x0*(x2*(x4*x5))*x3+x1*(x2*x3*x4)*x5)
theorem binom (a b:Po P):∀ n,pw (a+b) n=sm (tm_ a b n) (n+1)
 | 0=>by rw[pw_0,sm,sm,zero_add,tm_0,pw_0]
 | n+1=>by
  have e:sm (fun i=>tm_ a b n (i+1)*b) (n+1)=sm (fun i=>tm_ a b n (i+1)*b) n+tm_ a b n (n+1)*b:=rfl
  rw[pw_s,binom a b n,mul_add,←sm_mul,←sm_mul,sm_head (tm_ a b (n+1)),sm_head (fun i=>tm_ a b n i*b) n,tm_0,tm_0,pw_s,
   sm_congr (f:=fun i=>tm_ a b (n+1) (i+1)) (g:=fun i=>tm_ a b n i*a+tm_ a b n (i+1)*b) fun i hi=>tm_s a b (by omega),sm_add,
   e,tm_big,zero_mul,add_zero]
  exact rg_ [sm (fun i=>tm_ a b n i*a) (n+1),pw b n*b,sm (fun i=>tm_ a b n (i+1)*b) n] (x0+(x1+x2)) (x1+(x0+x2))
def pn (P:Pr):Nat:=P.p.toNat
theorem pn_p (P:Pr):(pn P:Int)=P.p:=by have:=P.p2;unfold pn;omega
theorem pn_2 (P:Pr):2≤pn P:=by have:=P.p2;unfold pn;omega
theorem int_pr {a b:Int} (h:(a*b) % P.p=0):a % P.p=0∨b % P.p=0:=by
 apply Classical.byContradiction
 intro hn
 have h1:=md (a:=a) P.pos
 have h2:=md (a:=b) P.pos
 refine int_prime P.h (a:=a % P.p) (b:=b % P.p) ?_ ?_ (by rw[←Int.mul_emod];exact h)
 ·have:a % P.p≠0:=fun e=>hn (.inl e);omega
 ·have:b % P.p≠0:=fun e=>hn (.inr e);omega
theorem cn_mod {k:Int} (h:k % P.p=0):(cn k:Po P)=0:=Po.co_ext fun i=>by
 rw[co_cn,co_0];split
 ·exact h
 ·rfl
theorem ch_p {k:Nat} (h0:0<k) (h1:k<pn P):(cn (ch (pn P) k):Po P)=0:=by
 obtain⟨j,rfl⟩:∃ j,k=j+1:=⟨k-1,by omega⟩
 obtain⟨m,hm⟩:∃ m,pn P=m+1:=⟨pn P-1,by omega⟩
 have h:=ch_id m j
 rw[←hm] at h
 refine cn_mod ?_
 have h2:(((j+1:Nat):Int)*(ch (pn P) (j+1):Int)) % P.p=0:=by
  rw[←Int.natCast_mul,h,Int.natCast_mul,pn_p,Int.mul_emod_right]
 rcases int_pr h2 with h3 | h3
 ·have:=pn_p P
  rw[em_self (by omega)] at h3
  omega
 ·exact h3
theorem frob_add (a b:Po P):pw (a+b) (pn P)=pw a (pn P)+pw b (pn P):=by
 obtain⟨m,hm⟩:∃ m,pn P=m+1:=⟨pn P-1,by have:=pn_2 P;omega⟩
 rw[binom,sm,hm,sm_head,tm_0,sm_zero (n:=m)]
 ·unfold tm_
  rw[ch_self,Nat.sub_self,pw_0,mul_one,add_zero]
  rw[show (cn ((1:Nat):Int):Po P)=1 from rfl,one_mul,add_comm]
 ·intro i hi
  unfold tm_
  rw[←hm,ch_p (by omega) (by omega),zero_mul]
theorem frob_nat:∀ n:Nat,pw (cn n:Po P) (pn P)=cn n
 | 0=>pw_zero _ (by have:=pn_2 P;omega)
 | n+1=>by
  rw[Int.natCast_add,cn_add,frob_add,frob_nat n,show (cn ((1:Nat):Int):Po P)=1 from rfl,pw_one]
theorem cn_em (k:Int):(cn k:Po P)=cn (k % P.p):=Po.co_ext fun i=>by rw[co_cn,co_cn,Int.emod_emod]
theorem frob_cn (k:Int):pw (cn k:Po P) (pn P)=cn k:=by
 obtain⟨n,hn⟩:=Int.eq_ofNat_of_zero_le (md (a:=k) P.pos).1
 rw[cn_em,hn]
 exact frob_nat n
def sb (g:Po P):List Int→Po P
 | []=>0
 | a::l=>cn a+g*sb g l
theorem frob_sb (g:Po P):∀ l,pw (sb g l) (pn P)=sb (pw g (pn P)) l
 | []=>pw_zero _ (by have:=pn_2 P;omega)
 | a::l=>by rw[sb,frob_add,frob_cn,pw_mul,frob_sb g l,sb]
theorem co_X_mul (f:Po P) (i:Nat):co (X*f) i=if i=0 then 0 else co f (i-1):=by
 have e:X*f=mk (0::f.l):=by
  have:mulZ [0,1] f.l=addZ (scZ 0 f.l) (0::addZ (scZ 1 f.l) [0]):=rfl
  calc X*f=mk [0,1]*mk f.l:=by rw[mk_l];rfl
   _=mk (mulZ [0,1] f.l):=(mk_mul _ _).symm
   _=_:=mk_eq (cg_of fun i=>by
    rw[this,getD_addZ,getD_scZ]
    rcases i with _ | i
    ·simp
    ·simp only[List.getD_cons_succ]
     rw[getD_addZ,getD_scZ]
     rcases i with _ | i<;>simp)
 rw[e,co_mk]
 rcases i with _ | i
 ·simp
 ·simp only[List.getD_cons_succ,Nat.add_sub_cancel,if_neg (Nat.succ_ne_zero i)]
  exact co_mod f i
theorem co_Xp_mul (f:Po P):∀ (m i:Nat),co (pw X m*f) i=if i<m then 0 else co f (i-m)
 | 0,i=>by rw[pw_0,one_mul];simp
 | m+1,i=>by
  rw[pw_s,mul_comm (pw X m) X,mul_assoc,co_X_mul]
  by_cases h:i=0
  ·rw[if_pos h,if_pos (by omega)]
  ·rw[if_neg h,co_Xp_mul f m (i-1)]
   by_cases h2:i<m+1
   ·rw[if_pos (by omega),if_pos h2]
   ·rw[if_neg (by omega),if_neg h2,show i-1-m=i-(m+1) by omega]
theorem sb_X:∀ l:List Int,sb (X:Po P) l=mk l
 | []=>rfl
 | a::l=>Po.co_ext fun i=>by
  rw[sb,co_add,co_cn,co_X_mul,sb_X l]
  rcases i with _ | i
  ·rw[co_mk (a::l)];simp
  ·simp only[Nat.succ_ne_zero,if_false,Nat.add_sub_cancel,List.getD_cons_succ,Int.zero_add,co_mk,Int.emod_emod]
theorem co_sb (m:Nat) (hm:0<m):∀ (l:List Int) (i:Nat),co (sb (pw X m:Po P) l) i=if i % m=0 then l.getD (i / m) 0 % P.p else 0
 | [],i=>by rw[sb,co_0];simp
 | a::l,i=>by
  rw[sb,co_add,co_cn,co_Xp_mul,co_sb m hm l]
  by_cases h:i<m
  ·rw[if_pos h]
   by_cases h0:i=0
   ·subst h0;simp
   ·rw[if_neg h0,if_neg (by rw[Nat.mod_eq_of_lt h];exact h0)];simp
  ·rw[if_neg h,if_neg (by omega)]
   have e1:(i-m) % m=i % m:=(Nat.mod_eq_sub_mod (by omega)).symm
   have e2:i / m=(i-m) / m+1:=by
    rw[Nat.div_eq i m,if_pos ⟨hm,by omega⟩]
   rw[e1,e2,List.getD_cons_succ]
   split<;>simp
def rtl (f:List Int) (m:Nat):List Int:=(List.range ((f.length+(m-1)) / m)).map fun i=>f.getD (m*i) 0
theorem getD_rtl (f:List Int) {m:Nat} (hm:0<m) (i:Nat):(rtl f m).getD i 0=f.getD (m*i) 0:=by
 unfold rtl
 rw[getD_range_map]
 split
 ·rfl
 ·rename_i h
  rw[getD_big]
  have h1:(f.length+(m-1)) / m≤i:=by omega
  have h2:=Nat.lt_mul_div_succ (f.length+(m-1)) hm
  have h3:m*((f.length+(m-1)) / m+1)≤m*(i+1):=Nat.mul_le_mul_left _ (by omega)
  have h4:m*((f.length+(m-1)) / m+1)=m*((f.length+(m-1)) / m)+m:=Nat.mul_succ _ _
  have h5:m*(i+1)=m*i+m:=Nat.mul_succ m i
  omega
def rt (f:Po P):Po P:=mk (rtl f.l (pn P))
theorem co_rt (f:Po P) (i:Nat):co (rt f) i=co f (pn P*i):=by
 unfold rt
 rw[co_mk,getD_rtl _ (by have:=pn_2 P;omega)]
 exact co_mod f _
theorem rt_dg (f:Po P):pn P*(dg (rt f)-1)+1≤dg f∨rt f=0:=by
 by_cases h:rt f=0
 ·exact .inr h
 ·refine .inl ?_
  have h1:=lc_ne h
  unfold lc at h1
  rw[co_rt] at h1
  rcases Nat.lt_or_ge (pn P*(dg (rt f)-1)) (dg f) with h2 | h2
  ·exact h2
  ·exact absurd (co_big h2) h1
theorem co_pp (f:Po P) (i:Nat):co (pw f (pn P)) i=if i % pn P=0 then co f (i / pn P) else 0:=by
 have h:=frob_sb (X:Po P) f.l
 rw[sb_X,mk_l] at h
 rw[h,co_sb _ (by have:=pn_2 P;omega)]
 split
 ·exact co_mod f _
 ·rfl
theorem der_zero {f:Po P} (h:der f=0) {i:Nat} (hi:i % pn P≠0):co f i=0:=by
 have hi0:i≠0:=by rintro rfl;simp at hi
 obtain⟨j,rfl⟩:∃ j,i=j+1:=⟨i-1,by omega⟩
 have h1:=congrArg (fun f=>co f j) h
 simp only[co_der,co_0] at h1
 rcases int_pr h1 with h2 | h2
 ·exfalso
  apply hi
  have h3:(((j+1:Nat):Int)) % (pn P:Int)=0:=by rw[pn_p];exact_mod_cast h2
  omega
 ·rw[co_mod] at h2;exact h2
theorem rt_pw {f:Po P} (h:der f=0):pw (rt f) (pn P)=f:=Po.co_ext fun i=>by
 rw[co_pp]
 split
 ·rename_i hi
  rw[co_rt,Nat.mul_div_cancel' (Nat.dvd_of_mod_eq_zero hi)]
 ·rename_i hi
  exact (der_zero h hi).symm
theorem pw_p_mo {f:Po P} (h:Mo (pw f (pn P))):Mo f:=by
 have hf:f≠0:=by
  rintro rfl
  rw[pw_zero _ (by have:=pn_2 P;omega)] at h
  exact h.ne rfl
 have h1:=lc_pos hf
 have h2:pw f (pn P)=cn (lc f)*pw (mon f) (pn P):=by
  have:=pw_mul (cn (lc f)) (mon f) (pn P)
  rw[mon_back hf,frob_cn] at this
  exact this
 have h3:=mul_top (cn_ne h1) (pw_ne (mon_mo hf).ne (pn P))
 have h4:lc (cn (lc f):Po P)=lc f:=by
  have h5:dg (cn (lc f):Po P)=1:=by
   have:=dg_cn_le (P:=P) (lc f)
   have:=dg_pos (cn_ne h1)
   omega
  show co (cn (lc f):Po P) (dg (cn (lc f):Po P)-1)=lc f
  rw[h5,co_cn,if_pos rfl,em_self (by omega)]
 rw[←h2,h4,(pw_mo (mon_mo hf) (pn P)),Int.mul_one,em_self (by omega)] at h3
 unfold Mo
 rw[←h3.2]
 exact h
theorem irr_der {q:Po P} (h:Irr q):¬ q∣der q:=by
 intro hd
 by_cases h0:der q=0
 ·have h1:=rt_pw h0
  obtain⟨m,hm⟩:∃ m,pn P=m+1:=⟨pn P-1,by have:=pn_2 P;omega⟩
  have h2:q=pw (rt q) m*rt q:=by rw[←pw_s,←hm,h1]
  have hr:rt q≠0:=mul_ne_r (h2 ▸ h.ne)
  have key:dg (rt q)≤1:=by
   rcases h.ir _ _ h2 with h3 | h3
   ·rcases Nat.lt_or_ge 1 (dg (rt q)) with h4 | h4
    ·have:=pw_dg (show 2≤dg (rt q) from h4) m
     have:=pn_2 P
     omega
    ·exact h4
   ·exact h3
  have hmo:Mo (rt q):=pw_p_mo (by rw[h1];exact h.mo)
  rw[hmo.one key,pw_one] at h1
  have:=h.d2
  rw[←h1,dg_1] at this
  omega
 ·have:=dg_dvd hd h0
  have:=der_dg h0
  omega
theorem val_der {q f:Po P} (hq:Irr q) (hf:f≠0) (hd:der f≠0):(val q f % pn P=0→val q f≤val q (der f))∧(val q f % pn P≠0→val q (der f)+1=val q f):=by
 obtain⟨h,hh,hn⟩:=val_split hq hf
 generalize val q f=e at *
 rcases e with _ | e
 ·exact⟨fun _=>by omega,fun hx=>absurd (by simp) hx⟩
 have h1:der f=pw q e*(cn ((e:Int)+1)*der q*h+q*der h):=by
  rw[hh,der_mul,der_pw,pw_s]
  exact rg_ [cn ((e:Int)+1),pw q e,der q,h,q,der h] (x0*x1*x2*x3+x1*x4*x5) (x1*(x0*x2*x3+x4*x5))
 refine⟨fun hx => ?_,fun hx => ?_⟩
 ·have h2:(cn ((e:Int)+1):Po P)=0:=cn_mod (by
   have:=pn_p P
   rw[←this]
   have h3:((e:Int)+1)=((e+1:Nat):Int):=by omega
   rw[h3]
   omega)
  refine (pw_dvd_iff hq hd (e+1)).1 ⟨der h,?_⟩
  rw[h1,h2,pw_s]
  exact rg_ [pw q e,der q,h,q,der h] (x0*(0*x1*x2+x3*x4)) (x0*x3*x4)
 ·rw[h1,val_of hq e]
  intro h3
  have h4:=dvd_of_add (b:=q*der h) (c:=cn ((e:Int)+1)*der q*h) (by rw[add_comm];exact h3) (dvd_mul_r _ _)
  rcases hq.pr h4 with h5 | h5
  ·rcases hq.pr h5 with h6 | h6
   ·have h7:0<((e:Int)+1) % P.p∧((e:Int)+1) % P.p<P.p:=by
     have h8:=md (a:=(e:Int)+1) P.pos
     have:((e:Int)+1) % P.p≠0:=by
      have:=pn_p P
      rw[←this]
      have h3:((e:Int)+1)=((e+1:Nat):Int):=by omega
      rw[h3]
      omega
     omega
    rw[cn_em] at h6
    have h8:=(dvd_iff hq (cn_ne h7)).1 h6
    rw[val_cn hq h7] at h8
    omega
   ·exact irr_der hq h6
  ·exact hn h5
end Go.Proofs.Ytlnhembcfhfpkaa.Fx
end

section
namespace Go.Proofs.Ytlnhembcfhfpkaa.Fx
open Go.RowKit Go.Proofs.Ytlnhembcfhfpkaa.M
set_option linter.unusedSimpArgs false
set_option linter.unusedVariables false
variable {P:Pr}
noncomputable def sqW:Nat→Po P→Po P→Nat→Nat→List (Po P × Nat) × Po P
 | 0,_,c,_,_=>([],c)
 | k+1,w,c,n,t=>if dg w≤1 then ([],c) else
  let y:=gc w c
  let r:=sqW k y (qo c y) (n+1) t
  ((if 1<dg (qo w y) then [(qo w y,n*t)] else [])++r.1,r.2)
noncomputable def sqL:Nat→Po P→Nat→List (Po P × Nat)
 | 0,_,_=>[]
 | k+1,f,t=>if dg f<2 then [] else if dg (der f)=0 then sqL k (rt f) (t*pn P) else
  let c:=gc f (der f)
  let r:=sqW (dg (qo f c)+dg c) (qo f c) c 1 t
  r.1++if 1<dg r.2 then sqL k (rt r.2) (t*pn P) else []
structure Jw (f w c:Po P) (n:Nat):Prop where
 wm:Mo w
 cm:Mo c
 w1:∀ q,Irr q→val q f % pn P≠0→val q w=if n≤val q f then 1 else 0
 w0:∀ q,Irr q→val q f % pn P=0→val q w=0
 c1:∀ q,Irr q→val q f % pn P≠0→val q c=val q f-n
 c0:∀ q,Irr q→val q f % pn P=0→val q c=val q f
theorem qo_mo {f g:Po P} (hf:Mo f) (hg:Mo g) (h:g∣f):Mo (qo f g):=by
 have:=qo_mul hg.ne h
 rw[mul_comm] at this
 exact Mo.left (by rw[this];exact hf) hg
theorem qo_val {q f g:Po P} (hq:Irr q) (hf:Mo f) (hg:Mo g) (h:g∣f):val q (qo f g)+val q g=val q f:=by
 have h1:=val_mul hq (qo_mo hf hg h).ne hg.ne
 rw[qo_mul hg.ne h] at h1
 omega
theorem qo_dg {f g:Po P} (hf:Mo f) (hg:Mo g) (h:g∣f):dg (qo f g)+dg g=dg f+1:=by
 have h1:=dg_mul (qo_mo hf hg h).ne hg.ne
 rw[qo_mul hg.ne h] at h1
 omega
theorem Jw.next {f w c:Po P} {n:Nat} (h:Jw f w c n):Jw f (gc w c) (qo c (gc w c)) (n+1):=by
 have hy:Mo (gc w c):=gc_mo (.inl h.wm.ne)
 have hv:∀ q,Irr q→val q (gc w c)=min (val q w) (val q c):=fun q hq=>val_gc hq h.wm.ne h.cm.ne
 have hc:∀ q,Irr q→val q (qo c (gc w c))+val q (gc w c)=val q c:=fun q hq=>qo_val hq h.cm hy (gc_dr w c)
 refine⟨hy,qo_mo h.cm hy (gc_dr w c),fun q hq hp => ?_,fun q hq hp => ?_,fun q hq hp => ?_,fun q hq hp => ?_⟩
 ·rw[hv q hq,h.w1 q hq hp,h.c1 q hq hp];split<;>split<;>omega
 ·rw[hv q hq,h.w0 q hq hp];omega
 ·have h1:=hc q hq
  rw[hv q hq,h.w1 q hq hp,h.c1 q hq hp] at h1
  split at h1<;>omega
 ·have h1:=hc q hq
  rw[hv q hq,h.w0 q hq hp,h.c0 q hq hp] at h1
  omega
theorem Jw.out {f w c:Po P} {n:Nat} (h:Jw f w c n):Mo (qo w (gc w c))∧(∀ q,Irr q→val q (qo w (gc w c))=if val q f % pn P≠0∧val q f=n then 1 else 0):=by
 have hy:Mo (gc w c):=gc_mo (.inl h.wm.ne)
 refine⟨qo_mo h.wm hy (gc_dl w c),fun q hq => ?_⟩
 have h1:=qo_val hq h.wm hy (gc_dl w c)
 rw[val_gc hq h.wm.ne h.cm.ne] at h1
 by_cases hp:val q f % pn P=0
 ·rw[h.w0 q hq hp] at h1
  rw[if_neg (fun hh=>hh.1 hp)]
  omega
 ·rw[h.w1 q hq hp,h.c1 q hq hp] at h1
  split at h1
  ·split<;>omega
  ·rw[if_neg (by omega)];omega
theorem Jw.dec {f w c:Po P} {n:Nat} (h:Jw f w c n) (hw:2≤dg w):dg (gc w c)+dg (qo c (gc w c))<dg w+dg c:=by
 have hy:Mo (gc w c):=gc_mo (.inl h.wm.ne)
 have h1:=qo_dg h.cm hy (gc_dr w c)
 have h2:=dg_pos hy.ne
 omega
structure SqOk (f:Po P) (t:Nat) (l:List (Po P × Nat)):Prop where
 mo:∀ x∈l,Mo x.1∧2≤dg x.1
 vl:∀ x∈l,∀ q,Irr q→q∣x.1→val q x.1=1∧x.2=t*val q f∧1≤val q f
 ex:∀ q,Irr q→1≤val q f→∃ x∈l,q∣x.1
 pw:l.Pairwise fun x y => ∀ q,Irr q→¬ (q∣x.1∧q∣y.1)
theorem sqW_ok (f:Po P) (t:Nat):∀ (k:Nat) (w c:Po P) (n:Nat),1≤n→dg w+dg c≤k→Jw f w c n →
  Mo (sqW k w c n t).2∧(∀ q,Irr q→val q (sqW k w c n t).2=if val q f % pn P=0 then val q f else 0) ∧
  (∀ x∈(sqW k w c n t).1,(Mo x.1∧2≤dg x.1)∧∀ q,Irr q→q∣x.1→val q x.1=1∧x.2=t*val q f∧n≤val q f∧val q f % pn P≠0) ∧
  (∀ q,Irr q→n≤val q f→val q f % pn P≠0→∃ x∈(sqW k w c n t).1,q∣x.1) ∧
  (sqW k w c n t).1.Pairwise fun x y => ∀ q,Irr q→¬ (q∣x.1∧q∣y.1):=by
 intro k
 induction k with
 | zero =>
  intro w c n hn hk h
  have:=dg_pos h.wm.ne
  omega
 | succ k ih =>
  intro w c n hn hk h
  rw[sqW]
  split
  ·rename_i hw
   have h1:=h.wm.one hw
   refine⟨h.cm,fun q hq => ?_,fun x hx=>by simp at hx,fun q hq h2 h3 => ?_,List.Pairwise.nil⟩
   ·split
    ·rename_i hp;exact h.c0 q hq hp
    ·rename_i hp
     have h2:=h.w1 q hq hp
     rw[h1,val_1 hq] at h2
     rw[h.c1 q hq hp]
     split at h2<;>omega
   ·have h4:=h.w1 q hq h3
    rw[h1,val_1 hq,if_pos h2] at h4
    omega
  ·rename_i hw
   have hd:=h.dec (by omega)
   obtain⟨i1,i2,i3,i4,i5⟩:=ih _ _ (n+1) (by omega) (by omega) h.next
   obtain⟨o1,o2⟩:=h.out
   refine⟨i1,i2,fun x hx => ?_,fun q hq h2 h3 => ?_,?_⟩
   ·rcases List.mem_append.1 hx with hx | hx
    ·split at hx
     ·rename_i hz
      simp only[List.mem_singleton] at hx
      subst hx
      refine⟨⟨o1,hz⟩,fun q hq hqd => ?_⟩
      have h2:=(dvd_iff hq o1.ne).1 hqd
      simp only
      rw[o2 q hq] at h2 ⊢
      split at h2
      ·rename_i hh
       rw[if_pos hh]
       exact⟨rfl,by rw[hh.2,Nat.mul_comm],by omega,hh.1⟩
      ·omega
     ·simp at hx
    ·obtain⟨a1,a2⟩:=i3 x hx
     exact⟨a1,fun q hq hqd=>by have:=a2 q hq hqd;exact⟨this.1,this.2.1,by omega,this.2.2.2⟩⟩
   ·by_cases he:val q f=n
    ·have h4:=o2 q hq
     rw[if_pos ⟨h3,he⟩] at h4
     have h5:=(dvd_iff hq o1.ne).2 (by omega)
     have h6:=dg_dvd h5 o1.ne
     have:=hq.d2
     exact⟨_,List.mem_append_left _ (by rw[if_pos (by omega)];exact List.mem_singleton.2 rfl),h5⟩
    ·obtain⟨x,hx,hxd⟩:=i4 q hq (by omega) h3
     exact⟨x,List.mem_append_right _ hx,hxd⟩
   ·refine List.pairwise_append.2 ⟨?_,i5,fun x hx y hy q hq hh => ?_⟩
    ·split
     ·exact List.pairwise_singleton _ _
     ·exact List.Pairwise.nil
    ·split at hx
     ·simp only[List.mem_singleton] at hx
      subst hx
      have h2:=(dvd_iff hq o1.ne).1 hh.1
      rw[o2 q hq] at h2
      have h3:=(i3 y hy).2 q hq hh.2
      split at h2<;>omega
     ·simp at hx
theorem Jw.start {f:Po P} (hf:Mo f) (hd:der f≠0):Jw f (qo f (gc f (der f))) (gc f (der f)) 1:=by
 have hc:Mo (gc f (der f)):=gc_mo (.inl hf.ne)
 have hv:∀ q,Irr q→val q (gc f (der f))=min (val q f) (val q (der f)):=fun q hq=>val_gc hq hf.ne hd
 have hw:∀ q,Irr q→val q (qo f (gc f (der f)))+val q (gc f (der f))=val q f:=fun q hq=>qo_val hq hf hc (gc_dl f (der f))
 refine⟨qo_mo hf hc (gc_dl f (der f)),hc,fun q hq hp => ?_,fun q hq hp => ?_,fun q hq hp => ?_,fun q hq hp => ?_⟩
 ·have h1:=hw q hq
  have h2:=(val_der hq hf.ne hd).2 hp
  rw[hv q hq] at h1
  have:val q f≠0:=by intro e;rw[e] at hp;simp at hp
  rw[if_pos (by omega)];omega
 ·have h1:=hw q hq
  have h2:=(val_der hq hf.ne hd).1 hp
  rw[hv q hq] at h1
  omega
 ·have h2:=(val_der hq hf.ne hd).2 hp
  rw[hv q hq];omega
 ·have h2:=(val_der hq hf.ne hd).1 hp
  rw[hv q hq];omega
theorem der_of_pp {c:Po P} (hc:Mo c) (h:∀ q,Irr q→val q c % pn P=0):der c=0:=by
 apply Classical.byContradiction
 intro hd
 have h1:=dvd_of_val hc hd fun q hq=>(val_der hq hc.ne hd).1 (h q hq)
 have:=dg_dvd h1 hd
 have:=der_dg hd
 omega
theorem rt_mo {f:Po P} (hf:Mo f) (hd:der f=0):Mo (rt f):=pw_p_mo (by rw[rt_pw hd];exact hf)
theorem rt_val {q f:Po P} (hq:Irr q) (hf:Mo f) (hd:der f=0):val q f=pn P*val q (rt f):=by
 have:=val_pw hq (rt_mo hf hd).ne (pn P)
 rwa[rt_pw hd] at this
theorem rt_lt {f:Po P} (hf:Mo f) (hd:der f=0) (h2:2≤dg f):dg (rt f)<dg f∧pn P*(dg (rt f)-1)+1≤dg f:=by
 have h3:=pn_2 P
 have h5:pn P*(dg (rt f)-1)+1≤dg f:=by
  rcases rt_dg f with h | h
  ·exact h
  ·exact absurd h (rt_mo hf hd).ne
 have h6:2*(dg (rt f)-1)≤pn P*(dg (rt f)-1):=Nat.mul_le_mul_right _ h3
 omega
theorem sqL_ok:∀ (k:Nat) (f:Po P) (t:Nat),Mo f→dg f≤k→SqOk f t (sqL k f t):=by
 intro k
 induction k with
 | zero=>intro f t hf hk;have:=dg_pos hf.ne;omega
 | succ k ih =>
  intro f t hf hk
  rw[sqL]
  split
  ·rename_i h1
   have h2:=hf.one (by omega)
   exact⟨fun x hx=>by simp at hx,fun x hx=>by simp at hx,fun q hq h3=>by rw[h2,val_1 hq] at h3;omega,List.Pairwise.nil⟩
  ·rename_i h1
   split
   ·rename_i hd
    have hd:=dg_eq_0.1 hd
    have h2:=rt_lt hf hd (by omega)
    have i:=ih (rt f) (t*pn P) (rt_mo hf hd) (by omega)
    have hp:=pn_2 P
    have hv:∀ q,Irr q→(1≤val q f↔1≤val q (rt f)):=fun q hq=>by
     rw[rt_val hq hf hd]
     constructor
     ·intro h
      rcases Nat.eq_zero_or_pos (val q (rt f)) with h0 | h0
      ·rw[h0] at h;simp at h
      ·exact h0
     ·intro h
      have:1*1≤pn P*val q (rt f):=Nat.mul_le_mul (by omega) h
      omega
    refine⟨i.mo,fun x hx q hq hqd => ?_,fun q hq h3=>i.ex q hq ((hv q hq).1 h3),i.pw⟩
    obtain⟨a1,a2,a3⟩:=i.vl x hx q hq hqd
    exact⟨a1,by rw[a2,rt_val hq hf hd,Nat.mul_assoc],(hv q hq).2 a3⟩
   ·rename_i hd
    have hd:der f≠0:=fun e=>hd (dg_eq_0.2 e)
    have hJ:=Jw.start hf hd
    obtain⟨o1,o2,o3,o4,o5⟩:=sqW_ok f t _ _ _ 1 (Nat.le_refl _) (Nat.le_refl _) hJ
    simp only
    generalize sqW (dg (qo f (gc f (der f)))+dg (gc f (der f))) (qo f (gc f (der f))) (gc f (der f)) 1 t=r at *
    have hcd:der r.2=0:=der_of_pp o1 fun q hq=>by
     rw[o2 q hq];split
     ·assumption
     ·simp
    have hle:dg r.2≤dg f:=dg_dvd (dvd_of_val o1 hf.ne fun q hq=>by rw[o2 q hq];split<;>omega) hf.ne
    by_cases hc:1<dg r.2
    ·rw[if_pos hc]
     have h2:=rt_lt o1 hcd hc
     have i:=ih (rt r.2) (t*pn P) (rt_mo o1 hcd) (by omega)
     have hp:=pn_2 P
     have hv:∀ q,Irr q→1≤val q (rt r.2)→val q f % pn P=0∧val q f=pn P*val q (rt r.2)∧1≤val q f:=fun q hq h3=>by
      have h4:=rt_val hq o1 hcd
      rw[o2 q hq] at h4
      have:1*1≤pn P*val q (rt r.2):=Nat.mul_le_mul (by omega) h3
      split at h4
      ·rename_i h5
       exact⟨h5,h4,by omega⟩
      ·omega
     refine⟨fun x hx => ?_,fun x hx q hq hqd => ?_,fun q hq h3 => ?_,?_⟩
     ·rcases List.mem_append.1 hx with hx | hx
      ·exact (o3 x hx).1
      ·exact i.mo x hx
     ·rcases List.mem_append.1 hx with hx | hx
      ·have:=(o3 x hx).2 q hq hqd
       exact⟨this.1,this.2.1,this.2.2.1⟩
      ·obtain⟨a1,a2,a3⟩:=i.vl x hx q hq hqd
       have h5:=hv q hq a3
       exact⟨a1,by rw[a2,h5.2.1,Nat.mul_assoc],h5.2.2⟩
     ·by_cases h4:val q f % pn P=0
      ·have h5:=rt_val hq o1 hcd
       rw[o2 q hq,if_pos h4] at h5
       have h6:1≤val q (rt r.2):=by
        rcases Nat.eq_zero_or_pos (val q (rt r.2)) with h0 | h0
        ·rw[h0] at h5;simp at h5;omega
        ·exact h0
       obtain⟨x,hx,hxd⟩:=i.ex q hq h6
       exact⟨x,List.mem_append_right _ hx,hxd⟩
      ·obtain⟨x,hx,hxd⟩:=o4 q hq h3 h4
       exact⟨x,List.mem_append_left _ hx,hxd⟩
     ·refine List.pairwise_append.2 ⟨o5,i.pw,fun x hx y hy q hq hh => ?_⟩
      have h3:=((o3 x hx).2 q hq hh.1).2.2.2
      have h4:=(i.vl y hy q hq hh.2).2.2
      exact h3 (hv q hq h4).1
    ·rw[if_neg hc,List.append_nil]
     have h2:=o1.one (by omega)
     refine⟨fun x hx=>(o3 x hx).1,fun x hx q hq hqd => ?_,fun q hq h3 => ?_,o5⟩
     ·have:=(o3 x hx).2 q hq hqd
      exact⟨this.1,this.2.1,this.2.2.1⟩
     ·refine o4 q hq h3 fun h4 => ?_
      have h5:=o2 q hq
      rw[h2,val_1 hq,if_pos h4] at h5
      omega
end Go.Proofs.Ytlnhembcfhfpkaa.Fx
end

section
namespace Go.Proofs.Ytlnhembcfhfpkaa.Fx
open Go.RowKit Go.Proofs.Ytlnhembcfhfpkaa.M
set_option linter.unusedSimpArgs false
set_option linter.unusedVariables false
variable {P:Pr}
def li (a:Nat→Int) (R:Nat→Po P) (n:Nat):Po P:=sm (fun i=>cn (a i)*R i) n
theorem sm_diff {f g:Nat→Po P} {e:Po P} {k:Nat}:∀ {n:Nat},k<n→(∀ i,i<n→i≠k→f i=g i)→f k=g k+e→sm f n=sm g n+e
 | 0,h,_,_=>by omega
 | n+1,h,h1,h2=>by
  rw[sm,sm]
  by_cases hk:k=n
  ·subst hk
   rw[sm_congr (g:=g) fun i hi=>h1 i (by omega) (by omega),h2,add_assoc]
  ·rw[sm_diff (f:=f) (g:=g) (e:=e) (show k<n by omega) (fun i hi hne=>h1 i (by omega) hne) h2,h1 n (by omega) (fun e=>hk e.symm)]
   exact rg_ [sm g n,e,g n] (x0+x1+x2) (x0+x2+x1)
theorem li_dg {a:Nat→Int} {R:Nat→Po P} {d:Nat}:∀ {n:Nat},(∀ i,i<n→dg (R i)≤d)→dg (li a R n)≤d
 | 0,_=>by
  show dg (0:Po P)≤d
  rw[dg_0];omega
 | n+1,h=>by
  have h1:=li_dg (a:=a) (R:=R) (d:=d) (n:=n) fun i hi=>h i (by omega)
  have h2:=h n (by omega)
  have h3:dg (cn (a n)*R n)≤dg (R n):=dg_le fun i hi=>by rw[co_cn_mul,co_big hi];simp
  have h4:=dg_add_le (li a R n) (cn (a n)*R n)
  show dg (li a R n+cn (a n)*R n)≤d
  omega
theorem dvd_li {a:Nat→Int} {R:Nat→Po P} {q:Po P}:∀ {n:Nat},(∀ i,i<n→q∣R i)→q∣li a R n
 | 0,_=>dvd_0 q
 | n+1,h=>dvd_add (dvd_li fun i hi=>h i (by omega)) (dvd_mul_of' (h n (by omega)) _)
theorem co_li (a:Nat→Int) (R:Nat→Po P) (j:Nat) {k:Nat}:∀ {n:Nat},k<n→(∀ i,i<n→i≠k→(a i*co (R i) j) % P.p=0)→co (li a R n) j=(a k*co (R k) j) % P.p
 | 0,h,_=>by omega
 | n+1,h,h1=>by
  show co (li a R n+cn (a n)*R n) j=_
  rw[co_add,co_cn_mul,Int.mul_comm (co (R n) j)]
  by_cases hk:k=n
  ·subst hk
   have:co (li a R k) j=0:=by
    have key:∀ m,m≤k→co (li a R m) j=0:=by
     intro m
     induction m with
     | zero=>intro _;exact co_0 j
     | succ m ih =>
      intro hm
      show co (li a R m+cn (a m)*R m) j=0
      rw[co_add,co_cn_mul,Int.mul_comm (co (R m) j),ih (by omega),h1 m (by omega) (by omega)];simp
    exact key k (Nat.le_refl _)
   rw[this,Int.zero_add,Int.emod_emod]
  ·rw[co_li a R j (show k<n by omega) fun i hi hne=>h1 i (by omega) hne,h1 n (by omega) (fun e=>hk e.symm),Int.add_zero,Int.emod_emod]
theorem sm_skip (f:Nat→Po P) {k:Nat}:∀ {n:Nat},k≤n→sm f (n+1)=sm (fun i=>f (if i<k then i else i+1)) n+f k
 | 0,h=>by
  obtain rfl:k=0:=by omega
  rfl
 | n+1,h=>by
  rw[sm]
  by_cases hk:k=n+1
  ·subst hk
   rw[sm_congr (f:=fun i=>f (if i<n+1 then i else i+1)) (g:=f) fun i hi=>by rw[if_pos hi]]
  ·rw[sm_skip f (show k≤n by omega),sm,if_neg (show ¬ n<k by omega)]
   exact rg_ [sm (fun i=>f (if i<k then i else i+1)) n,f k,f (n+1)] (x0+x1+x2) (x0+x2+x1)
theorem hom_sol:∀ (m n:Nat) (A:Nat→Nat→Int),m<n→∃ a:Nat→Int,(∃ i,i<n∧a i % P.p≠0)∧∀ j,j<m→li a (fun i=>(cn (A j i):Po P)) n=0:=by
 intro m
 induction m with
 | zero=>exact fun n A h=>⟨fun _=>1,⟨0,h,by have:=P.p2;show (1:Int) % P.p≠0;rw[em_self (by omega)];omega⟩,fun j hj=>by omega⟩
 | succ m ih =>
  intro n A h
  by_cases h0:∀ i,i<n→A m i % P.p=0
  ·obtain⟨a,h1,h2⟩:=ih n A (by omega)
   refine⟨a,h1,fun j hj => ?_⟩
   by_cases hjm:j=m
   ·subst hjm
    exact sm_zero fun i hi=>by show cn (a i)*cn (A j i)=0;rw[cn_mod (h0 i hi),mul_zero]
   ·exact h2 j (by omega)
  ·obtain⟨k,hk,hk0⟩:∃ k,k<n∧A m k % P.p≠0:=by
    apply Classical.byContradiction
    intro hn
    apply h0
    intro i hi
    apply Classical.byContradiction
    intro h1
    exact hn ⟨i,hi,h1⟩
   obtain⟨n',rfl⟩:∃ n',n=n'+1:=⟨n-1,by omega⟩
   have hr:=md (a:=A m k) P.pos
   have hinv:=cn_inv (P:=P) (k:=A m k % P.p) (by omega)
   rw[←cn_em] at hinv
   generalize invP (A m k % P.p) P.p=u at hinv
   let s:Nat→Nat:=fun i=>if i<k then i else i+1
   obtain⟨b,⟨i0,hi0,hb0⟩,hb⟩:=ih n' (fun j i=>A j (s i) + -1*(A j k*(u*A m (s i)))) (by omega)
   let back:Nat→Nat:=fun i=>if i<k then i else i-1
   let c:Int:=co (li b (fun i=>cn (A m (s i))) n':Po P) 0
   have hc:(cn c:Po P)=li b (fun i=>cn (A m (s i))) n':=(eq_cn (li_dg fun i _=>dg_cn_le _)).symm
   let a:Nat→Int:=fun i=>if i=k then -1*(u*c) else b (back i)
   have hak:a k = -1*(u*c):=if_pos rfl
   have has:∀ i,a (s i)=b i:=by
    intro i
    show (if s i=k then _ else b (back (s i)))=_
    have h1:s i≠k:=by show (if i<k then i else i+1)≠k;split<;>omega
    rw[if_neg h1]
    have h2:back (s i)=i:=by
     show (if (if i<k then i else i+1)<k then (if i<k then i else i+1) else (if i<k then i else i+1)-1)=i
     by_cases hik:i<k
     ·rw[if_pos hik,if_pos hik]
     ·rw[if_neg hik,if_neg (by omega)];omega
    rw[h2]
   have hsum:∀ j,li a (fun i=>(cn (A j i):Po P)) (n'+1)=li b (fun i=>cn (A j (s i))) n'+cn (-1*(u*c))*cn (A j k):=by
    intro j
    unfold li
    rw[sm_skip _ (show k≤n' by omega),hak]
    congr 1
    exact sm_congr fun i _=>by
     show cn (a (s i))*cn (A j (s i))=_
     rw[has]
   have hrow:∀ j,li b (fun i=>(cn (A j (s i) + -1*(A j k*(u*A m (s i)))):Po P)) n'=li b (fun i=>cn (A j (s i))) n'+cn (-1*(u*c))*cn (A j k):=by
    intro j
    have e:cn (-1*(u*c))*cn (A j k)=li b (fun i=>(cn (A m (s i)):Po P)) n'*(cn (-1)*cn u*cn (A j k)):=by
     rw[←hc,cn_mul,cn_mul]
     exact rg_ [cn (-1),cn u,cn c,cn (A j k)] (x0*(x1*x2)*x3) (x2*(x0*x1*x3))
    rw[e]
    unfold li
    rw[←sm_mul,←sm_add]
    exact sm_congr fun i _=>by
     show cn (b i)*cn (A j (s i) + -1*(A j k*(u*A m (s i))))=cn (b i)*cn (A j (s i))+cn (b i)*cn (A m (s i))*(cn (-1)*cn u*cn (A j k))
     rw[cn_add,cn_mul,cn_mul,cn_mul]
     exact rg_ [cn (b i),cn (A j (s i)),cn (-1),cn (A j k),cn u,cn (A m (s i))] (x0*(x1+x2*(x3*(x4*x5)))) (x0*x1+x0*x5*(x2*x4*x3))
   refine⟨a,⟨s i0,?_,by rw[has];exact hb0⟩,fun j hj => ?_⟩
   ·show (if i0<k then i0 else i0+1)<n'+1
    split<;>omega
   ·rw[hsum]
    by_cases hjm:j=m
    ·subst hjm
     rw[←hc,cn_mul,cn_mul]
     have:(cn c:Po P)+cn (-1)*(cn u*cn c)*cn (A j k)=cn c+cn (-1)*cn c*(cn (A j k)*cn u):=rg_ [cn c,cn (-1),cn u,cn (A j k)] (x0+x1*(x2*x0)*x3) (x0+x1*x0*(x3*x2))
     rw[this,hinv]
     exact rg_ [cn c] (.add x0 (.mul (.mul (.c (-1)) x0) 1)) 0 (by intro r;show r 0 + -1*r 0*1=0;omega)
    ·have:=hb j (by omega)
     rw[hrow] at this
     exact this
def hv:List (Po P)→Po P→Po P
 | [],_=>0
 | a::c,y=>a+y*hv c y
def dd (z:Po P):List (Po P)→List (Po P)
 | []=>[]
 | [_]=>[]
 | _::b::c=>hv (b::c) z::dd z (b::c)
theorem dd_ok (z y:Po P):∀ c:List (Po P),hv c y-hv c z=(y-z)*hv (dd z c) y
 | []=>by
  show (0:Po P)-0=(y-z)*0
  rw[mul_zero,sub_self]
 | [a]=>by
  exact rg_ [a,y,z] (x0+x1*0-(x0+x2*0)) ((x1-x2)*0)
 | a::b::c=>by
  rw[dd,hv,show hv (a::b::c) z=a+z*hv (b::c) z from rfl,show hv (hv (b::c) z::dd z (b::c)) y=hv (b::c) z+y*hv (dd z (b::c)) y from rfl]
  have ih:=dd_ok z y (b::c)
  generalize hv (b::c) y=A at *
  generalize hv (b::c) z=B at *
  generalize hv (dd z (b::c)) y=C at *
  have e:A=B+(y-z)*C:=by rw[←ih];exact rg_ [A,B] x0 (x1+(x0-x1))
  rw[e]
  exact rg_ [a,y,B,z,C] (x0+x1*(x2+(x1-x3)*x4)-(x0+x3*x2)) ((x1-x3)*(x2+x1*x4))
theorem dd_len (z:Po P):∀ c:List (Po P),(dd z c).length=c.length-1
 | []=>rfl
 | [_]=>rfl
 | _::b::c=>by rw[dd,List.length_cons,dd_len z (b::c)];simp
theorem dd_last (z:Po P):∀ c:List (Po P),2≤c.length→(dd z c).getD (c.length-2) 0=c.getD (c.length-1) 0
 | [],h=>by simp at h
 | [_],h=>by simp at h
 | [a,b],_=>by
  show hv [b] z=b
  rw[hv,hv,mul_zero,add_zero]
 | a::b::c::d,_=>by
  have:=dd_last z (b::c::d) (by simp)
  rw[dd]
  simpa using this
theorem root_bound {q:Po P} (hq:Irr q):∀ (n:Nat) (c ys:List (Po P)),c.length=n+1→n<ys.length→(∀ y∈ys,q∣hv c y)→ys.Pairwise (fun x y => ¬ q∣y-x)→q∣c.getD n 0:=by
 intro n
 induction n with
 | zero =>
  intro c ys hc hy hr _
  match c,ys,hc,hy with
  | [a],y::ys,_,_ =>
   have:=hr y (by simp)
   rw[hv,hv,mul_zero,add_zero] at this
   exact this
 | succ n ih =>
  intro c ys hc hy hr hp
  match ys,hy with
  | z::ys,hy =>
   have h1:=ih (dd z c) ys (by rw[dd_len];omega) (by simpa using hy) (fun y hy=>by
    have h2:q∣(y-z)*hv (dd z c) y:=by
     rw[←dd_ok]
     exact dvd_sub (hr y (by simp[hy])) (hr z (by simp))
    rcases hq.pr h2 with h3 | h3
    ·exact absurd h3 ((List.pairwise_cons.1 hp).1 y hy)
    ·exact h3) (List.pairwise_cons.1 hp).2
   have h2:=dd_last z c (by omega)
   rw[hc] at h2
   simp only[Nat.add_sub_cancel] at h2
   rw[←h2]
   exact h1
def fcoef (P:Pr) (N:Nat):List (Po P):=0::-1::(List.replicate (N-2) 0++[1])
theorem hv_rep (y:Po P):∀ n,hv (List.replicate n 0++[1]) y=pw y n
 | 0=>by
  show (1:Po P)+y*0=pw y 0
  rw[mul_zero,add_zero,pw_0]
 | n+1=>by
  rw[List.replicate_succ,List.cons_append,hv,hv_rep y n,zero_add,pw_s,mul_comm]
theorem hv_fcoef (y:Po P) {N:Nat} (h:2≤N):hv (fcoef P N) y=pw y N-y:=by
 obtain⟨m,rfl⟩:∃ m,N=m+2:=⟨N-2,by omega⟩
 unfold fcoef
 rw[hv,hv,Nat.add_sub_cancel,hv_rep,pw_s,pw_s]
 exact rg_ [y,pw y m] (0+x0*(-1+x0*x1)) (x1*x0*x0-x0)
theorem few_roots {q:Po P} (hq:Irr q) {N:Nat} (hN:2≤N) {ys:List (Po P)} (h:∀ y∈ys,q∣pw y N-y) (hp:ys.Pairwise (fun x y => ¬ q∣y-x)):ys.length≤N:=by
 rcases Nat.lt_or_ge N ys.length with hlt | hge
 ·exfalso
  have h1:=root_bound hq N (fcoef P N) ys (by unfold fcoef;simp;omega) hlt (fun y hy=>by rw[hv_fcoef y hN];exact h y hy) hp
  have h2:(fcoef P N).getD N 0=1:=by
   obtain⟨m,rfl⟩:∃ m,N=m+2:=⟨N-2,by omega⟩
   unfold fcoef
   simp
  rw[h2] at h1
  exact hq.not_one h1
 ·exact hge
theorem cn_sub (a b:Int):(cn (a-b):Po P)=cn a-cn b:=rg_ [] (.c (a-b)) (.add (.c a) (.neg (.c b))) (fun _=>by simp only[evI];omega)
theorem cn_dvd {q:Po P} (hq:Irr q) {k:Int} (h:q∣cn k):k % P.p=0:=by
 apply Classical.byContradiction
 intro h0
 have hr:=md (a:=k) P.pos
 rw[cn_em] at h
 have h1:=dg_dvd h (cn_ne (by omega))
 have h2:=dg_cn_le (P:=P) (k % P.p)
 have:=hq.d2
 omega
theorem fix_cn {q v:Po P} (hq:Irr q) (h:q∣pw v (pn P)-v):∃ s:Nat,s<pn P∧q∣v-cn s:=by
 apply Classical.byContradiction
 intro hn
 have h1:=few_roots hq (pn_2 P) (ys:=v::(List.range (pn P)).map fun s:Nat=>cn (s:Int)) (fun y hy=>by
  rcases List.mem_cons.1 hy with rfl | hy
  ·exact h
  ·obtain⟨s,_,rfl⟩:=List.mem_map.1 hy
   rw[frob_cn,sub_self];exact dvd_0 q) (by
  refine List.pairwise_cons.2 ⟨fun y hy hd => ?_,?_⟩
  ·obtain⟨s,hs,rfl⟩:=List.mem_map.1 hy
   refine hn ⟨s,List.mem_range.1 hs,?_⟩
   have:=dvd_neg hd
   rwa[show -(cn (s:Int)-v)=v-cn (s:Int) from rg_ [cn (s:Int),v] (-(x0-x1)) (x1-x0)] at this
  ·rw[List.pairwise_map]
   refine List.Pairwise.imp_of_mem ?_ List.nodup_range
   intro a b ha hb hne hd
   rw[←cn_sub] at hd
   have h3:=cn_dvd hq hd
   have h4:=List.mem_range.1 ha
   have h5:=List.mem_range.1 hb
   have h6:=pn_p P
   rw[←h6] at h3
   apply hne
   rcases Nat.le_total a b with hle | hle
   ·have h7:((b:Int)-(a:Int))=((b-a:Nat):Int):=by omega
    rw[h7,←Int.natCast_emod,Nat.mod_eq_of_lt (by omega)] at h3
    omega
   ·have h7:((b:Int)-(a:Int)) = -((a-b:Nat):Int):=by omega
    rw[h7] at h3
    have h3:=Int.emod_eq_zero_of_dvd ((Int.dvd_neg).1 (Int.dvd_of_emod_eq_zero h3))
    rw[←Int.natCast_emod,Nat.mod_eq_of_lt (by omega)] at h3
    omega)
 simp only[List.length_cons,List.length_map,List.length_range] at h1
 omega
end Go.Proofs.Ytlnhembcfhfpkaa.Fx
end

section
namespace Go.Proofs.Ytlnhembcfhfpkaa.Fx
open Go.RowKit Go.Proofs.Ytlnhembcfhfpkaa.M
set_option linter.unusedSimpArgs false
set_option linter.unusedVariables false
variable {P:Pr}
theorem sm_swap (f:Nat→Po P) {n k t:Nat} (hk:k<n) (ht:t<n):sm (fun i=>f (if i=k then t else if i=t then k else i)) n=sm f n:=by
 by_cases h:k=t
 ·subst h
  refine sm_congr fun i _ => ?_
  split
  ·rename_i e;rw[e]
  ·rfl
 ·have a1:=sm_diff (f:=f) (g:=fun i=>if i=k then 0 else f i) (e:=f k) hk (fun i _ hne=>(if_neg hne).symm) (by rw[if_pos rfl,zero_add])
  have a2:=sm_diff (f:=fun i=>if i=k then 0 else f i) (g:=fun i=>if i=k then 0 else if i=t then 0 else f i) (e:=f t) ht (fun i _ hne=>by simp only[if_neg hne]) (by rw[if_neg (fun e=>h e.symm),if_neg (fun e=>h e.symm),if_pos rfl,zero_add])
  have b1:=sm_diff (f:=fun i=>f (if i=k then t else if i=t then k else i)) (g:=fun i=>if i=k then 0 else f (if i=k then t else if i=t then k else i)) (e:=f t) hk (fun i _ hne=>(if_neg hne).symm) (by rw[if_pos rfl,if_pos rfl,zero_add])
  have b2:=sm_diff (f:=fun i=>if i=k then 0 else f (if i=k then t else if i=t then k else i)) (g:=fun i=>if i=k then 0 else if i=t then 0 else f i) (e:=f k) ht (fun i _ hne=>by
   by_cases hik:i=k
   ·rw[if_pos hik,if_pos hik]
   ·rw[if_neg hik,if_neg hik,if_neg hik,if_neg hne,if_neg hne]) (by simp only[show (t=k)=False from eq_false fun e=>h e.symm,if_false,eq_self,if_true,zero_add])
  rw[b1,b2,a1,a2]
  exact rg_ [sm (fun i=>if i=k then 0 else if i=t then 0 else f i) n,f k,f t] (x0+x1+x2) (x0+x2+x1)
structure Bs (n:Nat) (R:Nat→Po P):Prop where
 sp:∀ v,dg v≤n→∃ a:Nat→Int,v=li a R n
 ind:∀ a:Nat→Int,li a R n=0→∀ i,i<n→a i % P.p=0
theorem Bs.swap {n:Nat} {R:Nat→Po P} (h:Bs n R) {k t:Nat} (hk:k<n) (ht:t<n):Bs n (fun i=>R (if i=k then t else if i=t then k else i)):=by
 have key:∀ a:Nat→Int,li (fun i=>a (if i=k then t else if i=t then k else i)) (fun i=>R (if i=k then t else if i=t then k else i)) n=li a R n:=fun a=>sm_swap (fun i=>cn (a i)*R i) hk ht
 have inv:∀ i:Nat,(if (if i=k then t else if i=t then k else i)=k then t else if (if i=k then t else if i=t then k else i)=t then k else (if i=k then t else if i=t then k else i))=i:=by
  intro i
  by_cases h1:i=k
  ·rw[if_pos h1]
   by_cases h2:t=k
   ·rw[if_pos h2];omega
   ·rw[if_neg h2,if_pos rfl];omega
  ·rw[if_neg h1]
   by_cases h2:i=t
   ·rw[if_pos h2,if_pos rfl];omega
   ·rw[if_neg h2,if_neg h1,if_neg h2]
 refine⟨fun v hv => ?_,fun a h0 i hi => ?_⟩
 ·obtain⟨a,ha⟩:=h.sp v hv
  exact⟨_,by rw[ha];exact (key a).symm⟩
 ·have h1:=h.ind (fun i=>a (if i=k then t else if i=t then k else i)) (by
   have:=key (fun i=>a (if i=k then t else if i=t then k else i))
   simp only[inv] at this
   rw[←this];exact h0)
  have h2:=h1 (if i=k then t else if i=t then k else i) (by split<;>(try split)<;>omega)
  simp only[inv] at h2
  exact h2
theorem li_const {a c:Nat→Int} {n:Nat}:(cn (co (li a (fun i=>(cn (c i):Po P)) n) 0):Po P)=li a (fun i=>cn (c i)) n:=(eq_cn (li_dg fun i _=>dg_cn_le _)).symm
theorem li_upd {a b:Nat→Int} {R:Nat→Po P} {n t:Nat} {s:Int} (ht:t<n) (h:∀ i,i≠t→b i=a i) (h1:b t=a t+s):li b R n=li a R n+cn s*R t:=
 sm_diff ht (fun i _ hne=>by rw[h i hne]) (by rw[h1,cn_add,add_mul])
theorem Bs.el {n:Nat} {R R':Nat→Po P} {c:Nat→Int} {t:Nat} (h:Bs n R) (ht:t<n) (hc:c t=0) (hR:∀ i,i<n→R' i=R i+cn (c i)*R t):Bs n R':=by
 have hRt:R' t=R t:=by rw[hR t ht,hc,show (cn 0:Po P)=0 from rfl,zero_mul,add_zero]
 have key:∀ a:Nat→Int,li a R' n=li a R n+cn (co (li a (fun i=>(cn (c i):Po P)) n) 0)*R t:=by
  intro a
  rw[li_const]
  unfold li
  rw[←sm_mul,←sm_add]
  refine sm_congr fun i hi => ?_
  rw[hR i hi]
  exact rg_ [cn (a i),R i,cn (c i),R t] (x0*(x1+x2*x3)) (x0*x1+x0*x2*x3)
 refine⟨fun v hv => ?_,fun a h0 i hi => ?_⟩
 ·obtain⟨a,ha⟩:=h.sp v hv
  let s:=co (li a (fun i=>(cn (c i):Po P)) n) 0
  refine⟨fun i=>if i=t then a i + -1*s else a i,?_⟩
  rw[li_upd (a:=a) (b:=fun i=>if i=t then a i + -1*s else a i) (s:=-1*s) ht (fun i hne=>if_neg hne) (if_pos rfl),key a,hRt,ha,cn_mul]
  exact rg_ [li a R n,cn s,R t] x0 (.add (.add x0 (.mul x1 x2)) (.mul (.mul (.c (-1)) x1) x2)) (by intro r;show r 0=r 0+r 1*r 2 + -1*r 1*r 2;grind)
 ·let s:=co (li a (fun i=>(cn (c i):Po P)) n) 0
  have h1:li (fun i=>if i=t then a i+s else a i) R n=0:=by
   rw[li_upd (a:=a) (b:=fun i=>if i=t then a i+s else a i) (s:=s) ht (fun i hne=>if_neg hne) (if_pos rfl),←key a,h0]
  have h2:=h.ind _ h1
  have h3:∀ i,i<n→i≠t→a i % P.p=0:=fun i hi hne=>by have:=h2 i hi;rwa[if_neg hne] at this
  by_cases hit:i=t
  ·subst hit
   have h4:=h2 i hi
   rw[if_pos rfl] at h4
   have h5:s=0:=by
    show co (sm _ n) 0=0
    rw[sm_zero,co_0]
    intro j hj
    show cn (a j)*cn (c j)=0
    by_cases hji:j=i
    ·rw[hji,hc,show (cn 0:Po P)=0 from rfl,mul_zero]
    ·rw[cn_mod (h3 j hj hji),zero_mul]
   rwa[h5,Int.add_zero] at h4
  ·exact h3 i hi hit
noncomputable def phi (f v:Po P):Po P:=rm (pw v (pn P)-v) f
theorem rm_add {f u v:Po P} (hf:f≠0):rm (u+v) f=rm u f+rm v f:=rm_unique hf (by
  have:=dvd_add (dvd_rm (f:=u) hf) (dvd_rm (f:=v) hf)
  rwa[show u-rm u f+(v-rm v f)=u+v-(rm u f+rm v f) from rg_ [u,rm u f,v,rm v f] (x0-x1+(x2-x3)) (x0+x2-(x1+x3))] at this) (by
  have:=dg_add_le (rm u f) (rm v f)
  have:=rm_dg u hf
  have:=rm_dg v hf
  omega)
theorem rm_scale {f u:Po P} (hf:f≠0) (k:Int):rm (cn k*u) f=cn k*rm u f:=rm_unique hf (by
  have:=dvd_mul_of' (dvd_rm (f:=u) hf) (cn k)
  rwa[show cn k*(u-rm u f)=cn k*u-cn k*rm u f from rg_ [cn k,u,rm u f] (x0*(x1-x2)) (x0*x1-x0*x2)] at this) (by
  have h3:dg (cn k*rm u f)≤dg (rm u f):=dg_le fun i hi=>by rw[co_cn_mul,co_big hi];simp
  have:=rm_dg u hf
  omega)
theorem phi_add {f u v:Po P} (hf:f≠0):phi f (u+v)=phi f u+phi f v:=by
 unfold phi
 rw[frob_add,←rm_add hf]
 congr 1
 exact rg_ [pw u (pn P),pw v (pn P),u,v] (x0+x1-(x2+x3)) (x0-x2+(x1-x3))
theorem phi_scale {f u:Po P} (hf:f≠0) (k:Int):phi f (cn k*u)=cn k*phi f u:=by
 unfold phi
 rw[pw_mul,frob_cn,←rm_scale hf]
 congr 1
 exact rg_ [cn k,pw u (pn P),u] (x0*x1-x0*x2) (x0*(x1-x2))
theorem rm_zero {f:Po P} (hf:f≠0):rm (0:Po P) f=0:=rm_0 hf (dvd_0 f)
theorem phi_0 {f:Po P} (hf:f≠0):phi f (0:Po P)=0:=by
 unfold phi
 rw[pw_zero _ (by have:=pn_2 P;omega),sub_self,rm_zero hf]
theorem phi_li {f:Po P} (hf:f≠0) (a:Nat→Int) (R:Nat→Po P):∀ n,phi f (li a R n)=li a (fun i=>phi f (R i)) n
 | 0=>phi_0 hf
 | n+1=>by
  show phi f (li a R n+cn (a n)*R n)=li a (fun i=>phi f (R i)) n+cn (a n)*phi f (R n)
  rw[phi_add hf,phi_scale hf,phi_li hf a R n]
theorem phi_iff {f v:Po P} (hf:f≠0):phi f v=0↔f∣pw v (pn P)-v:=by
 refine⟨fun h => ?_,fun h=>rm_0 hf h⟩
 have:=dvd_rm (f:=pw v (pn P)-v) hf
 unfold phi at h
 rw[h] at this
 rwa[show pw v (pn P)-v-0=pw v (pn P)-v from rg_ [pw v (pn P),v] (x0-x1-0) (x0-x1)] at this
structure Kn (f:Po P) (n:Nat) (R:Nat→Po P) (top j:Nat):Prop where
 bs:Bs n R
 dgr:∀ i,i<n→dg (R i)≤n
 piv:∃ v:Nat→Nat,∀ i,i<top→co (phi f (R i)) (v i)≠0∧∀ i',i'<n→i<i'→co (phi f (R i')) (v i)=0
 zr:∀ i,top≤i→i<n→∀ c,c<j→co (phi f (R i)) c=0
 tj:top≤j
theorem Kn.skip {f:Po P} {n:Nat} {R:Nat→Po P} {top j:Nat} (h:Kn f n R top j) (h0:∀ i,top≤i→i<n→co (phi f (R i)) j=0):Kn f n R top (j+1):=
 ⟨h.bs,h.dgr,h.piv,fun i h1 h2 c hc=>by
  by_cases e:c=j
  ·rw[e];exact h0 i h1 h2
  ·exact h.zr i h1 h2 c (by omega),by have:=h.tj;omega⟩
theorem Kn.swap {f:Po P} {n:Nat} {R:Nat→Po P} {top j k:Nat} (h:Kn f n R top j) (hk:k<n) (ht:top≤k):Kn f n (fun i=>R (if i=k then top else if i=top then k else i)) top j:=by
 obtain⟨v,hv⟩:=h.piv
 have hs:∀ i,i<n→(if i=k then top else if i=top then k else i)<n:=fun i hi=>by split<;>(try split)<;>omega
 refine⟨h.bs.swap hk (by omega),fun i hi=>h.dgr _ (hs i hi),⟨v,fun i hi => ?_⟩,fun i h1 h2 c hc => ?_,h.tj⟩
 ·have h1:=hv i hi
  rw[if_neg (show ¬ i=k by omega),if_neg (show ¬ i=top by omega)]
  refine⟨h1.1,fun i' h2 h3=>h1.2 _ (hs i' h2) ?_⟩
  split<;>(try split)<;>omega
 ·exact h.zr _ (by split<;>(try split)<;>omega) (hs i h2) c hc
theorem Kn.step {f:Po P} {n:Nat} {R R':Nat→Po P} {top j:Nat} {c:Nat→Int} (hf:f≠0) (h:Kn f n R top j) (ht:top<n) (hp:co (phi f (R top)) j≠0) (hc0:∀ i,i≤top→c i=0) (hR:∀ i,i<n→R' i=R i+cn (c i)*R top)
  (hz:∀ i,i<n→top<i→(co (phi f (R i)) j+c i*co (phi f (R top)) j) % P.p=0):Kn f n R' (top+1) (j+1):=by
 have hphi:∀ i,i<n→∀ m,co (phi f (R' i)) m=(co (phi f (R i)) m+c i*co (phi f (R top)) m) % P.p:=fun i hi m=>by
  rw[hR i hi,phi_add hf,phi_scale hf,co_add,co_cn_mul,Int.add_emod,Int.emod_emod,←Int.add_emod,Int.mul_comm]
 have hsame:∀ i,i≤top→∀ m,co (phi f (R' i)) m=co (phi f (R i)) m:=fun i hi m=>by
  rw[hphi i (by omega),hc0 i hi,Int.zero_mul,Int.add_zero,co_mod]
 obtain⟨v,hv⟩:=h.piv
 refine⟨h.bs.el ht (hc0 top (Nat.le_refl _)) hR,fun i hi => ?_,⟨fun i=>if i=top then j else v i,fun i hi => ?_⟩,fun i h1 h2 m hm => ?_,by have:=h.tj;omega⟩
 ·rw[hR i hi]
  have h1:=dg_add_le (R i) (cn (c i)*R top)
  have h2:dg (cn (c i)*R top)≤dg (R top):=dg_le fun m hm=>by rw[co_cn_mul,co_big hm];simp
  have:=h.dgr i hi
  have:=h.dgr top ht
  omega
 ·by_cases e:i=top
  ·subst e
   simp only[if_true]
   rw[hsame i (Nat.le_refl _)]
   exact⟨hp,fun i' h2 h3=>by rw[hphi i' h2];exact hz i' h2 h3⟩
  ·simp only[if_neg e]
   have h1:=hv i (by omega)
   rw[hsame i (by omega)]
   refine⟨h1.1,fun i' h2 h3 => ?_⟩
   rw[hphi i' h2,h1.2 i' h2 h3,h1.2 top ht (by omega)];simp
 ·rw[hphi i h2]
  by_cases e:m=j
  ·rw[e];exact hz i h2 (by omega)
  ·rw[h.zr i (by omega) h2 m (by omega),h.zr top (Nat.le_refl _) ht m (by omega)];simp
structure KerOk (f:Po P) (B:List (Po P)):Prop where
 dgb:∀ b∈B,dg b<dg f
 fx:∀ b∈B,f∣pw b (pn P)-b
 sp:∀ v,dg v<dg f→f∣pw v (pn P)-v→∃ a:Nat→Int,v=li a (fun i=>B.getD i 0) B.length
 ind:∀ a:Nat→Int,li a (fun i=>B.getD i 0) B.length=0→∀ i,i<B.length→a i % P.p=0
theorem li_tail {a:Nat→Int} {R:Nat→Po P} {t:Nat} (h:∀ i,i<t→cn (a i)*R i=0):∀ m,li a R (t+m)=li (fun i=>a (t+i)) (fun i=>R (t+i)) m
 | 0=>sm_zero h
 | m+1=>by
  show li a R (t+m)+cn (a (t+m))*R (t+m)=_
  rw[li_tail h m];rfl
theorem Kn.done {f:Po P} {n:Nat} {R:Nat→Po P} {top:Nat} (hn:dg f=n+1) (ht:top≤n) (h:Kn f n R top n):KerOk f ((List.range (n-top)).map fun i=>R (top+i)):=by
 have hf:f≠0:=ne_0 (by omega)
 have hg:∀ i,i<n-top→((List.range (n-top)).map fun i=>R (top+i)).getD i 0=R (top+i):=fun i hi=>by simp[hi]
 have hl:((List.range (n-top)).map fun i=>R (top+i)).length=n-top:=by simp
 have hphi:∀ i,top≤i→i<n→phi f (R i)=0:=fun i h1 h2=>dg_eq_0.1 (by
  have h3:dg (phi f (R i))≤n:=by have:=rm_dg (pw (R i) (pn P)-R i) hf;unfold phi;omega
  refine Nat.le_zero.1 (dg_le fun c _ => ?_)
  by_cases hc:c<n
  ·exact h.zr i h1 h2 c hc
  ·exact co_big (by omega))
 refine⟨fun b hb => ?_,fun b hb => ?_,fun v hv hx => ?_,fun a h0 i hi => ?_⟩
 ·obtain⟨i,hi,rfl⟩:=List.mem_map.1 hb
  have:=h.dgr (top+i) (by have:=List.mem_range.1 hi;omega)
  omega
 ·obtain⟨i,hi,rfl⟩:=List.mem_map.1 hb
  exact (phi_iff hf).1 (hphi _ (by omega) (by have:=List.mem_range.1 hi;omega))
 ·obtain⟨a,ha⟩:=h.bs.sp v (by omega)
  have h1:=(phi_iff hf).2 hx
  rw[ha,phi_li hf] at h1
  obtain⟨w,hw⟩:=h.piv
  have h2:∀ m i,i<m→i<top→a i % P.p=0:=by
   intro m
   induction m with
   | zero=>intro i hi;omega
   | succ m ih =>
    intro i hi hit
    have h3:=co_li a (fun i=>phi f (R i)) (w i) (k:=i) (n:=n) (by omega) (fun i' hi' hne=>by
     rcases Nat.lt_or_ge i' i with hlt | hge
     ·have:=ih i' (by omega) (by omega)
      rw[Int.mul_emod,this];simp
     ·rw[(hw i hit).2 i' hi' (by omega)];simp)
    rw[h1,co_0] at h3
    rcases int_pr h3.symm with h4 | h4
    ·exact h4
    ·rw[co_mod] at h4
     exact absurd h4 (hw i hit).1
  refine⟨fun i=>a (top+i),?_⟩
  have h3:=li_tail (a:=a) (R:=R) (t:=top) (fun i hi=>by rw[cn_mod (h2 _ i (Nat.lt_succ_self i) hi),zero_mul]) (n-top)
  rw[show top+(n-top)=n by omega] at h3
  rw[hl,ha,h3]
  unfold li
  refine sm_congr fun i hi => ?_
  exact congrArg (cn (a (top+i)) * ·) (hg i hi).symm
 ·rw[hl] at h0 hi
  have h1:li (fun i=>if i<top then 0 else a (i-top)) R n=0:=by
   have h3:=li_tail (a:=fun i=>if i<top then 0 else a (i-top)) (R:=R) (t:=top) (fun i hi=>by rw[if_pos hi];exact zero_mul _) (n-top)
   rw[show top+(n-top)=n by omega] at h3
   rw[h3,←h0]
   unfold li
   refine sm_congr fun i hi => ?_
   show cn (if top+i<top then 0 else a (top+i-top))*R (top+i)=cn (a i)*_
   rw[if_neg (by omega),Nat.add_sub_cancel_left]
   exact congrArg (cn (a i) * ·) (hg i hi).symm
  have h2:=h.bs.ind _ h1 (top+i) (by omega)
  rwa[if_neg (by omega),Nat.add_sub_cancel_left] at h2
end Go.Proofs.Ytlnhembcfhfpkaa.Fx
end

section
namespace Go.Proofs.Ytlnhembcfhfpkaa.Fx
open Go.RowKit Go.Proofs.Ytlnhembcfhfpkaa.M
set_option linter.unusedSimpArgs false
set_option linter.unusedVariables false
variable {P:Pr}
def at_ (o:List (Po P)) (a:Nat):Po P:=o.getD a 0
theorem at_upd {o:List (Po P)} {i a:Nat} {y g:Po P} (hi:i<o.length):at_ (o.set i y++[g]) a=if a=i then y else if a=o.length then g else at_ o a:=by
 unfold at_
 rw[List.getD_eq_getElem?_getD,List.getD_eq_getElem?_getD]
 by_cases h1:a<o.length
 ·rw[List.getElem?_append_left (by simpa using h1),List.getElem?_set]
  by_cases h2:i=a
  ·subst h2;simp[hi]
  ·rw[if_neg h2,if_neg (fun e=>h2 e.symm),if_neg (by omega)]
 ·rw[List.getElem?_append_right (by simpa using Nat.not_lt.1 h1),if_neg (by omega)]
  by_cases h2:a=o.length
  ·subst h2;simp
  ·rw[if_neg h2,List.getElem?_eq_none (by simp;omega),List.getElem?_eq_none (by omega)]
theorem len_upd (o:List (Po P)) (i:Nat) (y g:Po P):(o.set i y++[g]).length=o.length+1:=by simp
theorem mem_at {o:List (Po P)} {x:Po P}:x∈o↔∃ a,a<o.length∧at_ o a=x:=by
 rw[List.mem_iff_getElem]
 constructor
 ·rintro⟨a,h,rfl⟩;exact⟨a,h,by simp[at_,h]⟩
 ·rintro⟨a,h,rfl⟩;exact⟨a,h,by simp[at_,h]⟩
structure Sqf (f:Po P):Prop where
 mo:Mo f
 d2:2≤dg f
 sq:∀ q,Irr q→val q f≤1
structure SI (f:Po P) (o:List (Po P)):Prop where
 mo:∀ a,a<o.length→Mo (at_ o a)
 d2:∀ a,a<o.length→2≤dg (at_ o a)
 dv:∀ a,a<o.length→at_ o a∣f
 ex:∀ q,Irr q→q∣f→∃ a,a<o.length∧q∣at_ o a
 pw:∀ a b,a<o.length→b<o.length→a≠b→∀ q,Irr q→q∣at_ o a→¬ q∣at_ o b
theorem SI.start {f:Po P} (h:Sqf f):SI f [f]:=by
 have e:∀ a,a<([f]:List (Po P)).length→at_ [f] a=f:=fun a ha=>by
  obtain rfl:a=0:=by simpa using ha
  rfl
 refine⟨fun a ha=>by rw[e a ha];exact h.mo,fun a ha=>by rw[e a ha];exact h.d2,fun a ha=>by rw[e a ha];exact dvd_refl f,fun q hq hd=>⟨0,by simp,hd⟩,fun a b ha hb hne => ?_⟩
 simp at ha hb
 omega
theorem Sqf.no {f x g q:Po P} (h:Sqf f) (hx:x∣f) (hm:Mo x) (hg:Mo g) (hgx:g∣x) (hq:Irr q) (h1:q∣qo x g) (h2:q∣g):False:=by
 have a1:=qo_val hq hm hg hgx
 have a2:=(dvd_iff hq (qo_mo hm hg hgx).ne).1 h1
 have a3:=(dvd_iff hq hg.ne).1 h2
 have a4:=val_dvd hq hx h.mo.ne
 have a5:=h.sq q hq
 omega
theorem SI.step {f g:Po P} {o:List (Po P)} {i:Nat} (hf:Sqf f) (h:SI f o) (hi:i<o.length) (hg:Mo g) (hd:g∣at_ o i) (h1:1<dg g) (h2:dg g<dg (at_ o i)):SI f (o.set i (qo (at_ o i) g)++[g]):=by
 have hm:=h.mo i hi
 have hqm:=qo_mo hm hg hd
 have hqd:=qo_dg hm hg hd
 have hdv:qo (at_ o i) g∣at_ o i:=⟨g,(qo_mul hg.ne hd).symm⟩
 refine⟨fun a ha => ?_,fun a ha => ?_,fun a ha => ?_,fun q hq hqf => ?_,fun a b ha hb hne q hq => ?_⟩
 ·rw[len_upd] at ha
  rw[at_upd hi]
  split
  ·exact hqm
  ·split
   ·exact hg
   ·exact h.mo a (by omega)
 ·rw[len_upd] at ha
  rw[at_upd hi]
  split
  ·omega
  ·split
   ·omega
   ·exact h.d2 a (by omega)
 ·rw[len_upd] at ha
  rw[at_upd hi]
  split
  ·exact dvd_trans hdv (h.dv i hi)
  ·split
   ·exact dvd_trans hd (h.dv i hi)
   ·exact h.dv a (by omega)
 ·obtain⟨a,ha,hqa⟩:=h.ex q hq hqf
  by_cases e:a=i
  ·subst e
   have h3:q∣qo (at_ o a) g*g:=by rw[qo_mul hg.ne hd];exact hqa
   rcases hq.pr h3 with h4 | h4
   ·exact⟨a,by rw[len_upd];omega,by rw[at_upd hi,if_pos rfl];exact h4⟩
   ·exact⟨o.length,by rw[len_upd];omega,by rw[at_upd hi,if_neg (by omega),if_pos rfl];exact h4⟩
  ·exact⟨a,by rw[len_upd];omega,by rw[at_upd hi,if_neg e,if_neg (by omega)];exact hqa⟩
 ·rw[len_upd] at ha hb
  rw[at_upd hi,at_upd hi]
  by_cases ea:a=i
  ·rw[if_pos ea,if_neg (by omega)]
   by_cases eb:b=o.length
   ·rw[if_pos eb]
    exact fun h3 h4=>hf.no (h.dv i hi) hm hg hd hq h3 h4
   ·rw[if_neg eb]
    exact fun h3=>h.pw i b hi (by omega) (by omega) q hq (dvd_trans h3 hdv)
  ·rw[if_neg ea]
   by_cases ea2:a=o.length
   ·rw[if_pos ea2]
    by_cases eb:b=i
    ·rw[if_pos eb]
     exact fun h3 h4=>hf.no (h.dv i hi) hm hg hd hq h4 h3
    ·rw[if_neg eb,if_neg (by omega)]
     exact fun h3=>h.pw i b hi (by omega) (by omega) q hq (dvd_trans h3 hd)
   ·rw[if_neg ea2]
    by_cases eb:b=i
    ·rw[if_pos eb]
     exact fun h3 h4=>h.pw a i (by omega) hi (by omega) q hq h3 (dvd_trans h4 hdv)
    ·rw[if_neg eb]
     by_cases eb2:b=o.length
     ·rw[if_pos eb2]
      exact fun h3 h4=>h.pw a i (by omega) hi (by omega) q hq h3 (dvd_trans h4 hd)
     ·rw[if_neg eb2]
      exact h.pw a b (by omega) (by omega) hne q hq
def Cst (v x:Po P):Prop:=∃ s:Nat,x∣v-cn s
theorem Cst.of {v x y:Po P} (h:Cst v x) (hd:y∣x):Cst v y:=by
 obtain⟨s,hs⟩:=h
 exact⟨s,dvd_trans hd hs⟩
theorem cst_lin (v:Po P) {x:Po P} (h:x≠0) (h2:dg x≤2):Cst v x:=by
 have h1:=rm_dg v h
 have h3:=eq_cn (f:=rm v x) (by omega)
 have h4:=dvd_rm (f:=v) h
 have h5:=(co_rg (rm v x) 0).1
 refine⟨(co (rm v x) 0).toNat,?_⟩
 rw[show ((co (rm v x) 0).toNat:Int)=co (rm v x) 0 by omega,←h3]
 exact h4
noncomputable def spI (m:Nat) (v:Po P) (i:Nat):Nat→Nat→List (Po P)→List (Po P)
 | 0,_,o=>o
 | k+1,s,o=>if s<pn P∧o.length<m∧2<dg (at_ o i) then
   let g:=gc (at_ o i) (v-cn s)
   if 1<dg g∧dg g<dg (at_ o i) then spI m v i k (s+1) (o.set i (qo (at_ o i) g)++[g]) else spI m v i k (s+1) o
  else o
noncomputable def spM (m:Nat) (v:Po P):Nat→Nat→List (Po P)→List (Po P)
 | 0,_,o=>o
 | k+1,i,o=>if i<o.length∧o.length<m then spM m v k (i+1) (spI m v i (pn P) 0 o) else o
noncomputable def spB (m:Nat) (B:List (Po P)) (o:List (Po P)):List (Po P):=B.foldl (fun o v=>spM m v m 0 o) o
structure Fin_ (f:Po P) (m:Nat) (o o':List (Po P)):Prop where
 si:SI f o'
 le:o.length≤o'.length
 lm:o.length≤m→o'.length≤m
 sub:∀ a,a<o'.length→∃ b,b<o.length∧at_ o' a∣at_ o b
theorem Fin_.rfl_ {f:Po P} {m:Nat} {o:List (Po P)} (h:SI f o):Fin_ f m o o:=⟨h,Nat.le_refl _,id,fun a ha=>⟨a,ha,dvd_refl _⟩⟩
theorem Fin_.tr {f:Po P} {m:Nat} {o o' o'':List (Po P)} (h:Fin_ f m o o') (h':Fin_ f m o' o''):Fin_ f m o o'':=⟨h'.si,Nat.le_trans h.le h'.le,fun x=>h'.lm (h.lm x),fun a ha=>by
 obtain⟨b,hb,hd⟩:=h'.sub a ha
 obtain⟨c,hc,hd'⟩:=h.sub b hb
 exact⟨c,hc,dvd_trans hd hd'⟩⟩
theorem spI_ok {f v:Po P} (hf:Sqf f) (hv:f∣pw v (pn P)-v) (m i:Nat):∀ (k s:Nat) (o:List (Po P)),pn P≤k+s→i<o.length→SI f o →
  (∀ s',s'<s→∀ q,Irr q→q∣at_ o i→q∣v-cn s'→Cst v (at_ o i)) →
  Fin_ f m o (spI m v i k s o)∧(∀ a,a<o.length→a≠i→at_ (spI m v i k s o) a=at_ o a) ∧
  (∀ a,o.length≤a→a<(spI m v i k s o).length→Cst v (at_ (spI m v i k s o) a)) ∧
  ((spI m v i k s o).length<m→Cst v (at_ (spI m v i k s o) i)):=by
 have stop:∀ (s:Nat) (o:List (Po P)),pn P≤s→i<o.length→SI f o→(∀ s',s'<s→∀ q,Irr q→q∣at_ o i→q∣v-cn s'→Cst v (at_ o i))→Cst v (at_ o i):=by
  intro s o hs hi h hH
  obtain⟨q,hq,hqd⟩:=irr_of (h.d2 i hi)
  obtain⟨s',hs',hd⟩:=fix_cn hq (dvd_trans (dvd_trans hqd (h.dv i hi)) hv)
  exact hH s' (by omega) q hq hqd hd
 intro k
 induction k with
 | zero =>
  intro s o hk hi h hH
  exact⟨Fin_.rfl_ h,fun a _ _=>rfl,fun a h1 h2=>absurd h2 (by rw[spI];omega),fun _=>stop s o (by omega) hi h hH⟩
 | succ k ih =>
  intro s o hk hi h hH
  rw[spI]
  split
  ·rename_i hc
   have hg:Mo (gc (at_ o i) (v-cn s)):=gc_mo (.inl (h.mo i hi).ne)
   have hgd:=gc_dl (at_ o i) (v-cn s)
   simp only
   split
   ·rename_i hsp
    have hS:=h.step hf hi hg hgd hsp.1 hsp.2
    have hdv:qo (at_ o i) (gc (at_ o i) (v-cn s))∣at_ o i:=⟨_,(qo_mul hg.ne hgd).symm⟩
    have hat:at_ (o.set i (qo (at_ o i) (gc (at_ o i) (v-cn s)))++[gc (at_ o i) (v-cn s)]) i=qo (at_ o i) (gc (at_ o i) (v-cn s)):=by rw[at_upd hi,if_pos rfl]
    obtain⟨i1,i2,i3,i4⟩:=ih (s+1) (o.set i (qo (at_ o i) (gc (at_ o i) (v-cn s)))++[gc (at_ o i) (v-cn s)]) (by omega) (by rw[len_upd];omega) hS (fun s' hs' q hq hqd hqs=>by
     rw[hat] at hqd ⊢
     by_cases e:s'=s
     ·subst e
      exact (hf.no (h.dv i hi) (h.mo i hi) hg hgd hq hqd (dvd_gc (dvd_trans hqd hdv) hqs)).elim
     ·exact (hH s' (by omega) q hq (dvd_trans hqd hdv) hqs).of hdv)
    have hF:Fin_ f m o (o.set i (qo (at_ o i) (gc (at_ o i) (v-cn s)))++[gc (at_ o i) (v-cn s)]):=⟨hS,by rw[len_upd];omega,fun _=>by rw[len_upd];omega,fun a ha=>by
     rw[at_upd hi]
     rw[len_upd] at ha
     split
     ·exact⟨i,hi,hdv⟩
     ·split
      ·exact⟨i,hi,hgd⟩
      ·exact⟨a,by omega,dvd_refl _⟩⟩
    refine⟨hF.tr i1,fun a ha hne => ?_,fun a h1 h2 => ?_,i4⟩
    ·rw[i2 a (by rw[len_upd];omega) hne,at_upd hi,if_neg hne,if_neg (by omega)]
    ·by_cases e:a=o.length
     ·subst e
      rw[i2 _ (by rw[len_upd];omega) (by omega),at_upd hi,if_neg (by omega),if_pos rfl]
      exact⟨s,gc_dr _ _⟩
     ·exact i3 a (by rw[len_upd];omega) h2
   ·rename_i hsp
    refine ih (s+1) o (by omega) hi h fun s' hs' q hq hqd hqs => ?_
    by_cases e:s'=s
    ·subst e
     have h1:=dvd_gc hqd hqs
     have h2:=dg_dvd h1 hg.ne
     have h3:=hq.d2
     have h4:dg (at_ o i)≤dg (gc (at_ o i) (v-cn s')):=by
      apply Classical.byContradiction
      intro h5
      exact hsp ⟨by omega,by omega⟩
     have h5:=dvd_eq hgd hg (h.mo i hi) h4
     exact⟨s',by rw[←h5];exact gc_dr _ _⟩
    ·exact hH s' (by omega) q hq hqd hqs
  ·rename_i hc
   refine⟨Fin_.rfl_ h,fun a _ _=>rfl,fun a h1 h2=>absurd h2 (by omega),fun hm => ?_⟩
   by_cases h1:s<pn P
   ·exact cst_lin v (h.mo i hi).ne (by
     apply Classical.byContradiction
     intro h2
     exact hc ⟨h1,hm,by omega⟩)
   ·exact stop s o (by omega) hi h hH
theorem spM_ok {f v:Po P} (hf:Sqf f) (hv:f∣pw v (pn P)-v) (m:Nat):∀ (k i:Nat) (o:List (Po P)),m≤k+i→SI f o→(∀ a,a<i→a<o.length→Cst v (at_ o a)) →
  Fin_ f m o (spM m v k i o)∧((spM m v k i o).length<m→∀ a,a<(spM m v k i o).length→Cst v (at_ (spM m v k i o) a)):=by
 intro k
 induction k with
 | zero=>exact fun i o hk h hC=>⟨Fin_.rfl_ h,fun h1 a ha=>hC a (by rw[spM] at h1 ha;omega) ha⟩
 | succ k ih =>
  intro i o hk h hC
  rw[spM]
  split
  ·rename_i hc
   obtain⟨a1,a2,a3,a4⟩:=spI_ok hf hv m i (pn P) 0 o (by omega) hc.1 h (fun s' hs'=>by omega)
   by_cases hlt:(spI m v i (pn P) 0 o).length<m
   ·obtain⟨b1,b2⟩:=ih (i+1) (spI m v i (pn P) 0 o) (by omega) a1.si (fun a ha hal=>by
     by_cases e:a=i
     ·rw[e];exact a4 hlt
     ·rw[a2 a (by omega) e]
      exact hC a (by omega) (by omega))
    exact⟨a1.tr b1,b2⟩
   ·have e:spM m v k (i+1) (spI m v i (pn P) 0 o)=spI m v i (pn P) 0 o:=by
     cases k with
     | zero=>rfl
     | succ k=>rw[spM,if_neg (fun h=>hlt h.2)]
    rw[e]
    exact⟨a1,fun h=>absurd h hlt⟩
  ·rename_i hc
   exact⟨Fin_.rfl_ h,fun h1 a ha=>hC a (by
    apply Classical.byContradiction
    intro h2
    exact hc ⟨by omega,h1⟩) ha⟩
theorem spB_ok {f:Po P} (hf:Sqf f) (m:Nat):∀ (B:List (Po P)) (o:List (Po P)),(∀ v∈B,f∣pw v (pn P)-v)→SI f o→Fin_ f m o (spB m B o)∧((spB m B o).length<m→∀ v∈B,∀ a,a<(spB m B o).length→Cst v (at_ (spB m B o) a))
 | [],o,_,h=>⟨Fin_.rfl_ h,fun _ v hv=>by simp at hv⟩
 | v::B,o,hB,h=>by
  obtain⟨a1,a2⟩:=spM_ok hf (hB v (by simp)) m m 0 o (by omega) h (fun a ha=>by omega)
  obtain⟨b1,b2⟩:=spB_ok hf m B (spM m v m 0 o) (fun w hw=>hB w (by simp[hw])) a1.si
  show Fin_ f m o (spB m B (spM m v m 0 o))∧_
  refine⟨a1.tr b1,fun hlt w hw a ha => ?_⟩
  rcases List.mem_cons.1 hw with rfl | hw
  ·obtain⟨b,hb,hd⟩:=b1.sub a ha
   have:=b1.le
   exact (a2 (by have:(spB m (w::B) o).length=(spB m B (spM m w m 0 o)).length:=rfl;omega) b hb).of hd
  ·exact b2 hlt w hw a ha
end Go.Proofs.Ytlnhembcfhfpkaa.Fx
end

section
namespace Go.Proofs.Ytlnhembcfhfpkaa.Fx
open Go.RowKit Go.Proofs.Ytlnhembcfhfpkaa.M
set_option linter.unusedSimpArgs false
set_option linter.unusedVariables false
variable {P:Pr}
theorem sqf_dvd {f v:Po P} (hf:Sqf f) (h:∀ q,Irr q→q∣f→q∣v):f∣v:=by
 by_cases hv:v=0
 ·rw[hv];exact dvd_0 f
 ·refine dvd_of_val hf.mo hv fun q hq => ?_
  have h1:=hf.sq q hq
  rcases Nat.eq_zero_or_pos (val q f) with h0 | h0
  ·omega
  ·have:=(dvd_iff hq hv).1 (h q hq ((dvd_iff hq hf.mo.ne).2 h0))
   omega
theorem KerOk.pos {f:Po P} {B:List (Po P)} (hf:Sqf f) (h:KerOk f B):1≤B.length:=by
 obtain⟨a,ha⟩:=h.sp 1 (by rw[dg_1];have:=hf.d2;omega) (by rw[pw_one,sub_self];exact dvd_0 f)
 rcases Nat.eq_zero_or_pos B.length with h0 | h0
 ·rw[h0] at ha
  exact absurd ha one_ne
 ·exact h0
theorem pieces_many {f:Po P} {B o:List (Po P)} (hf:Sqf f) (hB:KerOk f B) (h:SI f o) (hc:∀ v∈B,∀ a,a<o.length→Cst v (at_ o a)):B.length≤o.length:=by
 rcases Nat.lt_or_ge o.length B.length with hlt | hge
 ·exfalso
  have hb:∀ i,i<B.length→B.getD i 0∈B:=fun i hi=>by simp[hi]
  have hs:∀ j i:Nat,∃ s:Nat,i<B.length→j<o.length→at_ o j∣B.getD i 0-cn s:=fun j i=>by
   by_cases hi:i<B.length
   ·by_cases hj:j<o.length
    ·obtain⟨s,hs⟩:=hc _ (hb i hi) j hj
     exact⟨s,fun _ _=>hs⟩
    ·exact⟨0,fun _ h=>absurd h hj⟩
   ·exact⟨0,fun h=>absurd h hi⟩
  obtain⟨a,⟨i0,hi0,ha0⟩,hA⟩:=hom_sol (P:=P) o.length B.length (fun j i=>((hs j i).choose:Int)) hlt
  let v:=li a (fun i=>B.getD i 0) B.length
  have h1:∀ j,j<o.length→at_ o j∣v:=fun j hj=>by
   have h2:v=li a (fun i=>B.getD i 0-cn ((hs j i).choose:Int)) B.length:=by
    have h3:li a (fun i=>B.getD i 0-cn ((hs j i).choose:Int)) B.length+li a (fun i=>(cn ((hs j i).choose:Int):Po P)) B.length=v:=by
     show sm _ _+sm _ _=sm _ _
     rw[←sm_add]
     exact sm_congr fun i _=>rg_ [cn (a i),B.getD i 0,cn ((hs j i).choose:Int)] (x0*(x1-x2)+x0*x2) (x0*x1)
    rw[hA j hj,add_zero] at h3
    exact h3.symm
   rw[h2]
   exact dvd_li fun i hi=>(hs j i).choose_spec hi hj
  have h2:f∣v:=sqf_dvd hf fun q hq hd=>by
   obtain⟨j,hj,hqj⟩:=h.ex q hq hd
   exact dvd_trans hqj (h1 j hj)
  have h3:v=0:=by
   apply Classical.byContradiction
   intro h4
   have h5:=dg_dvd h2 h4
   have h6:dg v≤dg f-1:=li_dg fun i hi=>by have:=hB.dgb _ (hb i hi);omega
   have:=hf.d2
   omega
  exact ha0 (hB.ind a h3 i0 hi0)
 ·exact hge
theorem pw_sub_dvd (x v w:Po P) (h:x∣v-w):∀ n,x∣pw v n-pw w n
 | 0=>by rw[pw_0,pw_0,sub_self];exact dvd_0 x
 | n+1=>by
  have ih:=pw_sub_dvd x v w h n
  rw[pw_s,pw_s,show pw v n*v-pw w n*w=(pw v n-pw w n)*v+pw w n*(v-w) from rg_ [pw v n,v,pw w n,w] (x0*x1-x2*x3) ((x0-x2)*x1+x2*(x1-x3))]
  exact dvd_add (dvd_mul_of ih _) (dvd_mul_of' h _)
theorem li_swap (d:Nat→Int) (c:Nat→Nat→Int) (R:Nat→Po P) (m:Nat):∀ n,sm (fun i=>cn (d i)*li (c i) R m) n=sm (fun j=>li d (fun i=>(cn (c i j):Po P)) n*R j) m
 | 0=>by
  rw[sm]
  exact (sm_zero fun j _=>zero_mul _).symm
 | n+1=>by
  rw[sm,li_swap d c R m n]
  unfold li
  rw[mul_comm (cn (d n)),←sm_mul,←sm_add]
  refine sm_congr fun j _ => ?_
  show sm (fun i=>cn (d i)*cn (c i j)) n*R j+cn (c n j)*R j*cn (d n)=(sm (fun i=>cn (d i)*cn (c i j)) n+cn (d n)*cn (c n j))*R j
  exact rg_ [sm (fun i=>cn (d i)*cn (c i j)) n,R j,cn (c n j),cn (d n)] (x0*x1+x2*x1*x3) ((x0+x3*x2)*x1)
theorem irr_few {f:Po P} {B qs:List (Po P)} (hf:Sqf f) (hB:KerOk f B) (hq:∀ a,a<qs.length→Irr (at_ qs a)∧at_ qs a∣f) (hne:∀ a b,a<qs.length→b<qs.length→a≠b→at_ qs a≠at_ qs b):qs.length≤B.length:=by
 rcases Nat.lt_or_ge B.length qs.length with hlt | hge
 ·exfalso
  have hf0:f≠0:=hf.mo.ne
  have key:∀ i,∃ e:Po P,i<qs.length→(dg e<dg f∧f∣pw e (pn P)-e∧at_ qs i∣e-1∧∀ k,k<qs.length→k≠i→at_ qs k∣e):=by
   intro i
   by_cases hi:i<qs.length
   ·obtain⟨hI,hd⟩:=hq i hi
    let r:=qo f (at_ qs i)
    have hr:r*at_ qs i=f:=qo_mul hI.ne hd
    have hrm:Mo r:=qo_mo hf.mo hI.mo hd
    have hnd:¬ at_ qs i∣r:=fun h=>by
     have h1:=qo_val hI hf.mo hI.mo hd
     have h2:=(dvd_iff hI hrm.ne).1 h
     have h3:=hf.sq _ hI
     rw[val_self hI] at h1
     have h4:val (at_ qs i) r=val (at_ qs i) (qo f (at_ qs i)):=rfl
     omega
    have hcop:Cop (at_ qs i) r:=by
     rcases hI.cop r with h | h
     ·exact absurd h hnd
     ·exact h
    obtain⟨u,w,huw⟩:=hcop
    let e:=w*r
    have he1:at_ qs i∣e-1:=⟨-u,by
     show w*r-1=_
     rw[←huw]
     exact rg_ [w,r,u,at_ qs i] (x0*x1-(x2*x3+x0*x1)) (x3 * -x2)⟩
    have her:r∣e:=dvd_mul_l r w
    have hpe:at_ qs i∣pw e (pn P)-e:=by
     have h1:=pw_sub_dvd _ _ _ he1 (pn P)
     rw[pw_one] at h1
     have:=dvd_sub h1 he1
     rwa[show pw e (pn P)-1-(e-1)=pw e (pn P)-e from rg_ [pw e (pn P),e] (x0-1-(x1-1)) (x0-x1)] at this
    have hpr:r∣pw e (pn P)-e:=by
     obtain⟨m,hm⟩:∃ m,pn P=m+1:=⟨pn P-1,by have:=pn_2 P;omega⟩
     rw[hm,pw_s]
     exact dvd_sub (dvd_mul_of' her _) her
    have hfe:f∣pw e (pn P)-e:=by
     rw[←hr,mul_comm]
     exact Cop.mul_dvd ⟨u,w,huw⟩ hpe hpr
    have hrm':=dvd_rm (f:=e) hf0
    refine⟨rm e f,fun _=>⟨rm_dg e hf0,?_,?_,fun k hk hki => ?_⟩⟩
    ·have h1:=pw_sub_dvd f _ _ hrm' (pn P)
     have h2:=dvd_sub (dvd_add hfe hrm') h1
     rwa[show pw e (pn P)-e+(e-rm e f)-(pw e (pn P)-pw (rm e f) (pn P))=pw (rm e f) (pn P)-rm e f from
      rg_ [pw e (pn P),e,rm e f,pw (rm e f) (pn P)] (x0-x1+(x1-x2)-(x0-x3)) (x3-x2)] at h2
    ·have h1:=dvd_sub he1 (dvd_trans hd hrm')
     rwa[show e-1-(e-rm e f)=rm e f-1 from rg_ [e,rm e f] (x0-1-(x0-x1)) (x1-1)] at h1
    ·obtain⟨hK,hkd⟩:=hq k hk
     have h1:at_ qs k∣r:=by
      have h2:at_ qs k∣r*at_ qs i:=by rw[hr];exact hkd
      rcases hK.pr h2 with h3 | h3
      ·exact h3
      ·exact absurd (hK.eq hI h3) (hne k i hk hi hki)
     have h2:=dvd_sub (dvd_trans h1 her) (dvd_trans hkd hrm')
     rwa[show e-(e-rm e f)=rm e f from rg_ [e,rm e f] (x0-(x0-x1)) x1] at h2
   ·exact⟨0,fun h=>absurd h hi⟩
  let E:Nat→Po P:=fun i=>(key i).choose
  have hE:∀ i,i<qs.length→(dg (E i)<dg f∧f∣pw (E i) (pn P)-E i∧at_ qs i∣E i-1∧∀ k,k<qs.length→k≠i→at_ qs k∣E i):=fun i=>(key i).choose_spec
  have hc:∀ i,∃ c:Nat→Int,i<qs.length→E i=li c (fun j=>B.getD j 0) B.length:=fun i=>by
   by_cases hi:i<qs.length
   ·obtain⟨c,h⟩:=hB.sp (E i) (hE i hi).1 (hE i hi).2.1
    exact⟨c,fun _=>h⟩
   ·exact⟨fun _=>0,fun h=>absurd h hi⟩
  obtain⟨d,⟨k,hk,hdk⟩,hd⟩:=hom_sol (P:=P) B.length qs.length (fun j i=>(hc i).choose j) hlt
  have h1:sm (fun i=>cn (d i)*E i) qs.length=0:=by
   rw[sm_congr (g:=fun i=>cn (d i)*li (hc i).choose (fun j=>B.getD j 0) B.length) fun i hi=>congrArg (cn (d i) * ·) ((hc i).choose_spec hi),li_swap]
   refine sm_zero fun j hj => ?_
   rw[hd j hj,zero_mul]
  have h2:at_ qs k∣cn (d k):=by
   have h3:=sm_diff (f:=fun i=>cn (d i)*E i) (g:=fun i=>if i=k then 0 else cn (d i)*E i) (e:=cn (d k)*E k) hk (fun i _ hne=>(if_neg hne).symm) (by rw[if_pos rfl,zero_add])
   rw[h1] at h3
   have h4:∀ n,n≤qs.length→at_ qs k∣sm (fun i=>if i=k then 0 else cn (d i)*E i) n:=by
    intro n
    induction n with
    | zero=>exact fun _=>dvd_0 _
    | succ n ih =>
     intro hn
     refine dvd_add (ih (by omega)) ?_
     show at_ qs k∣(if n=k then 0 else cn (d n)*E n)
     split
     ·exact dvd_0 _
     ·rename_i hnk
      exact dvd_mul_of' ((hE n (by omega)).2.2.2 k hk (fun e=>hnk e.symm)) _
   have h5:at_ qs k∣cn (d k)*E k:=dvd_of_add (h3 ▸ dvd_0 _) (h4 _ (Nat.le_refl _))
   rcases (hq k hk).1.pr h5 with h6 | h6
   ·exact h6
   ·exfalso
    have h7:=dvd_sub h6 (hE k hk).2.2.1
    rw[show E k-(E k-1)=1 from rg_ [E k] (x0-(x0-1)) 1] at h7
    exact (hq k hk).1.not_one h7
  exact hdk (cn_dvd (hq k hk).1 h2)
 ·exact hge
structure SpOk (f:Po P) (o:List (Po P)):Prop where
 ir:∀ x∈o,Irr x∧x∣f
 ex:∀ q,Irr q→q∣f→q∈o
 nd:o.Pairwise (fun x y=>x≠y)
theorem split_ok {f:Po P} {B:List (Po P)} (hf:Sqf f) (hB:KerOk f B):SpOk f (spB B.length B [f]):=by
 obtain⟨a1,a2⟩:=spB_ok hf B.length B [f] hB.fx (SI.start hf)
 have hpos:=hB.pos hf
 have hle:=a1.lm (by simpa using hpos)
 have h:=a1.si
 generalize spB B.length B [f]=o at *
 have heq:o.length=B.length:=by
  rcases Nat.lt_or_ge o.length B.length with hlt | hge
  ·have:=pieces_many hf hB h (a2 hlt)
   omega
  ·omega
 have hch:∀ a,∃ q:Po P,a<o.length→Irr q∧q∣at_ o a:=fun a=>by
  by_cases ha:a<o.length
  ·obtain⟨q,hq⟩:=irr_of (h.d2 a ha)
   exact⟨q,fun _=>hq⟩
  ·exact⟨0,fun h=>absurd h ha⟩
 obtain⟨cf,hcf⟩:∃ cf:Nat→Po P,∀ a,a<o.length→Irr (cf a)∧cf a∣at_ o a:=⟨fun a=>(hch a).choose,fun a=>(hch a).choose_spec⟩
 have hirr:∀ a,a<o.length→Irr (at_ o a):=fun a ha=>by
  obtain⟨q,hq,hqd⟩:=irr_of (h.d2 a ha)
  by_cases hd:dg (at_ o a)≤dg q
  ·rw[←dvd_eq hqd hq.mo (h.mo a ha) hd];exact hq
  ·exfalso
   obtain⟨r,hr⟩:=hqd
   have hr0:r≠0:=mul_ne_r (hr ▸ (h.mo a ha).ne)
   have h1:=dg_mul hq.ne hr0
   rw[←hr] at h1
   obtain⟨q',hq',hqd'⟩:=irr_of (f:=r) (by omega)
   have hq'a:q'∣at_ o a:=by rw[hr];exact dvd_mul_of' hqd' q
   have hqa:q∣at_ o a:=by rw[hr];exact dvd_mul_r q r
   have hqq:q≠q':=fun e=>by
    subst e
    have h2:=hf.sq q hq
    have h3:=val_dvd hq (h.dv a ha) hf.mo.ne
    have h4:val q (at_ o a)=val q q+val q r:=by rw[hr,val_mul hq hq.ne hr0]
    have h5:=(dvd_iff hq hr0).1 hqd'
    rw[val_self hq] at h4
    omega
   let qs:List (Po P):=((List.range o.length).map fun b=>if b=a then q else cf b)++[q']
   have hlen:qs.length=o.length+1:=by simp[qs]
   have hat:∀ b,b<o.length→at_ qs b=if b=a then q else cf b:=fun b hb=>by
    unfold at_
    rw[List.getD_eq_getElem?_getD,List.getElem?_append_left (by simpa using hb)]
    simp[hb]
   have hlast:at_ qs o.length=q':=by
    unfold at_
    rw[List.getD_eq_getElem?_getD,List.getElem?_append_right (by simp)]
    simp
   have hp:∀ b,b<o.length→Irr (at_ qs b)∧at_ qs b∣at_ o b:=fun b hb=>by
    rw[hat b hb]
    split
    ·rename_i e;rw[e];exact⟨hq,hqa⟩
    ·exact hcf b hb
   have:=irr_few (qs:=qs) hf hB (fun b hb=>by
    by_cases e:b=o.length
    ·rw[e,hlast];exact⟨hq',dvd_trans hq'a (h.dv a ha)⟩
    ·have hb':b<o.length:=by omega
     exact⟨(hp b hb').1,dvd_trans (hp b hb').2 (h.dv b hb')⟩) (fun b c hb hc hne he=>by
    by_cases eb:b=o.length
    ·have hc':c<o.length:=by omega
     rw[eb,hlast] at he
     by_cases eca:c=a
     ·rw[hat c hc',if_pos eca] at he
      exact hqq he.symm
     ·exact h.pw c a hc' ha eca _ (hp c hc').1 (hp c hc').2 (he ▸ hq'a)
    ·have hb':b<o.length:=by omega
     by_cases ec:c=o.length
     ·rw[ec,hlast] at he
      by_cases eba:b=a
      ·rw[hat b hb',if_pos eba] at he
       exact hqq he
      ·exact h.pw b a hb' ha eba _ (hp b hb').1 (hp b hb').2 (he.symm ▸ hq'a)
     ·have hc':c<o.length:=by omega
      exact h.pw b c hb' hc' hne _ (hp b hb').1 (hp b hb').2 (he ▸ (hp c hc').2))
   omega
 refine⟨fun x hx => ?_,fun q hq hd => ?_,?_⟩
 ·obtain⟨a,ha,rfl⟩:=mem_at.1 hx
  exact⟨hirr a ha,h.dv a ha⟩
 ·obtain⟨a,ha,hqa⟩:=h.ex q hq hd
  exact mem_at.2 ⟨a,ha,(hq.eq (hirr a ha) hqa).symm⟩
 ·rw[List.pairwise_iff_getElem]
  intro a b ha hb hab he
  have e1:o[a]=at_ o a:=by simp[at_,ha]
  have e2:o[b]=at_ o b:=by simp[at_,hb]
  rw[e1,e2] at he
  exact h.pw a b ha hb (by omega) _ (hirr a ha) (dvd_refl _) (he ▸ dvd_refl _)
end Go.Proofs.Ytlnhembcfhfpkaa.Fx
end

section
namespace Go.Proofs.Ytlnhembcfhfpkaa.Fx
open Go.RowKit Go.Proofs.Ytlnhembcfhfpkaa.M
set_option linter.unusedSimpArgs false
set_option linter.unusedVariables false
variable {P:Pr}
theorem rm_l (f g:Po P):(rm f g).l=rem f.l g.l P.p:=rfl
theorem rm_cong {f g m:Po P} (hm:m≠0) (h:m∣f-g):rm f m=rm g m:=rm_unique hm (by
 have:=dvd_add h (dvd_rm (f:=g) hm)
 rwa[show f-g+(g-rm g m)=f-rm g m from rg_ [f,g,rm g m] (x0-x1+(x1-x2)) (x0-x2)] at this) (rm_dg g hm)
theorem rm_self {f m:Po P} (hm:m≠0) (h:dg f<dg m):rm f m=f:=rm_unique hm (by rw[sub_self];exact dvd_0 m) h
theorem powL_ok {m:Po P} (hm:m≠0):∀ (n:Nat) (o f:Po P),dg o<dg m→∃ r:Po P,r.l=powL m.l P.p o.l f.l n∧m∣o*pw f n-r∧dg r<dg m:=by
 intro n
 induction n using Nat.strongRecOn with
 | _ n ih =>
  intro o f ho
  by_cases h0:n=0
  ·subst h0
   exact⟨o,by rw[powL_0],by rw[pw_0,mul_one,sub_self];exact dvd_0 m,ho⟩
  ·rw[powL_s h0,←mul_l,←mul_l,←rm_l,←rm_l]
   have e:(if n % 2=1 then (rm (o*f) m).l else o.l)=(if n % 2=1 then rm (o*f) m else o).l:=by split<;>rfl
   rw[e]
   obtain⟨r,h1,h2,h3⟩:=ih (n / 2) (by omega) (if n % 2=1 then rm (o*f) m else o) (rm (f*f) m) (by split;exact rm_dg _ hm;exact ho)
   refine⟨r,h1,?_,h3⟩
   have hsq:m∣pw (f*f) (n / 2)-pw (rm (f*f) m) (n / 2):=pw_sub_dvd m _ _ (dvd_rm hm) _
   have hff:pw (f*f) (n / 2)=pw f (2*(n / 2)):=by rw[pw_pw,pw_s,pw_1]
   rw[hff] at hsq
   by_cases hodd:n % 2=1
   ·rw[if_pos hodd] at h2
    have hn:n=2*(n / 2)+1:=by omega
    have e2:pw f n=pw f (2*(n / 2))*f:=by
     conv=>lhs;rw[hn]
     rfl
    rw[e2]
    have ho2:=dvd_rm (f:=o*f) hm
    have h4:=dvd_add (dvd_add (dvd_mul_of ho2 (pw f (2*(n / 2)))) (dvd_mul_of' hsq (rm (o*f) m))) h2
    rwa[show (o*f-rm (o*f) m)*pw f (2*(n / 2))+rm (o*f) m*(pw f (2*(n / 2))-pw (rm (f*f) m) (n / 2))+(rm (o*f) m*pw (rm (f*f) m) (n / 2)-r)=o*(pw f (2*(n / 2))*f)-r from
     rg_ [o,f,rm (o*f) m,pw f (2*(n / 2)),pw (rm (f*f) m) (n / 2),r] ((x0*x1-x2)*x3+x2*(x3-x4)+(x2*x4-x5)) (x0*(x3*x1)-x5)] at h4
   ·rw[if_neg hodd] at h2
    have hn:n=2*(n / 2):=by omega
    have e2:pw f n=pw f (2*(n / 2)):=by conv=>lhs;rw[hn]
    rw[e2]
    have h4:=dvd_add (dvd_mul_of' hsq o) h2
    rwa[show o*(pw f (2*(n / 2))-pw (rm (f*f) m) (n / 2))+(o*pw (rm (f*f) m) (n / 2)-r)=o*pw f (2*(n / 2))-r from
     rg_ [o,pw f (2*(n / 2)),pw (rm (f*f) m) (n / 2),r] (x0*(x1-x2)+(x0*x2-x3)) (x0*x1-x3)] at h4
theorem one_l:(1:Po P).l=[1]:=td_ext (1:Po P).td (by simp[Td,trim]) fun i=>by
 show co (cn 1) i=_
 rw[co_cn]
 rcases i with _ | i
 ·rw[if_pos rfl,em_self (by have:=P.p2;omega)];rfl
 ·simp
theorem powP_ok {f m:Po P} (hm:m≠0) (n:Nat):powP f.l n m.l P.p=(rm (pw f n) m).l:=by
 unfold powP
 rw[←one_l (P:=P),←rm_l,←rm_l]
 obtain⟨r,h1,h2,h3⟩:=powL_ok hm n (rm 1 m) (rm f m) (rm_dg 1 hm)
 rw[←h1]
 congr 1
 symm
 refine rm_unique hm ?_ h3
 have h4:=dvd_rm (f:=(1:Po P)) hm
 have h5:=pw_sub_dvd m _ _ (dvd_rm (f:=f) hm) n
 have h6:=dvd_add (dvd_add h5 (dvd_mul_of h4 (pw (rm f m) n))) h2
 rwa[show pw f n-pw (rm f m) n+(1-rm 1 m)*pw (rm f m) n+(rm 1 m*pw (rm f m) n-r)=pw f n-r from
  rg_ [pw f n,pw (rm f m) n,rm 1 m,r] (x0-x1+(1-x2)*x1+(x2*x1-x3)) (x0-x3)] at h6
def al (P:Pr):Nat→List (Po P)
 | 0=>[0]
 | d+1=>(List.range (pn P)).flatMap fun c:Nat=>(al P d).map fun g=>cn (c:Int)+X*g
theorem sb_cong {q g h:Po P} (hd:q∣g-h):∀ l:List Int,q∣sb g l-sb h l
 | []=>by rw[sb,sb,sub_self];exact dvd_0 q
 | a::l=>by
  rw[sb,sb]
  have h1:=dvd_add (dvd_mul_of hd (sb g l)) (dvd_mul_of' (sb_cong hd l) h)
  rwa[show (g-h)*sb g l+h*(sb g l-sb h l)=cn a+g*sb g l-(cn a+h*sb h l) from rg_ [g,h,sb g l,sb h l,cn a] ((x0-x1)*x2+x1*(x2-x3)) (x4+x0*x2-(x4+x1*x3))] at h1
end Go.Proofs.Ytlnhembcfhfpkaa.Fx
end
