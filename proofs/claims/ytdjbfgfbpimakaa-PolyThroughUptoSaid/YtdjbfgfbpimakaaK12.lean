/- Polynomials: what comes out of two by Euclid's steps: there is one such with small cofactors (Siegel), so all are small but for a factor. Polynomials: the value at a point: sizes; Horner's way, and power by power. Polynomials: the greatest common divisor; how large things get on the way to it. Polynomials: the states of Euclid's loops. Polynomials: a divisor's coefficients are small (Gauss's lemma; values at whole numbers). Polynomials: derivatives; what the parts without squares are found by. Determinants by the first row: their laws. Polynomials: the one of least degree through given points; how large it is (Lagrange's form). Polynomials: what stands at the end of Euclid's loop that keeps the factors. Sylvester's determinant: Euclid's steps, and products. Polynomials: what all coefficients have in common, of a product (Gauss). Polynomials: the value at a point, of many coefficients. Polynomials: the greatest common divisor, in the program and in the reference. Polynomials: the loop that finds the parts without squares: its states, how large they are. Fractions of short texts: how large they are; how long texts are together. Interpolation: how large it gets where all texts together have at most 2^20 letters. How much a list of texts takes (its bulk), of its data in the small machine's words. -/
import Derived.Test.YtdjbfgfbpimakaaRvAx
import Derived.Test.YtdjbfgfbpimakaaK11
import Derived.Test.YtdjbfgfbpimakaaK9
import Derived.Test.YtdjbfgfbpimakaaK5
import Derived.Test.YtdjbfgfbpimakaaPaEx
import Derived.Test.YtdjbfgfbpimakaaK4
import Derived.Test.YtdjbfgfbpimakaaRows
import Derived.SliceStrings
section
namespace Go.Proofs.Ytdjbfgfbpimakaa.M
set_option linter.unusedVariables false
theorem pigeon:∀ (m n:Nat) (f:Nat→Nat),(∀ x,x<n→f x<m)→m<n→∃ x y,x<y∧y<n∧f x=f y
 | 0,n,f,h,hn=>absurd (h 0 hn) (by omega)
 | m+1,n,f,h,hn=>by
  obtain⟨k,rfl⟩:∃ k,n=k+1:=⟨n-1,by omega⟩
  by_cases hv:∃ x,x<k∧f x=f k
  ·obtain⟨x,h1,h2⟩:=hv
   exact⟨x,k,h1,by omega,h2⟩
  ·have hne:∀ x,x<k→f x≠f k:=fun x hx e=>hv ⟨x,hx,e⟩
   have hg:∀ x,x<k→(if f x=m then f k else f x)<m:=fun x hx=>by
    have h1:=h x (by omega)
    have h2:=h k (by omega)
    have h3:=hne x hx
    split<;>omega
   obtain⟨x,y,h1,h2,h3⟩:=pigeon m k (fun x=>if f x=m then f k else f x) hg (by omega)
   refine⟨x,y,h1,by omega,?_⟩
   have h4:=hne x (by omega)
   have h5:=hne y h2
   split at h3<;>split at h3<;>omega
def sumZ:Nat→(Nat→Int)→Int
 | 0,_=>0
 | n+1,f=>sumZ n f+f n
theorem sumZ_sub:∀ (n:Nat) (f g:Nat→Int),sumZ n (fun i=>f i-g i)=sumZ n f-sumZ n g
 | 0,_,_=>rfl
 | n+1,f,g=>by
  have h:=sumZ_sub n f g
  simp only[sumZ];omega
theorem sumZ_abs:∀ (n:Nat) (f:Nat→Int) (H:Nat),(∀ i,i<n→(f i).natAbs≤H)→(sumZ n f).natAbs≤n*H
 | 0,_,_,_=>Nat.zero_le _
 | n+1,f,H,h=>by
  have h1:=sumZ_abs n f H fun i hi=>h i (by omega)
  have h2:=h n (by omega)
  rw[sumZ,Nat.succ_mul];omega
theorem sumZ_ext:∀ {n:Nat} {f g:Nat→Int},(∀ i,i<n→f i=g i)→sumZ n f=sumZ n g
 | 0,_,_,_=>rfl
 | n+1,f,g,h=>by rw[sumZ,sumZ,sumZ_ext fun i hi=>h i (by omega),h n (by omega)]
def dg (C:Nat):Nat→Nat→Nat
 | x,0=>x % C
 | x,j+1=>dg C (x / C) j
theorem dg_lt {C:Nat} (hC:0<C):∀ (j x:Nat),dg C x j<C
 | 0,x=>Nat.mod_lt _ hC
 | j+1,x=>dg_lt hC j (x / C)
theorem dg_ne {C:Nat} (hC:0<C):∀ (N x y:Nat),x<C^N→y<C^N→(∀ j,j<N→dg C x j=dg C y j)→x=y
 | 0,x,y,hx,hy,_=>by simp at hx hy;omega
 | N+1,x,y,hx,hy,h=>by
  have h0:x % C=y % C:=h 0 (by omega)
  have h1:=dg_ne hC N (x / C) (y / C) (Nat.div_lt_of_lt_mul (by rw[Nat.mul_comm,←Nat.pow_succ];exact hx)) (Nat.div_lt_of_lt_mul (by rw[Nat.mul_comm,←Nat.pow_succ];exact hy)) fun j hj=>h (j+1) (by omega)
  rw[←Nat.div_add_mod x C,←Nat.div_add_mod y C,h0,h1]
def cod (R:Nat):Nat→(Nat→Nat)→Nat
 | 0,_=>0
 | k+1,w=>cod R k w*R+w k
theorem cod_lt {R:Nat}:∀ (k:Nat) (w:Nat→Nat),(∀ i,i<k→w i<R)→cod R k w<R^k
 | 0,_,_=>by simp[cod]
 | k+1,w,h=>by
  have h1:=cod_lt k w fun i hi=>h i (by omega)
  have h2:=h k (by omega)
  rw[cod,Nat.pow_succ]
  have:(cod R k w+1)*R≤R^k*R:=Nat.mul_le_mul_right _ h1
  rw[Nat.succ_mul] at this
  omega
theorem cod_inj {R:Nat}:∀ (k:Nat) (w v:Nat→Nat),(∀ i,i<k→w i<R)→(∀ i,i<k→v i<R)→cod R k w=cod R k v→∀ i,i<k→w i=v i
 | 0,_,_,_,_,_,i,hi=>absurd hi (by omega)
 | k+1,w,v,hw,hv,h,i,hi=>by
  have h1:=hw k (by omega)
  have h2:=hv k (by omega)
  rw[cod,cod] at h
  have e1:w k=v k:=by
   have:=congrArg (· % R) h
   simp only[Nat.mul_comm _ R,Nat.mul_add_mod] at this
   rwa[Nat.mod_eq_of_lt h1,Nat.mod_eq_of_lt h2] at this
  have e2:cod R k w=cod R k v:=by
   rw[e1] at h
   exact Nat.eq_of_mul_eq_mul_right (by omega:0<R) (by omega)
  by_cases e:i=k
  ·subst e;exact e1
  ·exact cod_inj k w v (fun i hi=>hw i (by omega)) (fun i hi=>hv i (by omega)) e2 i (by omega)
theorem siegel {M:Nat} (hM:0<M) (c:Nat→Nat→Int) {A:Nat} (hA:0<A) (hc:∀ k j,(c k j).natAbs≤A) :
  ∃ z:Nat→Int,(∃ j,j<M+1∧z j≠0)∧(∀ j,(z j).natAbs≤(2*(M+1)*A+1)^M)∧∀ k,k<M→sumZ (M+1) (fun j=>c k j*z j)=0:=by
 obtain⟨F,hF⟩:∃ F,F=2*(M+1)*A+1:=⟨_,rfl⟩
 obtain⟨C,hC⟩:∃ C,C=F^M:=⟨_,rfl⟩
 have hF0:0<F:=by omega
 have hC0:0<C:=by rw[hC];exact Nat.pow_pos hF0
 obtain⟨T,hT⟩:∃ T,T=(M+1)*(A*(C-1)):=⟨_,rfl⟩
 obtain⟨R,hR⟩:∃ R,R=2*T+1:=⟨_,rfl⟩
 have e:F*C=2*((M+1)*(A*C))+C:=by rw[hF,Nat.add_mul,Nat.one_mul];congr 1;simp only[Nat.mul_assoc]
 have hRlt:R<F*C:=by
  have h1:A*(C-1)<A*C:=Nat.mul_lt_mul_of_pos_left (by omega) hA
  have h2:T<(M+1)*(A*C):=by rw[hT];exact Nat.mul_lt_mul_of_pos_left h1 (by omega)
  omega
 have hval:∀ k x,(sumZ (M+1) fun j=>c k j*(dg C x j:Int)).natAbs≤T:=fun k x=>by
  rw[hT]
  refine sumZ_abs _ _ _ fun j _ => ?_
  rw[Int.natAbs_mul]
  exact Nat.mul_le_mul (hc k j) (by have:=dg_lt hC0 j x;simp;omega)
 have hw:∀ x k,((sumZ (M+1) fun j=>c k j*(dg C x j:Int))+T).toNat<R:=fun x k=>by have:=hval k x;omega
 have hF1:(F*C)^M=C^(M+1):=by rw[Nat.mul_pow,←hC,Nat.pow_succ,Nat.mul_comm]
 have hlt:R^M<C^(M+1):=by rw[←hF1];exact Nat.pow_lt_pow_left hRlt (by omega)
 obtain⟨x,y,h1,h2,h3⟩:=pigeon (R^M) (C^(M+1)) (fun x=>cod R M fun k=>((sumZ (M+1) fun j=>c k j*(dg C x j:Int))+T).toNat) (fun x _=>cod_lt M _ fun k _=>hw x k) hlt
 refine⟨fun j=>(dg C x j:Int)-(dg C y j:Int),?_,fun j => ?_,fun k hk => ?_⟩
 ·refine Classical.byContradiction fun hno => ?_
  have:=dg_ne hC0 (M+1) x y (by omega) h2 fun j hj=>Classical.byContradiction fun hne=>hno ⟨j,hj,by show (dg C x j:Int)-(dg C y j:Int)≠0;omega⟩
  omega
 ·have g1:=dg_lt hC0 j x
  have g2:=dg_lt hC0 j y
  show ((dg C x j:Int)-(dg C y j:Int)).natAbs≤_
  rw[←hF,←hC]
  omega
 ·have h4:=cod_inj M _ _ (fun k _=>hw x k) (fun k _=>hw y k) h3 k hk
  have g1:=hval k x
  have g2:=hval k y
  have h5:=sumZ_sub (M+1) (fun j=>c k j*(dg C x j:Int)) (fun j=>c k j*(dg C y j:Int))
  have h6:(sumZ (M+1) fun j=>c k j*((dg C x j:Int)-(dg C y j:Int)))=sumZ (M+1) fun j=>c k j*(dg C x j:Int)-c k j*(dg C y j:Int):=sumZ_ext fun j _=>Int.mul_sub ..
  rw[h6,h5]
  omega
structure Ch (P Q A B U0 V0 U1 V1:List Rat) (δ:Rat):Prop where
 a:∀ x,evQ A x=evQ U0 x*evQ P x+evQ V0 x*evQ Q x
 b:∀ x,evQ B x=evQ U1 x*evQ P x+evQ V1 x*evQ Q x
 d0:δ≠0
 det:∀ x,evQ U0 x*evQ V1 x-evQ V0 x*evQ U1 x=δ
 lt:B.length<A.length
 lv:V1.length+A.length=P.length+1
 lu:V0.length≤V1.length
 aq:A.length≤Q.length
 qp:Q.length≤P.length
 nA:Nf A
 nB:Nf B
 nU0:Nf U0
 nV0:Nf V0
 nU1:Nf U1
 nV1:Nf V1
theorem ev_0 {l:List Rat} (n:Nf l) (h:∀ x,evQ l x=0):l=[]:=ev_nf n nf_nil fun x=>by rw[h];rfl
theorem len1 {l:List Rat} (h:l.length≤1) (x:Rat):evQ l x=cf l 0:=by
 match l,h with
 | [],_=>rfl
 | [a],_=>simp only[evQ,cf_cons];grind
theorem Ch.uniq {P Q A B U0 V0 U1 V1:List Rat} {δ:Rat} (h:Ch P Q A B U0 V0 U1 V1 δ) (nP:Nf P) {u v w:List Rat} (nu:Nf u) (nv:Nf v) (nw:Nf w) (hw:∀ x,evQ w x=evQ u x*evQ P x+evQ v x*evQ Q x) (hl:w.length<A.length) (hv:v.length≤V1.length) (hne:u≠[]∨v≠[]) :
  ∃ c:Rat,c≠0∧(∀ x,evQ w x=c*evQ B x)∧(∀ x,evQ u x=c*evQ U1 x)∧∀ x,evQ v x=c*evQ V1 x:=by
 have h1:=h.lt
 have h2:=h.lv
 have h3:=h.aq
 have h4:=h.qp
 have hP:P≠[]:=fun e=>by have:=congrArg List.length e;simp only[List.length_nil] at this;omega
 have hX:subQ (mulQ u V1) (mulQ v U1)=[]:=by
  refine Classical.byContradiction fun hx => ?_
  have e:mulQ (subQ (mulQ u V1) (mulQ v U1)) P=subQ (mulQ V1 w) (mulQ v B):=ev_nf (nf_mul _ _) (nf_sub _ _) fun x=>by
   rw[ev_mul,ev_sub,ev_sub,ev_mul,ev_mul,ev_mul,ev_mul,hw,h.b];grind
  have e1:=mul_len (nf_sub (mulQ u V1) (mulQ v U1)) nP hx hP
  have e2:=List.length_pos_iff.2 hx
  have e3:=len_le_of (nf_sub (mulQ V1 w) (mulQ v B)) (n:=P.length-1) fun i hi=>by
   rw[cf_sub,cf_ge (l:=mulQ V1 w) (by have:=mul_len_le V1 w;omega),cf_ge (l:=mulQ v B) (by have:=mul_len_le v B;omega)];grind
  rw[←e,e1] at e3
  have:=List.length_pos_iff.2 hP
  omega
 have hX':∀ x,evQ u x*evQ V1 x=evQ v x*evQ U1 x:=fun x=>by
  have:=congrArg (fun l=>evQ l x) hX
  simp only[ev_sub,ev_mul,evQ] at this
  grind
 have hd:=h.d0
 obtain⟨α,hα⟩:∃ α,α=sclQ (subQ (mulQ U0 v) (mulQ V0 u)) (1 / δ):=⟨_,rfl⟩
 have nα:Nf α:=hα ▸ nf_scl _ _
 have e0:∀ x,evQ α x=(evQ U0 x*evQ v x-evQ V0 x*evQ u x)*(1 / δ):=fun x=>by rw[hα,ev_scl,ev_sub,ev_mul,ev_mul]
 have ev:∀ x,evQ α x*evQ V1 x=evQ v x:=fun x=>by
  have g1:=h.det x
  have g2:=hX' x
  rw[e0]
  have g3:(evQ U0 x*evQ v x-evQ V0 x*evQ u x)*evQ V1 x=evQ v x*δ:=by rw[←g1];grind
  grind
 have eu:∀ x,evQ α x*evQ U1 x=evQ u x:=fun x=>by
  have g1:=h.det x
  have g2:=hX' x
  rw[e0]
  have g3:(evQ U0 x*evQ v x-evQ V0 x*evQ u x)*evQ U1 x=evQ u x*δ:=by rw[←g1];grind
  grind
 have hα0:α≠[]:=fun e=>by
  have e1:u=[]:=ev_0 nu fun x=>by rw[←eu,e];simp only[evQ];grind
  have e2:v=[]:=ev_0 nv fun x=>by rw[←ev,e];simp only[evQ];grind
  rcases hne with k | k
  ·exact k e1
  ·exact k e2
 have hV:V1≠[]:=fun e=>by rw[e] at h2;simp at h2;omega
 have hlen:α.length≤1:=by
  have e1:mulQ α V1=v:=ev_nf (nf_mul _ _) nv fun x=>by rw[ev_mul,ev]
  have e2:=mul_len nα h.nV1 hα0 hV
  rw[e1] at e2
  have:=List.length_pos_iff.2 hα0
  have:=List.length_pos_iff.2 hV
  omega
 have hc:cf α 0≠0:=by
  have g1:=ld_ne nα hα0
  unfold ld at g1
  rwa[show α.length-1=0 by omega] at g1
 have ec:=fun x=>len1 hlen x
 refine⟨cf α 0,hc,fun x => ?_,fun x => ?_,fun x => ?_⟩
 ·rw[hw,←eu,←ev,h.b,ec];grind
 ·rw[←eu,ec]
 ·rw[←ev,ec]
theorem quo_len {p d q r:List Rat} (h:DivQ p d q r) (np:Nf p) (nd:Nf d) (hle:d.length≤p.length) (hd:d≠[]):q.length+d.length=p.length+1:=by
 have hdl:=List.length_pos_iff.2 hd
 have hr:=h.lt
 have e:p=addQ (mulQ q d) r:=ev_nf np (nf_add _ _) fun x=>by rw[ev_add,ev_mul,h.eq]
 have hq:q≠[]:=fun e0=>by
  rw[e0,mul_nil_l] at e
  have:=add_len ([]:List Rat) r
  rw[←e] at this
  simp at this
  omega
 have h1:=mul_len h.nq nd hq hd
 have hql:=List.length_pos_iff.2 hq
 have h2:=add_len (mulQ q d) r
 rw[←e] at h2
 have h3:(mulQ q d).length≤p.length:=by
  have e2:mulQ q d=subQ p r:=ev_nf (nf_mul _ _) (nf_sub _ _) fun x=>by rw[ev_sub,ev_mul,h.eq];grind
  rw[e2]
  have:=sub_len p r
  omega
 omega
theorem Ch.step {P Q A B U0 V0 U1 V1:List Rat} {δ:Rat} (h:Ch P Q A B U0 V0 U1 V1 δ) (hB:B≠[]) {k r:List Rat} (hd:DivQ A B k r):Ch P Q B r U1 V1 (subQ U0 (mulQ k U1)) (subQ V0 (mulQ k V1)) (-δ):=by
 have h1:=h.lt
 have h2:=h.lv
 have h3:=h.lu
 have h4:=h.aq
 have h5:=h.qp
 have hBl:=List.length_pos_iff.2 hB
 have hkl:=quo_len hd h.nA h.nB (by omega) hB
 have hk:k≠[]:=fun e=>by rw[e] at hkl;simp at hkl;omega
 have hV:V1≠[]:=fun e=>by rw[e] at h2;simp at h2;omega
 have hVl:=List.length_pos_iff.2 hV
 have hkV:=mul_len hd.nq h.nV1 hk hV
 have hlen:(subQ V0 (mulQ k V1)).length=(mulQ k V1).length:=by
  have g1:=sub_len V0 (mulQ k V1)
  have g2:(mulQ k V1).length≤(subQ V0 (mulQ k V1)).length:=by
   refine Classical.byContradiction fun hc => ?_
   have hne:mulQ k V1≠[]:=fun e=>by rw[e] at hkV;simp at hkV;omega
   have:=ld_ne (nf_mul k V1) hne
   unfold ld at this
   have e0:=cf_sub V0 (mulQ k V1) ((mulQ k V1).length-1)
   rw[cf_ge (l:=subQ _ _) (by omega),cf_ge (l:=V0) (by omega)] at e0
   exact this (by grind)
  omega
 refine⟨h.b,fun x => ?_,fun e=>h.d0 (by grind),fun x => ?_,hd.lt,by omega,by omega,by omega,h.qp,h.nB,hd.nr,h.nU1,h.nV1,nf_sub _ _,nf_sub _ _⟩
 ·have:=hd.eq x
  rw[h.a,h.b] at this
  rw[ev_sub,ev_sub,ev_mul,ev_mul];grind
 ·have:=h.det x
  rw[ev_sub,ev_sub,ev_mul,ev_mul];grind
theorem nf_1:Nf [1]:=.inr (by show (1:Rat)≠0;decide)
theorem ev_1 (x:Rat):evQ [1] x=1:=by simp only[evQ];grind
theorem Ch.start {P Q k r:List Rat} (nP:Nf P) (nQ:Nf Q) (hQ:Q≠[]) (hle:Q.length≤P.length) (hd:DivQ P Q k r):Ch P Q Q r [] [1] [1] (subQ [] k) (-1):=by
 have hQl:=List.length_pos_iff.2 hQ
 have hkl:=quo_len hd nP nQ hle hQ
 have hlen:(subQ [] k).length=k.length:=by
  have:∀ i,cf (subQ [] k) i = - cf k i:=fun i=>by rw[cf_sub,cf_nil];grind
  refine Nat.le_antisymm (len_le_of (nf_sub _ _) fun i hi=>by rw[this,cf_ge hi];grind) (len_le_of hd.nq fun i hi => ?_)
  have e:=this i
  rw[cf_ge hi] at e
  grind
 refine⟨fun x => ?_,fun x => ?_,by decide,fun x => ?_,hd.lt,by omega,by simp;omega,Nat.le_refl _,hle,nQ,hd.nr,nf_nil,nf_1,nf_1,nf_sub _ _⟩
 ·rw[ev_1,evQ_nil];grind
 ·have:=hd.eq x
  rw[ev_1,ev_sub,evQ_nil];grind
 ·rw[ev_1,evQ_nil];grind
theorem Ch.scl {P Q A B U0 V0 U1 V1:List Rat} {δ c:Rat} (h:Ch P Q A B U0 V0 U1 V1 δ) (hc:c≠0):Ch P Q A (sclQ B c) U0 V0 (sclQ U1 c) (sclQ V1 c) (δ*c):=by
 have e1:=scl_len_eq h.nB hc
 have e2:=scl_len_eq h.nV1 hc
 have hd:=h.d0
 exact⟨h.a,fun x=>by rw[ev_scl,ev_scl,ev_scl,h.b];grind,fun e=>(Rat.mul_eq_zero.1 e).elim hd hc,fun x=>by rw[ev_scl,ev_scl,←h.det x];grind,by rw[e1];exact h.lt,by rw[e2];exact h.lv,by rw[e2];exact h.lu,h.aq,h.qp,h.nA,nf_scl _ _,h.nU0,h.nV0,nf_scl _ _,nf_scl _ _⟩
theorem cnv_sum (l m:List Rat) (k:Nat) {n:Nat} (hn:l.length≤n):cnv l m k=sumQ n fun j=>if j≤k then cf l j*cf m (k-j) else 0:=by
 have h1:sumQ (n+(k+1)) (fun j=>if j≤k then cf l j*cf m (k-j) else 0)=sumQ n fun j=>if j≤k then cf l j*cf m (k-j) else 0:=sumQ_le (by omega) fun i h1 _=>by
  rw[cf_ge (l:=l) (by omega)];split<;>grind
 have h2:sumQ (n+(k+1)) (fun j=>if j≤k then cf l j*cf m (k-j) else 0)=sumQ (k+1) fun j=>if j≤k then cf l j*cf m (k-j) else 0:=sumQ_le (by omega) fun i h1 _=>if_neg (by omega)
 have h3:sumQ (k+1) (fun j=>if j≤k then cf l j*cf m (k-j) else 0)=sumQ (k+1) fun j=>cf l j*cf m (k-j):=sumQ_ext fun i hi=>if_pos (by omega)
 rw[←h1,h2,h3];rfl
theorem sumZ_rat:∀ (n:Nat) (f:Nat→Int),((sumZ n f:Int):Rat)=sumQ n fun i=>((f i:Int):Rat)
 | 0,_=>rfl
 | n+1,f=>by rw[sumZ,sumQ,Rat.intCast_add,sumZ_rat n f]
theorem sumZ_add (n:Nat) (f:Nat→Int):∀ m,sumZ (n+m) f=sumZ n f+sumZ m fun i=>f (n+i)
 | 0=>by simp[sumZ]
 | m+1=>by rw[←Nat.add_assoc,sumZ,sumZ_add n f m,sumZ];omega
theorem Ch.small {P Q A B U0 V0 U1 V1:List Rat} {δ:Rat} (h:Ch P Q A B U0 V0 U1 V1 δ) (nP:Nf P) (hB:B≠[]) {Kp Kq H L C G:Nat} (hP:Lb Kp H P) (hQ:Lb Kq H Q) (hH:0<H) (hL:P.length≤L) (hC:(4*L*H+1)^(2*L)≤C) (hG1:2*L*(C*H)≤G) (hG2:Kp*C≤G) (hG3:Kq*C≤G) :
  ∃ E,0<E∧E≤G∧Lb E G (sclQ B (1 / ld B))∧Lb E G (sclQ U1 (1 / ld B))∧Lb E G (sclQ V1 (1 / ld B)):=by
 have h1:=h.lt
 have h2:=h.lv
 have h4:=h.aq
 have h5:=h.qp
 obtain⟨a,ha⟩:∃ a:Nat→Int,∀ t,cf P t*(Kp:Rat)=(a t:Rat)∧(a t).natAbs≤H:=⟨fun t=>(hP t).2.choose,fun t=>(hP t).2.choose_spec⟩
 obtain⟨b,hb⟩:∃ b:Nat→Int,∀ t,cf Q t*(Kq:Rat)=(b t:Rat)∧(b t).natAbs≤H:=⟨fun t=>(hQ t).2.choose,fun t=>(hQ t).2.choose_spec⟩
 obtain⟨nu,hnu⟩:∃ nu,nu=Q.length+1-A.length:=⟨_,rfl⟩
 obtain⟨nv,hnv⟩:∃ nv,nv=P.length+1-A.length:=⟨_,rfl⟩
 obtain⟨M,hM⟩:∃ M,M=nu+nv-1:=⟨_,rfl⟩
 obtain⟨d,hd⟩:∃ d,d=A.length-1:=⟨_,rfl⟩
 obtain⟨z,⟨j0,hj0,hz0⟩,hzb,hz⟩:=siegel (M:=M) (by omega) (fun k j=>if j<nu then (if j≤k+d then a (k+d-j) else 0) else (if j-nu≤k+d then b (k+d-(j-nu)) else 0)) (A:=H) hH fun k j=>by
  (repeat' split)<;>first | exact (ha _).2 | exact (hb _).2 | exact Nat.zero_le _
 have hzC:∀ j,(z j).natAbs≤C:=fun j=>by
  refine Nat.le_trans (hzb j) (Nat.le_trans ?_ hC)
  refine Nat.le_trans (Nat.pow_le_pow_left (Nat.add_le_add_right (Nat.mul_le_mul_right H (show 2*(M+1)≤4*L by omega)) 1) _) (Nat.pow_le_pow_right (by omega) (by omega))
 obtain⟨u,hu⟩:∃ u,u=tab nu fun j=>((z j:Int):Rat):=⟨_,rfl⟩
 obtain⟨v,hv⟩:∃ v,v=tab nv fun j=>((z (nu+j):Int):Rat):=⟨_,rfl⟩
 have cu:∀ j,j<nu→cf u j=((z j:Int):Rat):=fun j hj=>by rw[hu,cf_tab,if_pos hj]
 have cv:∀ j,j<nv→cf v j=((z (nu+j):Int):Rat):=fun j hj=>by rw[hv,cf_tab,if_pos hj]
 have lu:u.length=nu:=by rw[hu,tab_len]
 have lv:v.length=nv:=by rw[hv,tab_len]
 obtain⟨P',hP'⟩:∃ P',P'=sclQ P (Kp:Rat):=⟨_,rfl⟩
 obtain⟨Q',hQ'⟩:∃ Q',Q'=sclQ Q (Kq:Rat):=⟨_,rfl⟩
 have cP:∀ t,cf P' t=((a t:Int):Rat):=fun t=>by rw[hP',cf_scl,(ha t).1]
 have cQ:∀ t,cf Q' t=((b t:Int):Rat):=fun t=>by rw[hQ',cf_scl,(hb t).1]
 obtain⟨w,hw⟩:∃ w,w=addQ (mulQ u P') (mulQ v Q'):=⟨_,rfl⟩
 have nw:Nf w:=hw ▸ nf_add _ _
 have cw:∀ t,cf w t=sumQ nu (fun j=>if j≤t then cf u j*cf P' (t-j) else 0)+sumQ nv fun j=>if j≤t then cf v j*cf Q' (t-j) else 0:=fun t=>by
  rw[hw,cf_add,cf_mul,cf_mul,cnv_sum u P' t (n:=nu) (by omega),cnv_sum v Q' t (n:=nv) (by omega)]
 have hwz:∀ t,d≤t→cf w t=0:=fun t ht=>by
  by_cases hlt:t<d+M
  ·have h7:=hz (t-d) (by omega)
   rw[show M+1=nu+nv by omega,sumZ_add] at h7
   have h8:=congrArg (fun n:Int=>(n:Rat)) h7
   simp only[Rat.intCast_add,sumZ_rat] at h8
   rw[cw]
   refine Eq.trans ?_ h8
   congr 1
   ·refine sumQ_ext fun j hj => ?_
    rw[if_pos hj,cu j hj,cP,show t-d+d=t by omega]
    split
    ·rw[Rat.intCast_mul];grind
    ·rw[Int.zero_mul];rfl
   ·refine sumQ_ext fun j hj => ?_
    rw[if_neg (show ¬ nu+j<nu by omega),cv j hj,cQ,show t-d+d=t by omega,show nu+j-nu=j by omega]
    split
    ·rw[Rat.intCast_mul];grind
    ·rw[Int.zero_mul];rfl
  ·have l1:=scl_len P (Kp:Rat)
   have l2:=scl_len Q (Kq:Rat)
   rw[←hP'] at l1
   rw[←hQ'] at l2
   rw[hw,cf_add,cf_mul,cf_mul,cnv_0 (a:=u) (b:=P') (n:=t) (by omega),cnv_0 (a:=v) (b:=Q') (n:=t) (by omega)];grind
 have hwl:w.length<A.length:=by
  have:=len_le_of nw hwz
  omega
 have hK:(Kp:Rat)≠0∧(Kq:Rat)≠0:=by
  have:=hP.pos
  have:=hQ.pos
  exact⟨by rw[ne_eq,Rat.natCast_eq_zero_iff];omega,by rw[ne_eq,Rat.natCast_eq_zero_iff];omega⟩
 obtain⟨hKp,hKq⟩:=hK
 obtain⟨c,c0,e1,e2,e3⟩:=h.uniq nP (u:=sclQ u (Kp:Rat)) (v:=sclQ v (Kq:Rat)) (nf_scl _ _) (nf_scl _ _) nw (fun x=>by rw[hw,ev_add,ev_mul,ev_mul,hP',hQ',ev_scl,ev_scl,ev_scl,ev_scl];grind) hwl (by have:=scl_len v (Kq:Rat);omega) (by
  by_cases hj:j0<nu
  ·left
   intro e
   have:=cf_scl u (Kp:Rat) j0
   rw[e,cf_nil,cu j0 hj] at this
   rcases Rat.mul_eq_zero.1 this.symm with k | k
   ·exact hz0 (Rat.intCast_eq_zero_iff.1 k)
   ·exact hKp k
  ·right
   intro e
   have:=cf_scl v (Kq:Rat) (j0-nu)
   rw[e,cf_nil,cv (j0-nu) (by omega),show nu+(j0-nu)=j0 by omega] at this
   rcases Rat.mul_eq_zero.1 this.symm with k | k
   ·exact hz0 (Rat.intCast_eq_zero_iff.1 k)
   ·exact hKq k)
 have ew:w=sclQ B c:=ev_nf nw (nf_scl _ _) fun x=>by rw[ev_scl,e1];grind
 have eu:∀ i,cf u i*(Kp:Rat)=cf U1 i*c:=fun i=>by rw[←cf_scl,←cf_scl];exact ev_ext (fun x=>by rw[ev_scl (a:=U1),e2];grind) i
 have ev:∀ i,cf v i*(Kq:Rat)=cf V1 i*c:=fun i=>by rw[←cf_scl,←cf_scl];exact ev_ext (fun x=>by rw[ev_scl (a:=V1),e3];grind) i
 have hld:ld w=ld B*c:=by
  unfold ld
  rw[ew,scl_len_eq h.nB c0,cf_scl]
 have hB0:=ld_ne h.nB hB
 have hw0:ld w≠0:=by rw[hld];exact fun e=>(Rat.mul_eq_zero.1 e).elim hB0 c0
 have hCH:nu*(C*H)+nv*(C*H)≤G:=by
  rw[←Nat.add_mul]
  exact Nat.le_trans (Nat.mul_le_mul_right _ (by omega)) hG1
 have z1:∀ j,Db 1 C ((z j:Int):Rat):=fun j=>(Db.ofInt (z j)).mono (hzC j)
 have bw:∀ t,Db 1 G (cf w t):=fun t=>by
  rw[cw]
  refine Db.mono ((Db.sum (by omega) nu _ fun j hj => ?_).add (Db.sum (by omega) nv _ fun j hj => ?_)) hCH
  ·split
   ·rw[cu j hj,cP];exact (z1 j).mul ((Db.ofInt _).mono (ha _).2)
   ·exact Db.zero (by omega) _
  ·split
   ·rw[cv j hj,cQ];exact (z1 _).mul ((Db.ofInt _).mono (hb _).2)
   ·exact Db.zero (by omega) _
 have bK:∀ (K:Nat) (x:Rat),K*C≤G→Db 1 C x→Db 1 G (x*(K:Rat)):=fun K x hk hx=>by
  have:=hx.mul (Db.ofInt (K:Int))
  rw[Rat.intCast_natCast] at this
  refine this.mono ?_
  simp only[Int.natAbs_natCast]
  rw[Nat.mul_comm];exact hk
 have bu:∀ i,Db 1 G (cf u i*(Kp:Rat)):=fun i=>bK Kp _ hG2 (by
  rw[hu,cf_tab]
  split
  ·exact z1 i
  ·exact Db.zero (by omega) _)
 have bv:∀ i,Db 1 G (cf v i*(Kq:Rat)):=fun i=>bK Kq _ hG3 (by
  rw[hv,cf_tab]
  split
  ·exact z1 _
  ·exact Db.zero (by omega) _)
 obtain⟨E,hE,hq⟩:=Db.quo (bw (w.length-1)) hw0
 have hE0:0<E:=(hq 0 (Db.zero (by omega) _)).1
 have key:∀ x y:Rat,y*c=x→y*(1 / ld B)=x / ld w:=fun x y e=>by rw[hld,←e];grind
 refine⟨E,hE0,hE,fun i => ?_,fun i => ?_,fun i => ?_⟩
 ·rw[cf_scl,key (cf w i) _ (by rw[ew,cf_scl])];exact hq _ (bw i)
 ·rw[cf_scl,key _ _ (eu i).symm];exact hq _ (bu i)
 ·rw[cf_scl,key _ _ (ev i).symm];exact hq _ (bv i)
end Go.Proofs.Ytdjbfgfbpimakaa.M
end

section
namespace Go.Proofs.Ytdjbfgfbpimakaa.M
open Go.RowKit
set_option linter.unusedSimpArgs false
set_option linter.unusedVariables false
set_option linter.defProp false
theorem pow_db {x:Rat} {b h A N j:Nat} (hx:Db b h x) (h1:h≤A) (h2:b≤A) (hj:j≤N):Db (b^N) (A^N) (x^j):=by
 have key:∀ j,Db (b^j) (h^j) (x^j):=by
  intro j
  induction j with
  | zero =>
   have:=db_int 1 (H:=1) (by decide)
   rw[rat_one] at this
   rw[Rat.pow_zero,Nat.pow_zero,Nat.pow_zero];exact this
  | succ j ih=>rw[Rat.pow_succ,Nat.pow_succ,Nat.pow_succ];exact ih.mul hx
 have h3:=(key j).up (E:=b^(N-j)) (Nat.pow_pos hx.1)
 rw[←Nat.pow_add,show j+(N-j)=N by omega] at h3
 refine h3.mono ?_
 rw[show A^N=A^j*A^(N-j) by rw[←Nat.pow_add];congr 1;omega]
 exact Nat.mul_le_mul (Nat.pow_le_pow_left h1 _) (Nat.pow_le_pow_left h2 _)
structure EvB (l:List Rat) (x:Rat) (n:Nat):Prop where
 bx:Bq n x
 bl:Bl n l
 p:∀ j,j≤201→Bq n (x^j)
 t:∀ i j,j≤201→Bq n (cf l i*x^j)
 s:∀ i,i≤201→Bq n (sumQ i fun j=>cf l j*x^j)
 d:∀ i,Bq n (evQ (l.drop i) x)
 m:∀ i,Bq n (evQ (l.drop i) x*x)
 len:l.length≤201
theorem cf_drop (l:List Rat) (i t:Nat):cf (l.drop i) t=cf l (i+t):=by
 unfold cf;rw[List.getD_eq_getElem?_getD,List.getElem?_drop,List.getD_eq_getElem?_getD]
theorem ev_drop {l:List Rat} {i:Nat} (h:i<l.length) (x:Rat):evQ (l.drop i) x=evQ (l.drop (i+1)) x*x+cf l i:=by
 rw[List.drop_eq_getElem_cons h,evQ_cons,show cf l i=l[i] by simp[cf,h]];grind
end Go.Proofs.Ytdjbfgfbpimakaa.M
end

section
namespace Go.Proofs.Ytdjbfgfbpimakaa.M
set_option linter.unusedVariables false
def Sz (k:Nat) (l:List Rat):Prop:=∃ K,K≤2^k∧Lb K (2^k) l
section
variable {k m n r:Nat} {l a b:List Rat}
theorem Sz.mono (h:Sz k l) (hk:k≤m):Sz m l:=by
 obtain⟨K,h1,h2⟩:=h
 exact⟨K,pu h1 hk,h2.mono (Nat.pow_le_pow_right (by omega) hk)⟩
theorem Sz.bl (h:Sz k l) (hk:k<n):Bl n l:=by
 obtain⟨K,h1,h2⟩:=h
 exact Bl.ofLb h2 (p2 h1 hk) (Nat.pow_lt_pow_right (by omega) hk)
theorem Sz.nil (k:Nat):Sz k []:=⟨1,Nat.one_le_two_pow,Lb.nil (by omega) _⟩
theorem Sz.scl {c:Rat} (h:Sz k l) (hc:Bq m c):Sz (k+m) (sclQ l c):=by
 obtain⟨K,h1,h2⟩:=h
 exact⟨K*c.den,pm h1 (Nat.le_of_lt hc.2),fun i=>by rw[cf_scl];exact ((h2 i).mul (Db.of_self c)).mono (pm (Nat.le_refl _) (Nat.le_of_lt hc.1))⟩
theorem Sz.mul (ha:Sz k a) (hb:Sz m b) (hr:a.length≤2^r):Sz (r+(k+m)) (mulQ a b):=by
 obtain⟨K,h1,h2⟩:=ha
 obtain⟨M,h3,h4⟩:=hb
 exact⟨K*M,pu (pm h1 h3) (by omega),(h2.mul h4).mono (pm hr (pm (Nat.le_refl _) (Nat.le_refl _)))⟩
theorem Sz.add (ha:Sz k a) (hb:Sz m b):Sz (k+m+1) (addQ a b):=by
 obtain⟨K,h1,h2⟩:=ha
 obtain⟨M,h3,h4⟩:=hb
 refine⟨K*M,pu (pm h1 h3) (by omega),fun i => ?_⟩
 rw[cf_add]
 exact (((h2 i).up h4.pos).add (by rw[Nat.mul_comm K M];exact (h4 i).up h2.pos)).mono (pa (pm (Nat.le_refl _) h3) (by rw[Nat.add_comm k m];exact pm (Nat.le_refl _) h1))
theorem Sz.mon (h:Sz k l) (nl:Nf l):Sz k (monQ l):=by
 by_cases h0:l=[]
 ·subst h0;rw[mon_nil];exact Sz.nil _
 ·obtain⟨K,h1,h2⟩:=h
  obtain⟨E,e1,e2,e3⟩:=h2.top (ld_ne nl h0)
  refine⟨E,e1,fun i => ?_⟩
  rw[monQ,cf_scl,show cf l i*(1 / ld l)=cf l i / ld l by grind]
  exact e3 i
theorem Sz.ld (h:Sz k l):Bq (k+1) (ld l):=h.bl (Nat.lt_succ_self k) _
end
theorem mon_back {l:List Rat} (nl:Nf l):sclQ (monQ l) (ld l)=l:=nf_ext (nf_scl _ _) nl fun i=>by
 rw[cf_scl,monQ,cf_scl]
 by_cases h0:l=[]
 ·subst h0;rw[cf_nil];grind
 ·have:=ld_ne nl h0;grind
theorem one_div_ne {c:Rat} (h:c≠0):1 / c≠0:=by grind
theorem mon_len_eq {l:List Rat} (nl:Nf l):(monQ l).length=l.length:=by
 by_cases h0:l=[]
 ·subst h0;rfl
 ·exact scl_len_eq nl (one_div_ne (ld_ne nl h0))
theorem mon_ld {l:List Rat} (nl:Nf l) (h0:l≠[]):ld (monQ l)=1:=by
 have:=ld_ne nl h0
 have e:ld (monQ l)=ld l*(1 / ld l):=by
  unfold ld
  rw[mon_len_eq nl,monQ,cf_scl];rfl
 rw[e];grind
theorem selfLb (l:List Rat):∃ D H,Lb D H l:=by
 refine⟨dens l,l.foldr (fun x a=>a+x.num.natAbs*dens l) 0,Lb.of (dens_pos l) fun x hx => ?_⟩
 obtain⟨E,h1,h2⟩:=dens_up hx
 have h3:=(Db.of_self x).up h1
 have h4:x.num.natAbs*E≤x.num.natAbs*dens l:=Nat.mul_le_mul_left _ (by rw[h2];exact Nat.le_mul_of_pos_left _ x.den_pos)
 have h5:∀ (m:List Rat) (N:Nat),x∈m→x.num.natAbs*N≤m.foldr (fun x a=>a+x.num.natAbs*N) 0:=by
  intro m N hm
  induction m with
  | nil=>cases hm
  | cons y m ih =>
   rw[List.foldr_cons]
   rcases List.mem_cons.1 hm with rfl | hm
   ·omega
   ·have:=ih hm;omega
 rw[←h2] at h3
 have:=h5 l (dens l) hx
 exact h3.mono (by omega)
theorem dvSpec {d:List Rat} (nd:Nf d) (hd:d≠[]) (p:List Rat):DivQ p d (quoQ p d) (remQ p d):=by
 obtain⟨D,H,hb⟩:=selfLb p
 obtain⟨D',H',hb'⟩:=selfLb d
 obtain⟨E,_,h2,h3⟩:=hb'.top (ld_ne nd hd)
 obtain⟨q,r,h,_⟩:=div_ex nd hd h2 h3 p.length p D H (by have:=List.length_pos_iff.2 hd;omega) hb
 exact divQ_of h
theorem rem_scl {A B:List Rat} (nB:Nf B) (hB:B≠[]) (a:Rat):quoQ (sclQ A a) B=sclQ (quoQ A B) a∧remQ (sclQ A a) B=sclQ (remQ A B) a:=by
 have h:=dvSpec nB hB A
 have h2:DivQ (sclQ A a) B (sclQ (quoQ A B) a) (sclQ (remQ A B) a):=⟨nf_scl _ _,nf_scl _ _,fun x=>by rw[ev_scl,ev_scl,ev_scl,h.eq];grind,Nat.lt_of_le_of_lt (scl_len _ _) h.lt⟩
 obtain⟨h3,h4⟩:=div_eq nB h2
 exact⟨h3.symm,h4.symm⟩
theorem dv_sz {A B:List Rat} (nB:Nf B) (hB0:B≠[]) {k e b S:Nat} (hA:Sz k A) (hB:Sz e (monQ B)) (hb:Bq b (ld B)) (hS:A.length+1≤S+B.length) :
  Sz (k+(e+1)*S) (remQ A B)∧Sz (k+(e+1)*S+b) (quoQ A B)∧(quoQ A B).length≤S∧(remQ A B).length<B.length:=by
 obtain⟨K,h1,h2⟩:=hA
 obtain⟨E,h3,h4⟩:=hB
 have hE:=h4.pos
 have h0:=ld_ne nB hB0
 have heg:∀ j,Db E (2^e) (cf B j / ld B):=fun j=>by
  have:=h4 j
  rw[monQ,cf_scl,show cf B j*(1 / ld B)=cf B j / ld B by grind] at this
  exact this
 obtain⟨q,r,d,h5,h6,h7⟩:=div_ex nB hB0 hE heg S A K (2^k) (by omega) h2
 obtain⟨rfl,rfl⟩:=div_eq nB d
 have g1:K*E^S≤2^(k+(e+1)*S):=pm h1 (pp (pu h3 (by omega)) _)
 have g2:2^k*(E+2^e)^S≤2^(k+(e+1)*S):=pm (Nat.le_refl _) (pp (pa h3 (Nat.le_refl _)) _)
 refine⟨⟨_,g1,h6.mono g2⟩,?_,h5,d.lt⟩
 have hi:=hb.inv
 refine⟨K*E^S*(1 / ld B).den,pm g1 (Nat.le_of_lt hi.2),fun i => ?_⟩
 have h8:=((h7 i).mul (Db.of_self (1 / ld B))).mono (pm g2 (Nat.le_of_lt hi.1))
 rwa[show cf (quoQ A B) i*ld B*(1 / ld B)=cf (quoQ A B) i by grind] at h8
def Dv (a b:List Rat):Prop:=∃ m,Nf m∧∀ x,evQ b x=evQ m x*evQ a x
theorem Dv.co {g P Q w:List Rat} (h1:Dv g P) (h2:Dv g Q) (u v:List Rat) (hw:∀ x,evQ w x=evQ u x*evQ P x+evQ v x*evQ Q x):Dv g w:=by
 obtain⟨s,ns,hs⟩:=h1
 obtain⟨t,nt,ht⟩:=h2
 exact⟨addQ (mulQ u s) (mulQ v t),nf_add _ _,fun x=>by rw[hw,hs,ht,ev_add,ev_mul,ev_mul];grind⟩
structure IsGcd (P Q g:List Rat):Prop where
 ng:Nf g
 mo:g=[]∨ld g=1
 dp:Dv g P
 dq:Dv g Q
 co:∃ u v,Nf u∧Nf v∧∀ x,evQ g x=evQ u x*evQ P x+evQ v x*evQ Q x
theorem Dv.len {a b:List Rat} (h:Dv a b) (na:Nf a) (nb:Nf b) (hb:b≠[]):∃ m,m≠[]∧Nf m∧b=mulQ m a∧a≠[]∧b.length+1=m.length+a.length:=by
 obtain⟨m,nm,hm⟩:=h
 have e:b=mulQ m a:=ev_nf nb (nf_mul _ _) fun x=>by rw[ev_mul,hm]
 have hm0:m≠[]:=fun e0=>hb (by rw[e,e0,mul_nil_l])
 have ha0:a≠[]:=fun e0=>hb (by rw[e,e0,mul_nil_r])
 have h1:=mul_len nm na hm0 ha0
 have:=List.length_pos_iff.2 hm0
 have:=List.length_pos_iff.2 ha0
 exact⟨m,hm0,nm,e,ha0,by rw[e,h1];omega⟩
theorem IsGcd.unique {P Q g g':List Rat} (h:IsGcd P Q g) (h':IsGcd P Q g'):g=g':=by
 obtain⟨u,v,_,_,hc⟩:=h.co
 obtain⟨u',v',_,_,hc'⟩:=h'.co
 have d1:Dv g g':=h.dp.co h.dq u' v' hc'
 have d2:Dv g' g:=h'.dp.co h'.dq u v hc
 by_cases h0:g'=[]
 ·subst h0
  obtain⟨m,_,hm⟩:=d2
  exact ev_0 h.ng fun x=>by rw[hm,evQ_nil];grind
 ·obtain⟨m,hm0,nm,e,ha0,hl⟩:=d1.len h.ng h'.ng h0
  obtain⟨m2,hm2,_,_,_,hl2⟩:=d2.len h'.ng h.ng ha0
  have:=List.length_pos_iff.2 hm0
  have:=List.length_pos_iff.2 hm2
  have e1:g'=sclQ g (cf m 0):=ev_nf h'.ng (nf_scl _ _) fun x=>by rw[e,ev_mul,ev_scl,len1 (l:=m) (by omega)];grind
  have e2:ld g'=ld g*cf m 0:=by
   have e3:g'.length=g.length:=by omega
   have e4:=cf_scl g (cf m 0) (g.length-1)
   rw[←e1] at e4
   unfold ld
   rw[e3];exact e4
  have k1:=h.mo.resolve_left ha0
  have k2:=h'.mo.resolve_left h0
  rw[k1,k2] at e2
  rw[e1]
  exact nf_ext h.ng (nf_scl _ _) fun i=>by rw[cf_scl];grind
theorem IsGcd.step {A B k r g:List Rat} (hd:DivQ A B k r) (h:IsGcd B r g):IsGcd A B g:=by
 obtain⟨u,v,nu,nv,hc⟩:=h.co
 refine⟨h.ng,h.mo,h.dp.co h.dq k [1] fun x=>by rw[hd.eq,ev_1];grind,h.dp,v,subQ u (mulQ v k),nv,nf_sub _ _,fun x => ?_⟩
 rw[hc,ev_sub,ev_mul,hd.eq];grind
theorem IsGcd.swap {A B g:List Rat} (h:IsGcd A B g):IsGcd B A g:=by
 obtain⟨u,v,nu,nv,hc⟩:=h.co
 exact⟨h.ng,h.mo,h.dq,h.dp,v,u,nv,nu,fun x=>by rw[hc];grind⟩
theorem IsGcd.scl {A B g:List Rat} {c:Rat} (hc:c≠0) (h:IsGcd A (sclQ B c) g):IsGcd A B g:=by
 obtain⟨u,v,nu,nv,hco⟩:=h.co
 obtain⟨m,nm,hm⟩:=h.dq
 refine⟨h.ng,h.mo,h.dp,⟨sclQ m (1 / c),nf_scl _ _,fun x => ?_⟩,u,sclQ v c,nu,nf_scl _ _,fun x => ?_⟩
 ·have:=hm x
  rw[ev_scl] at this
  rw[ev_scl];grind
 ·rw[hco,ev_scl,ev_scl];grind
theorem IsGcd.mon {A B g:List Rat} (nB:Nf B) (h:IsGcd A (monQ B) g):IsGcd A B g:=by
 by_cases h0:B=[]
 ·subst h0;exact h
 ·exact IsGcd.scl (one_div_ne (ld_ne nB h0)) h
theorem IsGcd.fin {A:List Rat} (nA:Nf A):IsGcd A [] (monQ A):=by
 refine⟨nf_mon _,?_,⟨trimQ [ld A],nf_trim _,fun x => ?_⟩,⟨[],nf_nil,fun x=>by rw[evQ_nil];grind⟩,trimQ [1 / ld A],[],nf_trim _,nf_nil,fun x => ?_⟩
 ·by_cases h0:A=[]
  ·left;rw[h0];rfl
  ·right;exact mon_ld nA h0
 ·have:=congrArg (fun l=>evQ l x) (mon_back nA)
  simp only[ev_scl] at this
  rw[ev_trim,←this];simp only[evQ];grind
 ·rw[monQ,ev_scl,ev_trim];simp only[evQ];grind
theorem gcd_ex:∀ (n:Nat) (P Q:List Rat),Q.length≤n→Nf P→Nf Q→∃ g,IsGcd P Q g
 | 0,P,Q,h,nP,nQ=>by
  obtain rfl:Q=[]:=List.length_eq_zero_iff.1 (by omega)
  exact⟨_,IsGcd.fin nP⟩
 | n+1,P,Q,h,nP,nQ=>by
  by_cases h0:Q=[]
  ·subst h0;exact⟨_,IsGcd.fin nP⟩
  ·have hd:=dvSpec nQ h0 P
   obtain⟨g,hg⟩:=gcd_ex n Q (remQ P Q) (by have:=hd.lt;omega) nQ hd.nr
   exact⟨g,hg.step hd⟩
theorem mul_zero_of {a b:List Rat} (na:Nf a) (nb:Nf b) (hb:b≠[]) (h:∀ x,evQ a x*evQ b x=0):a=[]:=Classical.byContradiction fun ha=>by
 have e:mulQ a b=[]:=ev_0 (nf_mul _ _) fun x=>by rw[ev_mul,h]
 have h1:=mul_len na nb ha hb
 have:=List.length_pos_iff.2 ha
 have:=List.length_pos_iff.2 hb
 rw[e] at h1
 simp at h1
 omega
def gS (e r L:Nat):Nat:=1+r+e+(e+r+3)*(2*L)
theorem Ch.sz {P Q A B U0 V0 U1 V1:List Rat} {δ:Rat} (h:Ch P Q A B U0 V0 U1 V1 δ) (nP:Nf P) (hB:B≠[]) {e r L:Nat} (hP:Sz e P) (hQ:Sz e Q) (hL:P.length≤L) (hr:L≤2^r) :
  Sz (gS e r L) (monQ B)∧Sz (gS e r L) (sclQ U1 (1 / ld B))∧Sz (gS e r L) (sclQ V1 (1 / ld B)):=by
 obtain⟨Kp,k1,hP⟩:=hP
 obtain⟨Kq,k2,hQ⟩:=hQ
 have hC:(4*L*2^e+1)^(2*L)≤2^((e+r+3)*(2*L)):=by
  refine pp ?_ _
  have h1:4*L*2^e≤2^(2+r+e):=pm (by rw[Nat.pow_add];exact Nat.mul_le_mul (by omega) hr) (Nat.le_refl _)
  have h2:=pa h1 (Nat.one_le_two_pow (n:=2+r+e))
  rwa[show 2+r+e+1=e+r+3 by omega] at h2
 obtain⟨E,h0,h1,h2,h3,h4⟩:=h.small nP hB hP hQ (Nat.pow_pos (by omega)) hL hC (G:=2^gS e r L) (by
  have h1:2*L≤2^(1+r):=by rw[Nat.pow_add];exact Nat.mul_le_mul (by omega) hr
  refine pu (pm h1 (pm (Nat.le_refl _) (Nat.le_refl _))) ?_
  unfold gS;omega) (pu (pm k1 (Nat.le_refl _)) (by unfold gS;omega)) (pu (pm k2 (Nat.le_refl _)) (by unfold gS;omega))
 exact⟨⟨E,h1,h2⟩,⟨E,h1,h3⟩,⟨E,h1,h4⟩⟩
end Go.Proofs.Ytdjbfgfbpimakaa.M
end

section
namespace Go.Proofs.Ytdjbfgfbpimakaa.M
open Go.RowKit
set_option linter.unusedVariables false
theorem dvi_con {A B:List Rat} (nA:Nf A) (nB:Nf B) (hB0:B≠[]) {k e b n S:Nat} (hA:Sz k A) (hB:Sz e (monQ B)) (hb:Bq b (ld B)) (hS:A.length+1≤S+B.length) (hS1:S≤1000) (hb10:10≤b) (hn:k+(e+1)*S+b<n) (hn2:e+b<n) (hbig:n≤big)
  (h1:A.length≤1000000) (h2:B.length≤1000000) :
  Con Try.prog AN 41 [pI A,pI B] (.tup [pI (quoQ A B),pI (remQ A B),flt 0 0]):=by
 by_cases hlen:B.length≤A.length
 ·obtain⟨S0,hS0⟩:∃ S0,S0=A.length+1-B.length:=⟨_,rfl⟩
  have hB':=hB
  obtain⟨K,g1,g2⟩:=hA
  obtain⟨E,g3,g4⟩:=hB
  have hBl:=List.length_pos_iff.2 hB0
  have h0:=ld_ne nB hB0
  have hm:(e+1)*S0≤(e+1)*S:=Nat.mul_le_mul_left _ (by omega)
  have hD:DivB A B K (2^k) E (2^e) b n S0:=by
   refine⟨g2,g4.pos,fun j => ?_,hb,?_,by omega,?_,?_,hbig⟩
   ·have:=g4 j
    rwa[monQ,cf_scl,show cf B j*(1 / ld B)=cf B j / ld B by grind] at this
   ·rw[←mon_back nB]
    exact (hB'.scl hb).bl hn2
   ·exact p2 (pm (pm g1 (pp (pu g3 (show e≤e+1 by omega)) _)) (Nat.le_refl _)) (by omega)
   ·exact p2 (pm (pm (Nat.le_refl _) (pp (pa g3 (Nat.le_refl _)) _)) (Nat.le_refl _)) (by omega)
  exact div_con A B nB hB0 hD (by omega) h1 h2
 ·obtain⟨e1,e2⟩:=nil_div nA nB (by omega)
  exact divs_con A B nA nB (by omega) h2
structure GI (P Q:List Rat) (e r L:Nat) (A B:List Rat):Prop where
 nA:Nf A
 nB:Nf B
 lA:A.length≤L
 lB:B.length≤L
 sA:Sz (gS e r L) A
 sB:Sz (gS e r L) B
 dB:Bq (e+1) (ld B)
 gc:∀ g,IsGcd A B g→IsGcd P Q g
 ch:(A.length<B.length∧Sz e A∧Sz e B)∨∃ T1 T2,Nf T1∧Nf T2∧Sz e T1∧Sz e T2∧T1.length≤L∧T2.length≤T1.length∧((A=T1∧B=T2)∨∃ U0 V0 U1 V1 δ,Ch T1 T2 A B U0 V0 U1 V1 δ)
theorem gS_le (e r L:Nat):e+1≤gS e r L:=by unfold gS;omega
theorem GI.start {P Q:List Rat} (nP:Nf P) (nQ:Nf Q) {e r L:Nat} (hP:Sz e P) (hQ:Sz e Q) (h1:P.length≤L) (h2:Q.length≤L):GI P Q e r L P Q:=by
 have hg:=gS_le e r L
 refine⟨nP,nQ,h1,h2,hP.mono (by omega),hQ.mono (by omega),hQ.ld,fun g h=>h,?_⟩
 by_cases h:P.length<Q.length
 ·exact .inl ⟨h,hP,hQ⟩
 ·exact .inr ⟨P,Q,nP,nQ,hP,hQ,h1,by omega,.inl ⟨rfl,rfl⟩⟩
theorem bq_1 (m:Nat) (h:0<m):Bq m 1:=⟨by simpa using Nat.one_lt_two_pow (by omega),by simpa using Nat.one_lt_two_pow (by omega)⟩
theorem ld_mon_bq {l:List Rat} (nl:Nf l) (m:Nat) (h:0<m):Bq m (ld (monQ l)):=by
 by_cases h0:l=[]
 ·subst h0;exact Bq.zero m h
 ·rw[mon_ld nl h0];exact bq_1 m h
theorem Ch.mon {P Q A B U0 V0 U1 V1:List Rat} {δ:Rat} (h:Ch P Q A B U0 V0 U1 V1 δ):∃ U1 V1 δ,Ch P Q A (monQ B) U0 V0 U1 V1 δ:=by
 by_cases h0:B=[]
 ·subst h0;exact⟨_,_,_,h⟩
 ·exact⟨_,_,_,h.scl (one_div_ne (ld_ne h.nB h0))⟩
theorem Ch.szm {P Q A B U0 V0 U1 V1:List Rat} {δ:Rat} (h:Ch P Q A B U0 V0 U1 V1 δ) (nP:Nf P) {e r L:Nat} (hP:Sz e P) (hQ:Sz e Q) (hL:P.length≤L) (hr:L≤2^r):Sz (gS e r L) (monQ B):=by
 by_cases h0:B=[]
 ·subst h0;exact Sz.nil _
 ·exact (h.sz nP h0 hP hQ hL hr).1
theorem GI.next {P Q A B:List Rat} {e r L:Nat} (h:GI P Q e r L A B) (hr:L≤2^r) (hB:B≠[]):GI P Q e r L B (monQ (remQ A B)):=by
 have hg:=gS_le e r L
 have hd:=dvSpec h.nB hB A
 have hlt:=hd.lt
 have hml:=mon_len_eq hd.nr
 have hlB:=h.lB
 have key:Sz (gS e r L) (monQ (remQ A B))∧((B.length<(monQ (remQ A B)).length∧Sz e B∧Sz e (monQ (remQ A B)))∨∃ T1 T2,Nf T1∧Nf T2∧Sz e T1∧Sz e T2∧T1.length≤L∧T2.length≤T1.length∧((B=T1∧monQ (remQ A B)=T2)∨∃ U0 V0 U1 V1 δ,Ch T1 T2 B (monQ (remQ A B)) U0 V0 U1 V1 δ)):=by
  rcases h.ch with⟨k1,k2,k3⟩ | ⟨T1,T2,n1,n2,s1,s2,l1,l2,⟨e1,e2⟩ | ⟨U0,V0,U1,V1,δ,c⟩⟩
  ·have e2:=(nil_div h.nA h.nB k1).2
   have s:=k2.mon h.nA
   rw[e2]
   exact⟨s.mono (by omega),.inr ⟨B,monQ A,h.nB,nf_mon _,k3,s,hlB,by have:=mon_len A;omega,.inl ⟨rfl,rfl⟩⟩⟩
  ·rw[e1,e2] at hd ⊢
   rw[e2] at hB
   have c:=Ch.start n1 n2 hB l2 hd
   obtain⟨U1,V1,δ,c2⟩:=c.mon
   exact⟨c.szm n1 s1 s2 l1 hr,.inr ⟨T1,T2,n1,n2,s1,s2,l1,l2,.inr ⟨_,_,_,_,_,c2⟩⟩⟩
  ·have c:=c.step hB hd
   obtain⟨U1,V1,δ,c2⟩:=c.mon
   exact⟨c.szm n1 s1 s2 l1 hr,.inr ⟨T1,T2,n1,n2,s1,s2,l1,l2,.inr ⟨_,_,_,_,_,c2⟩⟩⟩
 exact⟨h.nB,nf_mon _,hlB,by omega,h.sB,key.1,ld_mon_bq hd.nr _ (by omega),fun g hg=>h.gc g ((IsGcd.mon hd.nr hg).step hd),key.2⟩
def xS (e r L:Nat):Nat:=(gS e r L+1)*(4*(L+2))
structure BI (P Q:List Rat) (e r L:Nat) (A B U0 U1:List Rat):Prop where
 nA:Nf A
 nB:Nf B
 n0:Nf U0
 n1:Nf U1
 lA:A.length≤L
 lB:B.length≤L
 sA:Sz (gS e r L) (monQ A)
 sB:Sz (gS e r L) (monQ B)
 dA:Bq ((gS e r L+1)*(4*(L+2-A.length))) (ld A)
 dB:Bq ((gS e r L+1)*(4*(L+2-B.length))) (ld B)
 s0:Sz (gS e r L+xS e r L) U0
 s1:B≠[]→Sz (gS e r L+xS e r L) U1
 l0:U0.length≤1+2*(L+1-A.length)
 l1:U1.length≤1+2*(L+1-A.length)
 gc:∀ g,IsGcd A B g→IsGcd P Q g
 co:∃ V,Nf V∧∀ x,evQ A x=evQ U0 x*evQ P x+evQ V x*evQ Q x
 ne:B≠[]∨A≠[]
 ch:(A=P∧B=Q∧U0=[1]∧U1=[])∨(P.length<Q.length∧A=Q∧B=P∧U0=[]∧U1=[1])∨(∃ V0 V1 δ,Ch P Q A B U0 V0 U1 V1 δ)∨(∃ V0 V1 δ,Ch Q P A B V0 U0 V1 U1 δ)
theorem scl_back {l:List Rat} {c:Rat} (nl:Nf l) (hc:c≠0):sclQ (sclQ l (1 / c)) c=l:=nf_ext (nf_scl _ _) nl fun i=>by rw[cf_scl,cf_scl];grind
theorem sz_one (k:Nat):Sz k [1]:=⟨1,Nat.one_le_two_pow,fun i=>by
 rw[cf_cons]
 cases i with
 | zero=>exact (Db.ofInt 1).mono Nat.one_le_two_pow
 | succ i=>exact Db.zero (by omega) _⟩
theorem dS_le {c L a:Nat}:c*(4*(L+2-a))≤c*(4*(L+2)):=Nat.mul_le_mul_left _ (by omega)
theorem BI.start {P Q:List Rat} (nP:Nf P) (nQ:Nf Q) {e r L:Nat} (hP:Sz e P) (hQ:Sz e Q) (h1:P.length≤L) (h2:Q.length≤L) (hQ0:Q≠[]):BI P Q e r L P Q [1] []:=by
 have hg:=gS_le e r L
 have hd:∀ a,a≤L→e+1≤(gS e r L+1)*(4*(L+2-a)):=fun a ha=>Nat.le_trans (show e+1≤(gS e r L+1)*1 by omega) (Nat.mul_le_mul_left _ (by omega))
 exact⟨nP,nQ,nf_1,nf_nil,h1,h2,(hP.mon nP).mono (by omega),(hQ.mon nQ).mono (by omega),hP.ld.mono (hd _ h1),hQ.ld.mono (hd _ h2),sz_one _,fun _=>Sz.nil _,by simp,by simp,
  fun g h=>h,⟨[],nf_nil,fun x=>by rw[ev_1,evQ_nil];grind⟩,.inl hQ0,.inl ⟨rfl,rfl,rfl,rfl⟩⟩
theorem BI.dR {P Q A B U0 U1:List Rat} {e r L:Nat} (h:BI P Q e r L A B U0 U1) (hB:B≠[]):Bq ((gS e r L+1)*(4*(L+2-(remQ A B).length))) (ld (remQ A B)):=by
 have hlt:=(dvSpec h.nB hB A).lt
 have hlA:=h.lA
 have hlB:=h.lB
 by_cases hlen:A.length<B.length
 ·rw[(nil_div h.nA h.nB hlen).2];exact h.dA
 ·have h1:=(rem_scl (A:=monQ A) h.nB hB (ld A)).2
  rw[mon_back h.nA] at h1
  obtain⟨s1,_⟩:=dv_sz h.nB hB h.sA h.sB h.dB (S:=A.length+1-B.length) (by rw[mon_len_eq h.nA];omega)
  have h2:ld (remQ A B)=cf (remQ (monQ A) B) ((remQ A B).length-1)*ld A:=by
   have:=cf_scl (remQ (monQ A) B) (ld A) ((remQ A B).length-1)
   rw[←h1] at this
   exact this
  rw[h2]
  refine Bq.mono ((s1.bl (Nat.lt_add_one _) _).mul h.dA) ?_
  rw[show gS e r L+(gS e r L+1)*(A.length+1-B.length)+1=(gS e r L+1)*(A.length+2-B.length) by rw[show A.length+2-B.length=(A.length+1-B.length)+1 by omega,Nat.mul_succ];omega,←Nat.mul_add]
  exact Nat.mul_le_mul_left _ (by omega)
theorem sub_nil0 (l:List Rat) (nl:Nf l):subQ l []=l:=nf_ext (nf_sub _ _) nl fun i=>by rw[cf_sub,cf_nil];grind
theorem BI.next {P Q A B U0 U1:List Rat} (nP:Nf P) (nQ:Nf Q) {e r L:Nat} (hP:Sz e P) (hQ:Sz e Q) (hLP:P.length≤L) (hLQ:Q.length≤L) (h:BI P Q e r L A B U0 U1) (hr:L≤2^r) (hB:B≠[]):BI P Q e r L B (remQ A B) U1 (subQ U0 (mulQ (quoQ A B) U1)):=by
 have hg:=gS_le e r L
 have hd:=dvSpec h.nB hB A
 have hlt:=hd.lt
 have hlA:=h.lA
 have hlB:=h.lB
 have hl0:=h.l0
 have hl1:=h.l1
 have hdR:=h.dR hB
 obtain⟨V,nV,hV⟩:=h.co
 have key:(P.length<Q.length∧B=Q∧remQ A B=P∧U1=[]∧subQ U0 (mulQ (quoQ A B) U1)=[1])∨(∃ V0 V1 δ,Ch P Q B (remQ A B) U1 V0 (subQ U0 (mulQ (quoQ A B) U1)) V1 δ)∨(∃ V0 V1 δ,Ch Q P B (remQ A B) V0 U1 V1 (subQ U0 (mulQ (quoQ A B) U1)) δ):=by
  rcases h.ch with⟨e1,e2,e3,e4⟩ | ⟨k,e1,e2,e3,e4⟩ | ⟨V0,V1,δ,c⟩ | ⟨V0,V1,δ,c⟩
  ·rw[e3,e4,mul_nil_r,sub_nil0 _ nf_1]
   rw[e1,e2] at hd ⊢
   rw[e2] at hB
   by_cases hlen:P.length<Q.length
   ·exact .inl ⟨hlen,rfl,(nil_div nP nQ hlen).2,rfl,rfl⟩
   ·exact .inr (.inl ⟨_,_,_,Ch.start nP nQ hB (by omega) hd⟩)
  ·rw[e3,e4]
   rw[e1,e2] at hd ⊢
   rw[e2] at hB
   have e5:mulQ (quoQ Q P) [1]=quoQ Q P:=ev_nf (nf_mul _ _) hd.nq fun x=>by rw[ev_mul,ev_1];grind
   rw[e5]
   exact .inr (.inr ⟨_,_,_,Ch.start nQ nP hB (by omega) hd⟩)
  ·exact .inr (.inl ⟨_,_,_,c.step hB hd⟩)
  ·exact .inr (.inr ⟨_,_,_,c.step hB hd⟩)
 have hR0:remQ A B≠[]→ld (remQ A B)≠0:=ld_ne hd.nr
 have hX:(gS e r L+1)*(4*(L+2-(remQ A B).length))≤xS e r L:=dS_le
 have up:∀ U:List Rat,Nf U→remQ A B≠[]→Sz (gS e r L) (sclQ U (1 / ld (remQ A B)))→Sz (gS e r L+xS e r L) U:=fun U nU h0 hs=>by
  rw[←scl_back nU (hR0 h0)]
  exact (hs.scl hdR).mono (by omega)
 have sR:Sz (gS e r L) (monQ (remQ A B))∧(remQ A B≠[]→Sz (gS e r L+xS e r L) (subQ U0 (mulQ (quoQ A B) U1))):=by
  rcases key with⟨k,e1,e2,e3,e4⟩ | ⟨V0,V1,δ,c⟩ | ⟨V0,V1,δ,c⟩
  ·rw[e2,e4];exact⟨(hP.mon nP).mono (by omega),fun _=>sz_one _⟩
  ·exact⟨c.szm nP hP hQ hLP hr,fun h0=>up _ (nf_sub _ _) h0 (c.sz nP h0 hP hQ hLP hr).2.1⟩
  ·exact⟨c.szm nQ hQ hP hLQ hr,fun h0=>up _ (nf_sub _ _) h0 (c.sz nQ h0 hQ hP hLQ hr).2.2⟩
 have hlen:U1.length≤1+2*(L+1-B.length)∧(subQ U0 (mulQ (quoQ A B) U1)).length≤1+2*(L+1-B.length):=by
  by_cases hl:A.length<B.length
  ·rcases key with⟨k,e1,e2,e3,e4⟩ | ⟨V0,V1,δ,c⟩ | ⟨V0,V1,δ,c⟩
   ·rw[e4,e3];simp
   ·rcases h.ch with⟨e1,e2,e3,e4⟩ | ⟨k,e1,e2,e3,e4⟩ | ⟨_,_,_,c2⟩ | ⟨_,_,_,c2⟩
    ·rw[e3,e4,mul_nil_r,sub_nil0 _ nf_1];simp
    ·rw[e1,e2] at hl;omega
    ·have:=c2.lt;omega
    ·have:=c2.lt;omega
   ·rcases h.ch with⟨e1,e2,e3,e4⟩ | ⟨k,e1,e2,e3,e4⟩ | ⟨_,_,_,c2⟩ | ⟨_,_,_,c2⟩
    ·rw[e3,e4,mul_nil_r,sub_nil0 _ nf_1];simp
    ·rw[e1,e2] at hl;omega
    ·have:=c2.lt;omega
    ·have:=c2.lt;omega
  ·have h2:=sub_len U0 (mulQ (quoQ A B) U1)
   have h3:=mul_len_le (quoQ A B) U1
   have h4:=quo_len hd h.nA h.nB (by omega) hB
   exact⟨by omega,by omega⟩
 refine⟨h.nB,hd.nr,h.n1,nf_sub _ _,hlB,by omega,h.sB,sR.1,h.dB,hdR,h.s1 hB,sR.2,hlen.1,hlen.2,fun g hg=>h.gc g (hg.step hd),?_,.inr hB,?_⟩
 ·rcases key with⟨k,e1,e2,e3,e4⟩ | ⟨V0,V1,δ,c⟩ | ⟨V0,V1,δ,c⟩
  ·rw[e1,e3];exact⟨[1],nf_1,fun x=>by rw[evQ_nil,ev_1];grind⟩
  ·exact⟨V0,c.nV0,c.a⟩
  ·exact⟨V0,c.nU0,fun x=>by rw[c.a];grind⟩
 ·rcases key with k | k | k
  ·exact .inr (.inl k)
  ·exact .inr (.inr (.inl k))
  ·exact .inr (.inr (.inr k))
end Go.Proofs.Ytdjbfgfbpimakaa.M
end

section
namespace Go.Proofs.Ytdjbfgfbpimakaa.M
set_option linter.unusedVariables false
theorem least {p:Nat→Prop}:∀ n,p n→∃ m,p m∧∀ k,k<m→¬ p k:=fun n=>by
 induction n using Nat.strongRecOn with
 | ind n ih =>
  intro h
  by_cases hk:∃ k,k<n∧p k
  ·obtain⟨k,h1,h2⟩:=hk;exact ih k h1 h2
  ·exact⟨n,h,fun k h1 h2=>hk ⟨k,h1,h2⟩⟩
theorem prime_dvd {p:Nat} (hp:∀ q,1<q→q∣p→q=p) {a b:Int} (h:(p:Int)∣a*b):(p:Int)∣a∨(p:Int)∣b:=by
 have h':p∣a.natAbs*b.natAbs:=by rw[←Int.natAbs_mul];exact Int.ofNat_dvd_left.1 h
 by_cases hg:Nat.gcd p a.natAbs=1
 ·right;exact Int.ofNat_dvd_left.2 (Nat.Coprime.dvd_of_dvd_mul_left hg h')
 ·left
  by_cases h0:Nat.gcd p a.natAbs=0
  ·have:=Nat.gcd_eq_zero_iff.1 h0
   rw[show a=0 by omega];exact Int.dvd_zero _
  ·have:=hp _ (by omega) (Nat.gcd_dvd_left p a.natAbs)
   exact Int.ofNat_dvd_left.2 (by rw[←this];exact Nat.gcd_dvd_right _ _)
theorem sum_but {p:Int} {f:Nat→Int} {i:Nat}:∀ n,(∀ s,s<n→s≠i→p∣f s)→p∣sumZ n f-if i<n then f i else 0
 | 0,_=>by simp[sumZ]
 | n+1,h=>by
  have ih:=sum_but n fun s hs=>h s (by omega)
  rw[sumZ]
  by_cases e:i=n
  ·subst e
   rw[if_neg (by omega)] at ih
   rw[if_pos (by omega)]
   have e2:sumZ i f+f i-f i=sumZ i f-0:=by omega
   rw[e2];exact ih
  ·have h1:=h n (by omega) (fun e'=>e e'.symm)
   have e2:(sumZ n f+f n-if i<n+1 then f i else 0)=(sumZ n f-if i<n then f i else 0)+f n:=by
    by_cases hi:i<n
    ·rw[if_pos hi,if_pos (by omega)];omega
    ·rw[if_neg hi,if_neg (by omega)];omega
   rw[e2];exact Int.dvd_add ih h1
theorem sumZ_mul (c:Int):∀ (n:Nat) (f:Nat→Int),sumZ n (fun i=>c*f i)=c*sumZ n f
 | 0,_=>by simp[sumZ]
 | n+1,f=>by rw[sumZ,sumZ,sumZ_mul c n f];grind
theorem gauss {G P:Nat→Int} (hG:∀ p:Nat,1<p→¬ ∀ i,(p:Int)∣G i):∀ (n D:Nat),D≤n→0<D→∀ W:Nat→Int,(∀ k,(D:Int)*P k=sumZ (k+1) fun s=>G s*W (k-s))→∀ i,(D:Int)∣W i
 | 0,D,hn,hD,_,_,_=>by omega
 | n+1,D,hn,hD,W,h,i=>by
  by_cases h1:D=1
  ·subst h1;exact Int.one_dvd _
  ·obtain⟨p,⟨p1,p2⟩,p3⟩:=least (p:=fun q=>1<q∧q∣D) D ⟨by omega,Nat.dvd_refl _⟩
   have hp:∀ q,1<q→q∣p→q=p:=fun q q1 q2=>by
    have:=p3 q
    have:=Nat.le_of_dvd (by omega) q2
    rcases Nat.lt_or_ge q p with hlt | hge
    ·exact absurd ⟨q1,Nat.dvd_trans q2 p2⟩ (p3 q hlt)
    ·omega
   have hW:∀ j,(p:Int)∣W j:=fun j=>Classical.byContradiction fun hj=>by
    obtain⟨j0,g1,g2⟩:=least (p:=fun j => ¬ (p:Int)∣W j) j hj
    obtain⟨i1,hi1⟩:=Classical.not_forall.1 (hG p p1)
    obtain⟨i0,g3,g4⟩:=least (p:=fun i => ¬ (p:Int)∣G i) i1 hi1
    have h2:=h (i0+j0)
    have h3:=sum_but (p:=(p:Int)) (f:=fun s=>G s*W (i0+j0-s)) (i:=i0) (i0+j0+1) fun s hs hne=>by
     rcases Nat.lt_or_ge s i0 with hlt | hge
     ·exact Int.dvd_mul_of_dvd_left (Classical.not_not.1 (g4 s hlt))
     ·exact Int.dvd_mul_of_dvd_right (Classical.not_not.1 (g2 (i0+j0-s) (by omega)))
    rw[if_pos (by omega),←h2,show i0+j0-i0=j0 by omega] at h3
    have h4:(p:Int)∣(D:Int)*P (i0+j0):=Int.dvd_mul_of_dvd_left (Int.natCast_dvd_natCast.2 p2)
    have h5:(p:Int)∣G i0*W j0:=by
     have:=Int.dvd_sub h4 h3
     rwa[show (D:Int)*P (i0+j0)-((D:Int)*P (i0+j0)-G i0*W j0)=G i0*W j0 by omega] at this
    rcases prime_dvd hp h5 with k | k
    ·exact g3 k
    ·exact g1 k
   obtain⟨d,rfl⟩:=p2
   have hd:0<d:=Nat.pos_of_mul_pos_left hD
   have hp0:(p:Int)≠0:=by omega
   have hdn:d≤n:=by
    have:d<p*d:=by
     have:=Nat.mul_lt_mul_of_pos_right p1 hd
     omega
    omega
   have ih:=gauss hG n d hdn hd (fun j=>W j / p) fun k=>by
    have h2:=h k
    have e:(sumZ (k+1) fun s=>G s*W (k-s))=(p:Int)*sumZ (k+1) fun s=>G s*(W (k-s) / p):=by
     rw[←sumZ_mul]
     refine sumZ_ext fun s _ => ?_
     have:=Int.mul_ediv_cancel' (hW (k-s))
     rw[Int.mul_left_comm,this]
    rw[e] at h2
    refine Int.eq_of_mul_eq_mul_left hp0 ?_
    rw[←h2,Int.natCast_mul,Int.mul_assoc]
   obtain⟨z,hz⟩:=ih i
   refine⟨z,?_⟩
   have:=Int.mul_ediv_cancel' (hW i)
   rw[←this,hz,Int.natCast_mul,Int.mul_assoc]
def Wh (D:Nat) (l:List Rat):Prop:=∀ i,∃ z:Int,cf l i*(D:Rat)=(z:Rat)
theorem Wh.tail {D:Nat} {a:Rat} {l:List Rat} (h:Wh D (a::l)):Wh D l:=fun i=>by have:=h (i+1);rwa[cf_cons] at this
end Go.Proofs.Ytdjbfgfbpimakaa.M
end

section
namespace Go.Proofs.Ytdjbfgfbpimakaa.M
set_option linter.unusedVariables false
theorem der_cf (a:List Rat) (i:Nat):cf (derQ a) i=cf a (i+1)*((i+1:Nat):Rat):=by
 unfold derQ
 rw[cf_trim,cf_tab]
 split
 ·rfl
 ·rw[cf_ge (by omega)];grind
theorem der_nf (a:List Rat):Nf (derQ a):=nf_trim _
theorem der_nil:derQ []=[]:=rfl
theorem der_congr {a b:List Rat} (h:∀ i,cf a i=cf b i) (x:Rat):evQ (derQ a) x=evQ (derQ b) x:=ev_cf (fun i=>by rw[der_cf,der_cf,h]) x
theorem der_cons (a:Rat) (l:List Rat) (x:Rat):evQ (derQ (a::l)) x=evQ l x+x*evQ (derQ l) x:=by
 have h:∀ i,cf (derQ (a::l)) i=cf (addQ l (0::derQ l)) i:=fun i=>by
  rw[der_cf,cf_add,cf_cons,cf_cons]
  cases i with
  | zero=>simp only;grind
  | succ i=>simp only;rw[der_cf,show ((i+1+1:Nat):Rat)=((i+1:Nat):Rat)+1 by rw[Rat.natCast_add];rfl];grind
 rw[ev_cf h,ev_add,evQ_cons];grind
theorem der_add (a b:List Rat) (x:Rat):evQ (derQ (addQ a b)) x=evQ (derQ a) x+evQ (derQ b) x:=by
 rw[←ev_add]
 exact ev_cf (fun i=>by rw[der_cf,cf_add,cf_add,der_cf,der_cf];grind) x
theorem der_scl (a:List Rat) (c x:Rat):evQ (derQ (sclQ a c)) x=evQ (derQ a) x*c:=by
 rw[←ev_scl]
 exact ev_cf (fun i=>by rw[der_cf,cf_scl,cf_scl,der_cf];grind) x
theorem mul_cons_cf (c:Rat) (a b:List Rat) (i:Nat):cf (mulQ (c::a) b) i=cf (addQ (sclQ b c) (0::mulQ a b)) i:=by
 rw[cf_mul,cf_add,cf_scl,cnv_cons,cf_cons]
 cases i with
 | zero=>grind
 | succ i=>simp only[cf_mul];grind
theorem der_mul (a b:List Rat) (x:Rat):evQ (derQ (mulQ a b)) x=evQ (derQ a) x*evQ b x+evQ a x*evQ (derQ b) x:=by
 induction a with
 | nil=>rw[mul_nil_l,der_nil,evQ_nil];grind
 | cons c a ih =>
  rw[der_congr (mul_cons_cf c a b),der_add,der_scl,der_cons,ev_mul,ih,der_cons,evQ_cons];grind
def Cop (a b:List Rat):Prop:=∃ s t,∀ x,evQ s x*evQ a x+evQ t x*evQ b x=1
structure Yr (r b c a:List Rat):Prop where
 nr:Nf r
 nb:Nf b
 nc:Nf c
 na:Nf a
 ra:∀ x,evQ r x=evQ b x*evQ a x
 rd:∀ x,evQ (derQ r) x=evQ c x*evQ a x
 co:Cop b c
 am:ld a=1
 a0:a≠[]
 r0:r≠[]
theorem ld_mul {a b:List Rat} (na:Nf a) (nb:Nf b) (a0:a≠[]) (b0:b≠[]):ld (mulQ a b)=ld a*ld b:=by
 have h:=mul_len na nb a0 b0
 have h1:=List.length_pos_iff.2 a0
 have h2:=List.length_pos_iff.2 b0
 rw[←cnv_top a0 b0,←cf_mul]
 unfold ld
 rw[h,show a.length+b.length-1-1=a.length-1+(b.length-1) by omega]
end Go.Proofs.Ytdjbfgfbpimakaa.M
end

section
namespace Go.Proofs.Ytdjbfgfbpimakaa.M
set_option linter.unusedVariables false
theorem sumQ_comm (n:Nat) (f:Nat→Nat→Rat):∀ m,sumQ n (fun a=>sumQ m fun b=>f a b)=sumQ m fun b=>sumQ n fun a=>f a b
 | 0=>sumQ_0 fun i _=>rfl
 | m+1=>by
  show sumQ n (fun a=>sumQ m (fun b=>f a b)+f a m)=sumQ m (fun b=>sumQ n fun a=>f a b)+sumQ n fun a=>f a m
  rw[sumQ_add,sumQ_comm n f m]
def sk (j k:Nat):Nat:=if k<j then k else k+1
def sg (j:Nat):Rat:=if j % 2=1 then -1 else 1
theorem sg_succ (j:Nat):sg (j+1) = -sg j:=by
 unfold sg
 rcases (show j % 2=0∨j % 2=1 by omega) with h | h
 ·rw[if_pos (by omega),if_neg (by omega)]
 ·rw[if_neg (by omega),if_pos h];decide
theorem sg_add (a:Nat):∀ b,sg (a+b)=sg a*sg b
 | 0=>by rw[show sg 0=1 from rfl,Nat.add_zero];grind
 | b+1=>by rw[←Nat.add_assoc,sg_succ,sg_succ,sg_add a b];grind
theorem sg_sq (a:Nat):sg a*sg a=1:=by unfold sg;split<;>grind
theorem sumQ_sk {g:Nat→Rat} {j:Nat} (h0:g j=0):∀ n,j<n+1→sumQ n (fun k=>g (sk j k))=sumQ (n+1) g
 | 0,h=>by
  obtain rfl:j=0:=by omega
  simp only[sumQ,h0];grind
 | n+1,h=>by
  by_cases e:j=n+1
  ·subst e
   show _=sumQ (n+1) g+g (n+1)
   rw[h0,sumQ_ext (g:=g) fun i hi=>by rw[sk,if_pos hi]];grind
  ·have ih:=sumQ_sk h0 n (by omega)
   show sumQ n (fun k=>g (sk j k))+g (sk j n)=sumQ (n+1) g+g (n+1)
   rw[ih,show sk j n=n+1 by unfold sk;rw[if_neg (by omega)]]
def minor (M:Nat→Nat→Rat) (j:Nat):Nat→Nat→Rat:=fun i k=>M (i+1) (sk j k)
def dt:Nat→(Nat→Nat→Rat)→Rat
 | 0,_=>1
 | n+1,M=>sumQ (n+1) fun j=>sg j*M 0 j*dt n (minor M j)
theorem dt_congr:∀ (n:Nat) {M N:Nat→Nat→Rat},(∀ i c,i<n→c<n→M i c=N i c)→dt n M=dt n N
 | 0,_,_,_=>rfl
 | n+1,M,N,h=>sumQ_ext fun j hj=>by
  rw[h 0 j (by omega) hj,dt_congr n (M:=minor M j) (N:=minor N j) fun i c hi hc=>h (i+1) (sk j c) (by omega) (by unfold sk;split<;>omega)]
def up (M:Nat→Nat→Rat) (i:Nat) (r:Nat→Rat):Nat→Nat→Rat:=fun k c=>if k=i then r c else M k c
theorem up_self (M:Nat→Nat→Rat) (i:Nat):up M i (M i)=M:=by
 funext k c;unfold up;split
 ·rename_i h;rw[h]
 ·rfl
theorem up_at (M:Nat→Nat→Rat) (i:Nat) (r:Nat→Rat):up M i r i=r:=by funext c;unfold up;rw[if_pos rfl]
theorem up_ne (M:Nat→Nat→Rat) {i k:Nat} (r:Nat→Rat) (h:k≠i):up M i r k=M k:=by funext c;unfold up;rw[if_neg h]
theorem minor_up0 (M:Nat→Nat→Rat) (r:Nat→Rat) (j:Nat):minor (up M 0 r) j=minor M j:=by funext i c;unfold minor;rw[up_ne _ _ (by omega)]
theorem minor_up (M:Nat→Nat→Rat) (i:Nat) (r:Nat→Rat) (j:Nat):minor (up M (i+1) r) j=up (minor M j) i fun c=>r (sk j c):=by
 funext k c;unfold minor up
 by_cases h:k=i
 ·rw[if_pos (by omega),if_pos h]
 ·rw[if_neg (by omega),if_neg h]
def sw (M:Nat→Nat→Rat) (i:Nat):Nat→Nat→Rat:=fun k=>if k=i then M (i+1) else if k=i+1 then M i else M k
theorem minor_sw (M:Nat→Nat→Rat) (i j:Nat):minor (sw M (i+1)) j=sw (minor M j) i:=by
 funext k c;unfold minor sw
 by_cases h:k=i
 ·rw[if_pos (by omega),if_pos h]
 ·rw[if_neg (by omega),if_neg h]
  by_cases h:k=i+1
  ·rw[if_pos (by omega),if_pos h]
  ·rw[if_neg (by omega),if_neg h]
structure Alt (n:Nat) (f:(Nat→Nat→Rat)→Rat):Prop where
 congr:∀ {M N:Nat→Nat→Rat},(∀ i c,i<n→c<n→M i c=N i c)→f M=f N
 lin:∀ (M:Nat→Nat→Rat) (i:Nat),i<n→∀ (a:Rat) (r s:Nat→Rat),f (up M i fun c=>a*r c+s c)=a*f (up M i r)+f (up M i s)
 swp:∀ (M:Nat→Nat→Rat) (i:Nat),i+1<n→f (sw M i) = -f M
theorem dt_lin:∀ (n:Nat) (M:Nat→Nat→Rat) (i:Nat),i<n→∀ (a:Rat) (r s:Nat→Rat),dt n (up M i fun c=>a*r c+s c)=a*dt n (up M i r)+dt n (up M i s)
 | 0,_,_,h,_,_,_=>by omega
 | n+1,M,0,_,a,r,s=>by
  simp only[dt,minor_up0,up_at]
  rw[←Rat.mul_comm _ a,←sumQ_mul,←sumQ_add]
  exact sumQ_ext fun j _=>by grind
 | n+1,M,i+1,h,a,r,s=>by
  simp only[dt,minor_up,up_ne M _ (show (0:Nat)≠i+1 by omega)]
  rw[←Rat.mul_comm _ a,←sumQ_mul,←sumQ_add]
  exact sumQ_ext fun j _=>by rw[dt_lin n (minor M j) i (by omega) a (fun c=>r (sk j c)) fun c=>s (sk j c)];grind
def sk2 (a b c:Nat):Nat:=if a<b then sk a (sk (b-1) c) else sk a (sk b c)
theorem sk2_comm {a b:Nat} (h:a≠b) (c:Nat):sk2 a b c=sk2 b a c:=by
 have key:∀ {a b:Nat},a<b→sk a (sk (b-1) c)=sk b (sk a c):=fun {a b} h=>by
  rcases (show c<a∨a≤c∧c<b-1∨b-1≤c by omega) with h1 | h1 | h1
  ·rw[show sk (b-1) c=c by unfold sk;rw[if_pos (by omega)],show sk a c=c by unfold sk;rw[if_pos h1],show sk b c=c by unfold sk;rw[if_pos (by omega)]]
  ·rw[show sk (b-1) c=c by unfold sk;rw[if_pos (by omega)],show sk a c=c+1 by unfold sk;rw[if_neg (by omega)],show sk b (c+1)=c+1 by unfold sk;rw[if_pos (by omega)]]
  ·rw[show sk (b-1) c=c+1 by unfold sk;rw[if_neg (by omega)],show sk a c=c+1 by unfold sk;rw[if_neg (by omega)],show sk a (c+1)=c+2 by unfold sk;rw[if_neg (by omega)],show sk b (c+1)=c+2 by unfold sk;rw[if_neg (by omega)]]
 unfold sk2
 rcases Nat.lt_or_ge a b with h1 | h1
 ·rw[if_pos h1,if_neg (by omega)];exact key h1
 ·rw[if_neg (by omega),if_pos (by omega)];exact (key (by omega)).symm
def tT (M:Nat→Nat→Rat) (n a b:Nat):Rat:=if a=b then 0 else (if b<a then sg a*sg b else -(sg a*sg b))*(M 0 a*M 1 b)*dt n fun i c=>M (i+2) (sk2 a b c)
theorem dt_two (n:Nat) (M:Nat→Nat→Rat):dt (n+2) M=sumQ (n+2) fun a=>sumQ (n+2) fun b=>tT M n a b:=by
 rw[dt]
 refine sumQ_ext fun a ha => ?_
 rw[←sumQ_sk (g:=fun b=>tT M n a b) (j:=a) (by simp[tT]) (n+1) (by omega),dt,Rat.mul_comm,←sumQ_mul]
 refine sumQ_ext fun k hk => ?_
 have e:minor (minor M a) k=fun i c=>M (i+2) (sk2 a (sk a k) c):=by
  funext i c
  show M (i+2) (sk a (sk k c))=_
  unfold sk2
  by_cases h:k<a
  ·rw[show sk a k=k by unfold sk;rw[if_pos h],if_neg (by omega)]
  ·rw[show sk a k=k+1 by unfold sk;rw[if_neg h],if_pos (by omega)];rfl
 rw[e]
 show sg k*M 1 (sk a k)*_*_=_
 unfold tT
 by_cases h:k<a
 ·rw[show sk a k=k by unfold sk;rw[if_pos h],if_neg (by omega),if_pos h];grind
 ·rw[show sk a k=k+1 by unfold sk;rw[if_neg h],if_neg (by omega),if_neg (by omega),sg_succ];grind
theorem dt_sw:∀ (i n:Nat) (M:Nat→Nat→Rat),i+1<n→dt n (sw M i) = -dt n M
 | 0,0,_,h=>by omega
 | 0,1,_,h=>by omega
 | 0,n+2,M,_=>by
  rw[dt_two,dt_two,sumQ_comm,show -(sumQ (n+2) fun a=>sumQ (n+2) fun b=>tT M n a b)=(sumQ (n+2) fun a=>sumQ (n+2) fun b=>tT M n a b)*(-1) by grind,←sumQ_mul]
  refine sumQ_ext fun a _ => ?_
  rw[←sumQ_mul]
  refine sumQ_ext fun b _ => ?_
  unfold tT
  by_cases h:a=b
  ·rw[if_pos h,if_pos h.symm];grind
  ·rw[if_neg h,if_neg fun e=>h e.symm]
   have e:(fun i c=>sw M 0 (i+2) (sk2 b a c))=fun i c=>M (i+2) (sk2 a b c):=by
    funext i c;rw[sk2_comm h];rfl
   rw[e,show sw M 0 0=M 1 from rfl,show sw M 0 1=M 0 from rfl]
   rcases Nat.lt_or_ge a b with h1 | h1
   ·rw[if_pos h1,if_neg (by omega)];grind
   ·rw[if_neg (by omega),if_pos (by omega)];grind
 | i+1,0,_,h=>by omega
 | i+1,n+1,M,h=>by
  simp only[dt,minor_sw]
  rw[show -(sumQ (n+1) fun j=>sg j*M 0 j*dt n (minor M j))=(sumQ (n+1) fun j=>sg j*M 0 j*dt n (minor M j))*(-1) by grind,←sumQ_mul]
  refine sumQ_ext fun j _ => ?_
  rw[dt_sw i n _ (by omega),show sw M (i+1) 0=M 0 from rfl];grind
theorem dt_alt (n:Nat):Alt n (dt n):=⟨dt_congr n,dt_lin n,fun M i h=>dt_sw i n M h⟩
section
variable {n:Nat} {f:(Nat→Nat→Rat)→Rat} (h:Alt n f)
include h
theorem Alt.zero (M:Nat→Nat→Rat) {i:Nat} (hi:i<n):f (up M i fun _=>0)=0:=by
 have:=h.lin M i hi (-1) (fun _=>0) fun _=>0
 rw[show (fun c:Nat=>(-1:Rat)*0+0)=fun _=>0 by funext;grind] at this
 grind
theorem Alt.near:∀ (d i:Nat) (M:Nat→Nat→Rat),i+d+1<n→M i=M (i+d+1)→f M=0
 | 0,i,M,hi,e=>by
  have h1:=h.swp M i hi
  have:sw M i=M:=by
   funext k;unfold sw;split
   ·rename_i hk;rw[hk,e]
   ·split
    ·rename_i hk;rw[hk,e]
    ·rfl
  rw[this] at h1;grind
 | d+1,i,M,hi,e=>by
  have h1:=h.swp M (i+d+1) (by omega)
  have h2:=Alt.near d i (sw M (i+d+1)) (by omega) (by unfold sw;rw[if_neg (by omega),if_neg (by omega),if_pos rfl];exact e)
  grind
theorem Alt.same {M:Nat→Nat→Rat} {i j:Nat} (hi:i<n) (hj:j<n) (hij:i≠j) (e:M i=M j):f M=0:=by
 rcases Nat.lt_or_ge i j with hlt | hge
 ·exact h.near (j-i-1) i M (by omega) (by rw[show i+(j-i-1)+1=j by omega];exact e)
 ·exact h.near (i-j-1) j M (by omega) (by rw[show j+(i-j-1)+1=i by omega];exact e.symm)
theorem Alt.plus {M:Nat→Nat→Rat} {i j:Nat} (hi:i<n) (hj:j<n) (hij:i≠j) (a:Rat) (r:Nat→Rat):f (up M i fun c=>a*M j c+r c)=f (up M i r):=by
 rw[h.lin M i hi,h.same hi hj hij (M:=up M i (M j)) (by rw[up_at,up_ne _ _ fun e=>hij e.symm])];grind
theorem Alt.sum {M:Nat→Nat→Rat} {i:Nat} (hi:i<n) (k:Nat→Rat) (J:Nat→Nat) (r:Nat→Rat):∀ T,(∀ t,t<T→J t<n∧J t≠i)→f (up M i fun c=>sumQ T (fun t=>k t*M (J t) c)+r c)=f (up M i r)
 | 0,_=>by rw[show (fun c=>sumQ 0 (fun t=>k t*M (J t) c)+r c)=r by funext c;simp only[sumQ];grind]
 | T+1,hT=>by
  have e:(fun c=>sumQ (T+1) (fun t=>k t*M (J t) c)+r c)=fun c=>k T*M (J T) c+(sumQ T (fun t=>k t*M (J t) c)+r c):=by funext c;simp only[sumQ];grind
  rw[e,h.plus hi (hT T (by omega)).1 (fun e=>(hT T (by omega)).2 e.symm),Alt.sum hi k J r T fun t ht=>hT t (by omega)]
end
def mv (M:Nat→Nat→Rat) (p d:Nat):Nat→Nat→Rat:=fun k=>if k<p then M k else if k=p then M (p+d) else if k≤p+d then M (k-1) else M k
theorem mv_0 (M:Nat→Nat→Rat) (p:Nat):mv M p 0=M:=by
 funext k;unfold mv;split
 ·rfl
 ·split
  ·rename_i h;rw[h,Nat.add_zero]
  ·rw[if_neg (by omega)]
theorem mv_succ (M:Nat→Nat→Rat) (p d:Nat):mv M p (d+1)=mv (sw M (p+d)) p d:=by
 funext k;unfold mv sw
 by_cases h1:k<p
 ·rw[if_pos h1,if_pos h1,if_neg (by omega),if_neg (by omega)]
 ·rw[if_neg h1,if_neg h1]
  by_cases h2:k=p
  ·rw[if_pos h2,if_pos h2,if_pos rfl,Nat.add_assoc]
  ·rw[if_neg h2,if_neg h2]
   by_cases h3:k≤p+d
   ·rw[if_pos (by omega),if_pos h3,if_neg (by omega),if_neg (by omega)]
   ·rw[if_neg h3]
    by_cases h4:k=p+d+1
    ·rw[if_pos (by omega),if_neg (by omega),if_pos (by omega),show k-1=p+d by omega]
    ·rw[if_neg (by omega),if_neg (by omega),if_neg (by omega)]
theorem Alt.mvd {n:Nat} {f:(Nat→Nat→Rat)→Rat} (h:Alt n f) (p:Nat):∀ (d:Nat) (M:Nat→Nat→Rat),p+d<n→f (mv M p d)=sg d*f M
 | 0,M,_=>by rw[mv_0,show sg 0=1 from rfl];grind
 | d+1,M,hd=>by rw[mv_succ,Alt.mvd h p d _ (by omega),h.swp _ _ (by omega),sg_succ];grind
def bs (M:Nat→Nat→Rat) (n m:Nat):Nat→Nat→Rat:=fun k=>if k<m then M (n+k) else if k<m+n then M (k-m) else M k
theorem bs_0 (M:Nat→Nat→Rat) (n:Nat):bs M n 0=M:=by
 funext k;unfold bs;rw[if_neg (by omega)];split<;>rfl
theorem bs_succ (M:Nat→Nat→Rat) (n m:Nat):bs M n (m+1)=mv (bs M n m) m n:=by
 funext k;unfold bs mv;dsimp only
 by_cases h1:k<m
 ·rw[if_pos (by omega),if_pos h1,if_pos h1]
 ·rw[if_neg h1]
  by_cases h2:k=m
  ·rw[if_pos (by omega),if_pos h2,if_neg (by omega),if_neg (by omega),h2,Nat.add_comm]
  ·rw[if_neg (by omega),if_neg h2]
   by_cases h3:k≤m+n
   ·rw[if_pos (by omega),if_pos h3,if_neg (by omega),if_pos (by omega),show k-1-m=k-(m+1) by omega]
   ·rw[if_neg (by omega),if_neg h3,if_neg (by omega),if_neg (by omega)]
theorem Alt.bsd {N:Nat} {f:(Nat→Nat→Rat)→Rat} (h:Alt N f) (M:Nat→Nat→Rat) (n:Nat):∀ m,n+m≤N→f (bs M n m)=sg (n*m)*f M
 | 0,_=>by rw[bs_0,Nat.mul_zero,show sg 0=1 from rfl];grind
 | m+1,hm=>by rw[bs_succ,h.mvd _ _ _ (by omega),Alt.bsd h M n m (by omega),Nat.mul_succ,sg_add];grind
theorem dt_col:∀ (n:Nat) (M:Nat→Nat→Rat) (c:Nat),c<n→(∀ i,i<n→M i c=0)→dt n M=0
 | 0,_,_,h,_=>by omega
 | n+1,M,c,hc,h=>sumQ_0 fun j hj=>by
  by_cases e:j=c
  ·rw[e,h 0 (by omega)];grind
  ·obtain⟨c',h1,h2⟩:∃ c',c'<n∧sk j c'=c:=by
    by_cases hl:c<j
    ·exact⟨c,by omega,by unfold sk;rw[if_pos hl]⟩
    ·exact⟨c-1,by omega,by unfold sk;rw[if_neg (by omega)];omega⟩
   rw[dt_col n (minor M j) c' h1 fun i hi=>by show M (i+1) (sk j c')=0;rw[h2];exact h (i+1) (by omega)];grind
theorem dt_peel (n:Nat) (M:Nat→Nat→Rat) (h:∀ i,i<n→M (i+1) 0=0):dt (n+1) M=M 0 0*dt n fun i c=>M (i+1) (c+1):=by
 rw[dt,sumQ_one (k:=0) (by omega) fun j hj hne => ?_]
 ·rw[show minor M 0=fun i c=>M (i+1) (c+1) from by funext i c;unfold minor sk;rw[if_neg (by omega)],show sg 0=1 from rfl];grind
 ·rw[dt_col n (minor M j) 0 (by omega) fun i hi=>by show M (i+1) (sk j 0)=0;rw[show sk j 0=0 by unfold sk;rw[if_pos (by omega)]];exact h i hi];grind
def idM:Nat→Nat→Rat:=fun i c=>if i=c then 1 else 0
def ins (j:Nat) (A:Nat→Nat→Rat):Nat→Nat→Rat
 | 0,c=>idM j c
 | i+1,c=>if c<j then A i c else if c=j then 0 else A i (c-1)
theorem ins_up (j:Nat) (A:Nat→Nat→Rat) (i:Nat) (r:Nat→Rat):ins j (up A i r)=up (ins j A) (i+1) fun c=>if c<j then r c else if c=j then 0 else r (c-1):=by
 funext k c
 cases k with
 | zero=>unfold up;rw[if_neg (by omega)];rfl
 | succ k =>
  unfold up
  by_cases h:k=i
  ·rw[if_pos (by omega)];simp only[ins,if_pos h]
  ·rw[if_neg (by omega)];simp only[ins,if_neg h]
theorem ins_sw (j:Nat) (A:Nat→Nat→Rat) (i:Nat):ins j (sw A i)=sw (ins j A) (i+1):=by
 funext k c
 cases k with
 | zero=>unfold sw;rw[if_neg (by omega),if_neg (by omega)];rfl
 | succ k =>
  unfold sw
  by_cases h:k=i
  ·rw[if_pos (by omega)];simp only[ins,if_pos h]
  ·rw[if_neg (by omega)]
   by_cases h2:k=i+1
   ·rw[if_pos (by omega)];simp only[ins,if_neg h,if_pos h2]
   ·rw[if_neg (by omega)];simp only[ins,if_neg h,if_neg h2]
theorem Alt.insd {n:Nat} {f:(Nat→Nat→Rat)→Rat} (h:Alt (n+1) f) {j:Nat} (hj:j<n+1):Alt n fun A=>f (ins j A) where
 congr hMN:=h.congr fun i c hi hc=>by
  cases i with
  | zero=>rfl
  | succ i =>
   simp only[ins]
   split
   ·exact hMN i c (by omega) (by omega)
   ·split
    ·rfl
    ·exact hMN i (c-1) (by omega) (by omega)
 lin M i hi a r s:=by
  rw[ins_up,ins_up,ins_up,←h.lin _ _ (by omega)]
  congr 2;funext c
  split
  ·rfl
  ·split
   ·grind
   ·rfl
 swp M i hi:=by rw[ins_sw];exact h.swp _ _ (by omega)
theorem ins_id (j:Nat):ins j idM=mv idM 0 j:=by
 funext k c
 unfold mv
 rw[if_neg (by omega)]
 cases k with
 | zero=>rw[if_pos rfl,Nat.zero_add];rfl
 | succ k =>
  rw[if_neg (by omega)]
  simp only[ins,idM,Nat.zero_add,Nat.add_sub_cancel]
  by_cases h1:k+1≤j
  ·rw[if_pos h1]
   show _=if k=c then (1:Rat) else 0
   by_cases h2:c<j
   ·rw[if_pos h2]
   ·rw[if_neg h2,if_neg (show ¬ k=c by omega)]
    by_cases h3:c=j
    ·rw[if_pos h3]
    ·rw[if_neg h3,if_neg (show ¬ k=c-1 by omega)]
  ·rw[if_neg h1]
   show _=if k+1=c then (1:Rat) else 0
   by_cases h2:c<j
   ·rw[if_pos h2,if_neg (by omega),if_neg (by omega)]
   ·rw[if_neg h2]
    by_cases h3:c=j
    ·rw[if_pos h3,if_neg (by omega)]
    ·rw[if_neg h3]
     by_cases h4:k+1=c
     ·rw[if_pos (by omega),if_pos h4]
     ·rw[if_neg (by omega),if_neg h4]
def zr (M:Nat→Nat→Rat) (j T:Nat):Nat→Nat→Rat:=fun i c=>if 0<i∧i<T∧c=j then 0 else M i c
theorem Alt.zrd {n:Nat} {f:(Nat→Nat→Rat)→Rat} (h:Alt n f) (M:Nat→Nat→Rat) (j:Nat) (h0:M 0=idM j):∀ T,T+1≤n→f (zr M j (T+1))=f M
 | 0,_=>by
  congr 1;funext i c;unfold zr;rw[if_neg (by omega)]
 | T+1,hT=>by
  rw[←Alt.zrd h M j h0 T (by omega)]
  have e:zr M j (T+1+1)=up (zr M j (T+1)) (T+1) fun c => -(M (T+1) j)*zr M j (T+1) 0 c+M (T+1) c:=by
   funext i c
   unfold up
   by_cases hi:i=T+1
   ·rw[if_pos hi]
    simp only[zr]
    rw[if_neg (by omega:¬ (0<0∧0<T+1∧c=j)),h0]
    unfold idM
    by_cases hc:c=j
    ·rw[if_pos (by omega),if_pos hc.symm,hc];grind
    ·rw[if_neg (by omega),if_neg (fun e=>hc e.symm),hi];grind
   ·rw[if_neg hi]
    simp only[zr]
    by_cases hc:0<i∧i<T+1∧c=j
    ·rw[if_pos (by omega),if_pos hc]
    ·rw[if_neg (by omega),if_neg hc]
  rw[e,h.plus (by omega) (by omega) (by omega)]
  congr 1
  have:M (T+1)=zr M j (T+1) (T+1):=by funext c;unfold zr;rw[if_neg (by omega)]
  rw[this,up_self]
theorem Alt.row {n:Nat} {f:(Nat→Nat→Rat)→Rat} (h:Alt n f) (M:Nat→Nat→Rat) (hn:0<n) (x:Nat→Rat):∀ T,f (up M 0 fun c=>sumQ T fun j=>x j*idM j c)=sumQ T fun j=>x j*f (up M 0 (idM j))
 | 0=>h.zero M hn
 | T+1=>by
  rw[show (fun c=>sumQ (T+1) fun j=>x j*idM j c)=fun c=>x T*idM T c+sumQ T fun j=>x j*idM j c by funext c;simp only[sumQ];grind,h.lin M 0 hn,Alt.row h M hn x T]
  simp only[sumQ];grind
theorem Alt.dtd:∀ (n:Nat) (f:(Nat→Nat→Rat)→Rat),Alt n f→∀ A,f A=dt n A*f idM
 | 0,f,h,A=>by
  rw[h.congr (M:=A) (N:=idM) fun i c hi _=>by omega]
  show _=1*_
  grind
 | n+1,f,h,A=>by
  have e:f A=f (up A 0 fun c=>sumQ (n+1) fun j=>A 0 j*idM j c):=h.congr fun i c hi hc=>by
   unfold up
   split
   ·rename_i h0
    show _=sumQ (n+1) fun j=>A 0 j*idM j c
    rw[h0,sumQ_one (k:=c) hc fun j _ hne=>by rw[idM,if_neg hne];grind]
    rw[idM,if_pos rfl];grind
   ·rfl
  rw[e,h.row A (by omega),dt,←sumQ_mul]
  refine sumQ_ext fun j hj => ?_
  have e2:f (up A 0 (idM j))=f (ins j (minor A j)):=by
   rw[←h.zrd (up A 0 (idM j)) j (up_at _ _ _) n (by omega)]
   refine h.congr fun i c hi hc => ?_
   unfold zr
   cases i with
   | zero=>rw[if_neg (by omega),up_at];rfl
   | succ i =>
    rw[up_ne _ _ (by omega)]
    simp only[ins]
    by_cases h1:c<j
    ·rw[if_neg (by omega),if_pos h1,minor,sk,if_pos h1]
    ·rw[if_neg h1]
     by_cases h2:c=j
     ·rw[if_pos (by omega),if_pos h2]
     ·rw[if_neg (by omega),if_neg h2,minor,sk,if_neg (by omega),show c-1+1=c by omega]
  rw[e2,Alt.dtd n (fun B=>f (ins j B)) (h.insd hj) (minor A j),ins_id,h.mvd 0 j idM (by omega)]
  grind
def mulM (n:Nat) (A B:Nat→Nat→Rat):Nat→Nat→Rat:=fun i c=>sumQ n fun k=>A i k*B k c
theorem dt_mul (n:Nat) (A B:Nat→Nat→Rat):dt n (mulM n A B)=dt n A*dt n B:=by
 have h:Alt n fun A=>dt n (mulM n A B):={
  congr:=fun h=>dt_congr n fun i c hi hc=>sumQ_ext fun k hk=>by rw[h i k hi hk]
  lin:=fun M i hi a r s=>by
   have e:∀ r,mulM n (up M i r) B=up (mulM n M B) i fun c=>sumQ n fun k=>r k*B k c:=fun r=>by
    funext k c;unfold mulM up;split<;>rfl
   rw[e,e,e,←dt_lin n _ i hi]
   congr 2;funext c
   rw[←Rat.mul_comm _ a,←sumQ_mul,←sumQ_add]
   exact sumQ_ext fun k _=>by grind
  swp:=fun M i hi=>by
   have e:mulM n (sw M i) B=sw (mulM n M B) i:=by
    funext k c;unfold mulM sw
    split
    ·rfl
    ·split<;>rfl
   rw[e];exact dt_sw i n _ hi }
 rw[h.dtd n _ A]
 congr 1
 refine dt_congr n fun i c hi hc => ?_
 unfold mulM
 rw[sumQ_one (k:=i) hi fun j _ hne=>by unfold idM;rw[if_neg fun e=>hne e.symm];grind]
 unfold idM;rw[if_pos rfl];grind
end Go.Proofs.Ytdjbfgfbpimakaa.M
end

section
namespace Go.Proofs.Ytdjbfgfbpimakaa.M
set_option linter.unusedVariables false
def rootsI (f:Nat→Rat):Nat→List Rat
 | 0=>[1]
 | i+1=>mulQ (rootsI f i) [-(f i),1]
def prodI (f:Nat→Rat) (x:Rat):Nat→Rat
 | 0=>1
 | i+1=>prodI f x i*(x-f i)
def outI (f g:Nat→Rat):Nat→List Rat
 | 0=>[]
 | i+1=>addQ (outI f g i) (sclQ (rootsI f i) ((g i-evQ (outI f g i) (f i)) / evQ (rootsI f i) (f i)))
theorem ev_two (c x:Rat):evQ [-c,1] x=x-c:=by simp only[evQ];grind
theorem ev_roots (f:Nat→Rat) (x:Rat):∀ i,evQ (rootsI f i) x=prodI f x i
 | 0=>ev_1 x
 | i+1=>by rw[rootsI,ev_mul,ev_roots f x i,ev_two,prodI]
theorem prodI_0 (f:Nat→Rat) (x:Rat):∀ i,prodI f x i=0↔∃ j,j<i∧x=f j
 | 0=>by simp only[prodI];exact⟨fun h=>absurd h (by decide),fun ⟨j,hj,_⟩=>absurd hj (by omega)⟩
 | i+1=>by
  rw[prodI,Rat.mul_eq_zero,prodI_0 f x i]
  constructor
  ·rintro (⟨j,h1,h2⟩ | h)
   ·exact⟨j,by omega,h2⟩
   ·exact⟨i,by omega,by grind⟩
  ·rintro⟨j,h1,h2⟩
   by_cases e:j=i
   ·right;subst e;grind
   ·left;exact⟨j,by omega,h2⟩
theorem nf_two (c:Rat):Nf [-c,1]:=.inr (by show (1:Rat)≠0;decide)
theorem roots_nf (f:Nat→Rat):∀ i,Nf (rootsI f i)
 | 0=>nf_1
 | i+1=>nf_mul _ _
theorem roots_ln (f:Nat→Rat):∀ i,(rootsI f i).length=i+1
 | 0=>rfl
 | i+1=>by
  have ih:=roots_ln f i
  have h:=mul_len (roots_nf f i) (nf_two (f i)) (fun e=>by rw[e] at ih;simp at ih) (by simp)
  rw[rootsI,h,ih];simp
theorem out_nf (f g:Nat→Rat):∀ i,Nf (outI f g i)
 | 0=>nf_nil
 | i+1=>nf_add _ _
theorem out_len (f g:Nat→Rat):∀ i,(outI f g i).length≤i
 | 0=>by simp[outI]
 | i+1=>by
  have h1:=out_len f g i
  have h2:=roots_ln f i
  have h3:=scl_len (rootsI f i) ((g i-evQ (outI f g i) (f i)) / evQ (rootsI f i) (f i))
  have h4:=add_len (outI f g i) (sclQ (rootsI f i) ((g i-evQ (outI f g i) (f i)) / evQ (rootsI f i) (f i)))
  rw[outI];omega
def Dist (f:Nat→Rat) (i:Nat):Prop:=∀ j k,j<k→k<i→f j≠f k
theorem Dist.ne {f:Nat→Rat} {i:Nat} (h:Dist f i) {j k:Nat} (hj:j<i) (hk:k<i) (e:j≠k):f j≠f k:=by
 rcases Nat.lt_or_ge j k with hlt | hge
 ·exact h j k hlt hk
 ·exact fun e2=>h k j (by omega) hj e2.symm
theorem interp {f g:Nat→Rat}:∀ i,Dist f i→∀ j,j<i→evQ (outI f g i) (f j)=g j
 | 0,_,j,hj=>by omega
 | i+1,hd,j,hj=>by
  rw[outI,ev_add,ev_scl]
  by_cases e:j=i
  ·subst e
   have h0:evQ (rootsI f j) (f j)≠0:=by
    rw[ev_roots]
    intro h
    obtain⟨k,h1,h2⟩:=(prodI_0 f (f j) j).1 h
    exact hd k j h1 (by omega) h2.symm
   grind
  ·have h0:evQ (rootsI f i) (f j)=0:=by
    rw[ev_roots];exact (prodI_0 f (f j) i).2 ⟨j,by omega,rfl⟩
   rw[interp i (fun a b h1 h2=>hd a b h1 (by omega)) j (by omega),h0];grind
theorem agree:∀ (i:Nat) (l:List Rat) (f:Nat→Rat),l.length≤i→Dist f i→(∀ j,j<i→evQ l (f j)=0)→∀ t,cf l t=0
 | 0,l,f,hl,_,_,t=>cf_ge (by omega)
 | i+1,l,f,hl,hd,hz,t=>by
  have hc:=hz i (by omega)
  have ih:=agree i (sdiv (f i) l) f (by rw[sdiv_len];omega) (fun a b h1 h2=>hd a b h1 (by omega)) fun j hj=>by
   have h1:=ev_sdiv (f i) (f j) l
   rw[hz j (by omega),hc] at h1
   have h2:(f j-f i)*evQ (sdiv (f i) l) (f j)=0:=by grind
   rcases Rat.mul_eq_zero.1 h2 with h | h
   ·exact absurd (show f j=f i by grind) (hd j i hj (by omega))
   ·exact h
  cases t with
  | succ t=>rw[cf_sdiv (f i) l t,ih,ih];grind
  | zero =>
   have e:=ev_sdiv (f i) 0 l
   have h0:∀ l:List Rat,evQ l 0=cf l 0:=fun l=>by cases l<;>simp[evQ,cf_nil,cf_cons];grind
   rw[h0,h0,hc,ih] at e
   grind
def sN:Nat→(Nat→Nat)→Nat
 | 0,_=>0
 | n+1,f=>sN n f+f n
theorem mul_comm_l (a b:List Rat):mulQ a b=mulQ b a:=ev_nf (nf_mul _ _) (nf_mul _ _) fun x=>by rw[ev_mul,ev_mul];grind
theorem sz_two {c:Rat} {m:Nat} (h:Bq m c):Sz m [-c,1]:=⟨c.den,Nat.le_of_lt h.2,fun i=>by
 rw[cf_cons]
 cases i with
 | zero=>exact (Db.of_self c).neg.mono (Nat.le_of_lt h.1)
 | succ i =>
  simp only
  rw[cf_cons]
  cases i with
  | zero =>
   have:=(Db.ofInt 1).up (E:=c.den) c.den_pos
   rw[Nat.one_mul] at this
   exact this.mono (by simp;exact Nat.le_of_lt h.2)
  | succ i=>exact Db.zero c.den_pos _⟩
theorem roots_sz {f:Nat→Rat} {β:Nat→Nat}:∀ i,(∀ k,k<i→Bq (β k) (f k))→Sz (sN i fun k=>β k+1) (rootsI f i)
 | 0,_=>⟨1,Nat.one_le_two_pow,fun i=>by
  rw[rootsI,cf_cons]
  cases i with
  | zero=>exact (Db.ofInt 1).mono Nat.one_le_two_pow
  | succ i=>exact Db.zero (by omega) _⟩
 | i+1,h=>by
  have h1:=roots_sz i fun k hk=>h k (by omega)
  rw[rootsI,mul_comm_l,sN]
  exact ((sz_two (h i (by omega))).mul h1 (r:=1) (by simp)).mono (by omega)
theorem bq_sub {x y:Rat} {m n:Nat} (hx:Bq m x) (hy:Bq n y):Bq (m+n+1) (x-y):=by
 have h:=((Db.of_self x).up y.den_pos).sub (by rw[Nat.mul_comm x.den y.den];exact (Db.of_self y).up x.den_pos)
 refine h.Bq ?_ ?_
 ·rw[Nat.pow_succ,Nat.pow_add]
  have:=Nat.mul_lt_mul'' hx.2 hy.2
  omega
 ·rw[Nat.pow_succ,Nat.pow_add]
  have h1:=Nat.mul_lt_mul'' hx.1 hy.2
  have h2:=Nat.mul_lt_mul'' hy.1 hx.2
  rw[Nat.mul_comm (2^n)] at h2
  omega
theorem prodI_bq {f:Nat→Rat} {β:Nat→Nat} {x:Rat} {b:Nat} (hx:Bq b x):∀ i,(∀ k,k<i→Bq (β k) (f k))→Bq (1+i*b+sN i fun k=>β k+1) (prodI f x i)
 | 0,_=>⟨by simp[prodI],by simp[prodI]⟩
 | i+1,h=>by
  have h1:=prodI_bq hx i fun k hk=>h k (by omega)
  rw[prodI,sN,Nat.succ_mul]
  exact (h1.mul (bq_sub hx (h i (by omega)))).mono (by omega)
def but (f:Nat→Rat) (j k:Nat):Rat:=if k<j then f k else f (k+1)
def butN (β:Nat→Nat) (j k:Nat):Nat:=if k<j then β k else β (k+1)
theorem sN_but (β:Nat→Nat) (j:Nat):∀ i,j≤i→sN i (fun k=>butN β j k+1)+(β j+1)=sN (i+1) fun k=>β k+1
 | 0,h=>by
  obtain rfl:j=0:=by omega
  simp[sN]
 | i+1,h=>by
  by_cases e:j=i+1
  ·subst e
   have:∀ n,n≤i+1→sN n (fun k=>butN β (i+1) k+1)=sN n fun k=>β k+1:=fun n=>by
    induction n with
    | zero=>intro _;rfl
    | succ n ih=>intro hn;rw[sN,sN,ih (by omega)];simp[butN,show n<i+1 by omega]
   rw[this _ (Nat.le_refl _)];rfl
  ·have ih:=sN_but β j i (by omega)
   rw[sN,sN]
   have:butN β j i=β (i+1):=by simp[butN,show ¬ i<j by omega]
   rw[this];omega
def sumL:Nat→(Nat→List Rat)→List Rat
 | 0,_=>[]
 | n+1,F=>addQ (sumL n F) (F n)
theorem ev_sumL (F:Nat→List Rat) (x:Rat):∀ n,evQ (sumL n F) x=sumQ n fun j=>evQ (F j) x
 | 0=>rfl
 | n+1=>by rw[sumL,ev_add,ev_sumL F x n,sumQ]
theorem sumL_nf (F:Nat→List Rat):∀ n,Nf (sumL n F)
 | 0=>nf_nil
 | n+1=>nf_add _ _
theorem sumL_len (F:Nat→List Rat) (L:Nat):∀ n,(∀ j,j<n→(F j).length≤L)→(sumL n F).length≤L
 | 0,_=>by simp[sumL]
 | n+1,h=>by
  have h1:=sumL_len F L n fun j hj=>h j (by omega)
  have h2:=h n (by omega)
  have:=add_len (sumL n F) (F n)
  rw[sumL];omega
theorem sumL_sz (F:Nat→List Rat) (w:Nat→Nat):∀ n,(∀ j,j<n→Sz (w j) (F j))→Sz (sN n fun j=>w j+1) (sumL n F)
 | 0,_=>Sz.nil _
 | n+1,h=>by
  rw[sumL,sN]
  exact ((sumL_sz F w n fun j hj=>h j (by omega)).add (h n (by omega))).mono (by omega)
def lagF (f g:Nat→Rat) (i j:Nat):List Rat:=sclQ (rootsI (but f j) (i-1)) (g j*(1 / prodI (but f j) (f j) (i-1)))
theorem but_at {f:Nat→Rat} {i j k:Nat} (hk:k<i) (e:k≠j) (hj:j<i):∃ t,t<i-1∧but f j t=f k:=by
 rcases Nat.lt_or_ge k j with hlt | hge
 ·exact⟨k,by omega,by simp[but,hlt]⟩
 ·exact⟨k-1,by omega,by simp[but,show ¬ k-1<j by omega,show k-1+1=k by omega]⟩
theorem lag_eq {f g:Nat→Rat} {i:Nat} (hd:Dist f i):outI f g i=sumL i (lagF f g i):=by
 refine nf_ext (out_nf _ _ _) (sumL_nf _ _) fun t => ?_
 have h:=agree i (subQ (outI f g i) (sumL i (lagF f g i))) f ?_ hd (fun k hk => ?_) t
 ·rw[cf_sub] at h;grind
 ·have h1:=out_len f g i
  have h2:=sumL_len (lagF f g i) i i fun j hj=>by
   have h3:=roots_ln (but f j) (i-1)
   have h4:=scl_len (rootsI (but f j) (i-1)) (g j*(1 / prodI (but f j) (f j) (i-1)))
   unfold lagF;omega
  have:=sub_len (outI f g i) (sumL i (lagF f g i))
  omega
 ·rw[ev_sub,interp i hd k hk,ev_sumL,sumQ_one (k:=k) hk fun j hj hne => ?_]
  ·unfold lagF
   rw[ev_scl,ev_roots]
   have h0:prodI (but f k) (f k) (i-1)≠0:=fun h=>by
    obtain⟨t,h1,h2⟩:=(prodI_0 _ _ _).1 h
    unfold but at h2
    split at h2
    ·exact hd.ne hk (by omega) (by omega) h2
    ·exact hd.ne hk (by omega) (by omega) h2
   grind
  ·unfold lagF
   rw[ev_scl,ev_roots]
   obtain⟨t,h1,h2⟩:=but_at (f:=f) hk (fun e=>hne e.symm) hj
   rw[(prodI_0 (but f j) (f k) (i-1)).2 ⟨t,h1,h2.symm⟩];grind
theorem out_sz {f g:Nat→Rat} {β γ:Nat→Nat} {i:Nat} (hd:Dist f i) (hf:∀ k,k<i→Bq (β k) (f k)) (hg:∀ k,k<i→Bq (γ k) (g k)) :
  Sz (sN i fun j=>2*(sN i fun k=>β k+1)+i*β j+γ j+2) (outI f g i):=by
 rw[lag_eq hd]
 obtain⟨W,hW⟩:∃ W,W=sN i fun k=>β k+1:=⟨_,rfl⟩
 rw[←hW]
 refine (sumL_sz (lagF f g i) (fun j=>2*W+i*β j+γ j+1) i fun j hj => ?_)
 obtain⟨n,rfl⟩:∃ n,i=n+1:=⟨i-1,by omega⟩
 have hb:=sN_but β j n (by omega)
 rw[←hW] at hb
 have hbut:∀ k,k<n→Bq (butN β j k) (but f j k):=fun k hk=>by
  unfold butN but
  split
  ·exact hf k (by omega)
  ·exact hf (k+1) (by omega)
 have h1:=roots_sz n hbut
 have h2:=prodI_bq (hf j hj) n hbut
 unfold lagF
 rw[Nat.add_sub_cancel]
 have e:(n+1)*β j=n*β j+β j:=Nat.succ_mul _ _
 exact (h1.scl ((hg j hj).mul h2.inv)).mono (by omega)
end Go.Proofs.Ytdjbfgfbpimakaa.M
end

section
namespace Go.Proofs.Ytdjbfgfbpimakaa.M
open Go.RowKit
set_option linter.unusedVariables false
structure S12 (e n:Nat):Prop where
 e10:10≤e
 nn:40000*(e+8)<n
 big:n≤big
theorem samez_con (l:List Rat) (n:Nat) (nl:Nf l) (bl:Bl n l) (hn:n≤big) (hn1:1<n) (h1:l.length≤1000000):Con Try.prog AN 28 [pI l,pI l] (.bool true):=by
 have:=same_con l l nl nl n bl bl (fun i=>by rw[show cf l i-cf l i=0 by grind];exact Bq.zero n (by omega)) hn hn1 h1 h1
 rwa[decide_eq_true (rfl:l=l)] at this
theorem addz_con {l m:List Rat} {k j n:Nat} (hl:Sz k l) (hm:Sz j m) (h1:l.length≤1000) (h2:m.length≤1000) (hn:k+j+1<n) (hb:n≤big):Con Try.prog AN 30 [pI l,pI m] (pI (addQ l m)):=
 add_con l m n (hl.bl (by omega)) (hm.bl (by omega)) (fun i=>by rw[←cf_add];exact (hl.add hm).bl (by omega) i) hb (by omega) (by omega)
end Go.Proofs.Ytdjbfgfbpimakaa.M
end

section
namespace Go.Proofs.Ytdjbfgfbpimakaa.M
set_option linter.unusedVariables false
def xs (t:Nat) (l:List Rat):List Rat:=List.replicate t 0++l
theorem xs_len (t:Nat) (l:List Rat):(xs t l).length=t+l.length:=by simp[xs]
theorem ev_xs (x:Rat) (l:List Rat):∀ t,evQ (xs t l) x=x^t*evQ l x
 | 0=>by simp only[xs,List.replicate_zero,List.nil_append];grind
 | t+1=>by
  have h:=ev_xs x l t
  show (0:Rat)+x*evQ (xs t l) x=_
  rw[h];grind
theorem cf_xs (l:List Rat):∀ t u,cf (xs t l) u=if u<t then 0 else cf l (u-t)
 | 0,u=>by rw[if_neg (by omega)];rfl
 | t+1,0=>by rw[if_pos (by omega)];rfl
 | t+1,u+1=>by
  have h:=cf_xs l t u
  show cf (xs t l) u=_
  rw[h]
  by_cases e:u<t
  ·rw[if_pos e,if_pos (by omega)]
  ·rw[if_neg e,if_neg (by omega),show u+1-(t+1)=u-t by omega]
def rwP (N:Nat) (P:List Rat):Nat→Rat:=fun c=>if c<N then cf P (N-1-c) else 0
def mtx (N n m:Nat) (P:Nat→List Rat) (q:List Rat):Nat→Nat→Rat:=fun i=>if i<n then rwP N (P i) else rwP N (xs (m-1-(i-n)) q)
def bmx (N m:Nat) (q:List Rat) (R:Nat→List Rat):Nat→Nat→Rat:=fun i=>if i<m then rwP N (xs (m-1-i) q) else rwP N (R (i-m))
theorem mtx_red {N n m:Nat} (hN:N=m+n) {P R k:Nat→List Rat} {q:List Rat} (h:∀ i,i<n→∀ u,cf (P i) u=cnv (k i) q u+cf (R i) u) (hk:∀ i,i<n→(k i).length≤m) :
  dt N (mtx N n m P q)=dt N (mtx N n m R q):=by
 have step:∀ T,T<n→dt N (mtx N n m (fun i=>if i<T then R i else P i) q)=dt N (mtx N n m (fun i=>if i<T+1 then R i else P i) q):=fun T hT=>by
  obtain⟨Y,hY⟩:∃ Y,Y=mtx N n m (fun i=>if i<T+1 then R i else P i) q:=⟨_,rfl⟩
  have hYT:Y T=rwP N (R T):=by rw[hY];unfold mtx;rw[if_pos hT];dsimp only;rw[if_pos (by omega)]
  have hYq:∀ t,t<m→Y (n+(m-1-t))=rwP N (xs t q):=fun t ht=>by
   rw[hY];unfold mtx;rw[if_neg (by omega),show m-1-(n+(m-1-t)-n)=t by omega]
  have hs:=(dt_alt N).sum (M:=Y) (i:=T) (by omega) (fun t=>cf (k T) t) (fun t=>n+(m-1-t)) (Y T) (k T).length fun t ht=>by
   have:=hk T hT
   exact⟨by omega,by omega⟩
  rw[up_self] at hs
  rw[←hY,←hs]
  refine dt_congr N fun i c hi hc => ?_
  unfold up
  by_cases e:i=T
  ·rw[if_pos e,e]
   have e1:mtx N n m (fun i=>if i<T then R i else P i) q T c=cf (P T) (N-1-c):=by
    unfold mtx;rw[if_pos hT];dsimp only;rw[if_neg (by omega)];unfold rwP;rw[if_pos hc]
   rw[e1,h T hT,cnv_sum (k T) q (N-1-c) (Nat.le_refl _),hYT]
   dsimp only
   rw[show rwP N (R T) c=cf (R T) (N-1-c) by unfold rwP;rw[if_pos hc]]
   congr 1
   refine sumQ_ext fun t ht => ?_
   rw[hYq t (by have:=hk T hT;omega),rwP,if_pos hc,cf_xs]
   by_cases e2:t≤N-1-c
   ·rw[if_pos e2,if_neg (by omega)]
   ·rw[if_neg e2,if_pos (by omega)];grind
  ·rw[if_neg e,hY]
   unfold mtx
   by_cases h1:i<n
   ·rw[if_pos h1,if_pos h1];dsimp only
    by_cases h2:i<T
    ·rw[if_pos h2,if_pos (by omega)]
    ·rw[if_neg h2,if_neg (by omega)]
   ·rw[if_neg h1,if_neg h1]
 have all:∀ T,T≤n→dt N (mtx N n m (fun i=>if i<T then R i else P i) q)=dt N (mtx N n m P q):=fun T=>by
  induction T with
  | zero=>intro _;congr 1
  | succ T ih=>intro hT;rw[←step T (by omega),ih (by omega)]
 rw[←all n (Nat.le_refl _)]
 refine dt_congr N fun i c hi hc => ?_
 unfold mtx
 by_cases h1:i<n
 ·rw[if_pos h1,if_pos h1];dsimp only;rw[if_pos h1]
 ·rw[if_neg h1,if_neg h1]
theorem mtx_bmx {N n m:Nat} (hN:N=m+n) (R:Nat→List Rat) (q:List Rat):dt N (mtx N n m R q)=sg (n*m)*dt N (bmx N m q R):=by
 have h:=(dt_alt N).bsd (mtx N n m R q) n m (by omega)
 have e:dt N (bs (mtx N n m R q) n m)=dt N (bmx N m q R):=dt_congr N fun i c hi hc=>by
  unfold bs bmx
  by_cases h1:i<m
  ·rw[if_pos h1,if_pos h1];unfold mtx;rw[if_neg (by omega),show n+i-n=i by omega]
  ·rw[if_neg h1,if_neg h1,if_pos (by omega)];unfold mtx;rw[if_pos (by omega)]
 rw[e] at h
 rw[h]
 have:=sg_sq (n*m)
 grind
theorem bmx_peel {n d:Nat} {q:List Rat} {R:Nat→List Rat} (hq:∀ u,n<u→cf q u=0) (hR:∀ i u,i<n→n+d≤u→cf (R i) u=0) :
  ∀ s,dt (d+s+n) (bmx (d+s+n) (d+s) q R)=cf q n^s*dt (d+n) (bmx (d+n) d q R)
 | 0=>by rw[Nat.add_zero];grind
 | s+1=>by
  have ih:=bmx_peel hq hR s
  rw[show d+(s+1)+n=(d+s+n)+1 by omega,dt_peel]
  ·have e0:bmx (d+s+n+1) (d+(s+1)) q R 0 0=cf q n:=by
    unfold bmx rwP;rw[if_pos (by omega),if_pos (by omega),cf_xs,if_neg (by omega)]
    congr 1;omega
   have e1:dt (d+s+n) (fun i c=>bmx (d+s+n+1) (d+(s+1)) q R (i+1) (c+1))=dt (d+s+n) (bmx (d+s+n) (d+s) q R):=dt_congr _ fun i c hi hc=>by
    unfold bmx rwP
    by_cases h1:i<d+s
    ·rw[if_pos (by omega),if_pos h1,if_pos (by omega),if_pos hc,show d+(s+1)-1-(i+1)=d+s-1-i by omega,show d+s+n+1-1-(c+1)=d+s+n-1-c by omega]
    ·rw[if_neg (by omega),if_neg h1,if_pos (by omega),if_pos hc,show i+1-(d+(s+1))=i-(d+s) by omega,show d+s+n+1-1-(c+1)=d+s+n-1-c by omega]
   rw[e0,e1,ih];grind
  ·intro i hi
   unfold bmx rwP
   by_cases h1:i+1<d+(s+1)
   ·rw[if_pos h1,if_pos (by omega),cf_xs,if_neg (by omega)];exact hq _ (by omega)
   ·rw[if_neg h1,if_pos (by omega)];exact hR _ _ (by omega) (by omega)
def sy (p q:List Rat) (m n:Nat):Nat→Nat→Rat:=mtx (m+n) n m (fun i=>xs (n-1-i) p) q
def syl (p q:List Rat) (m n:Nat):Rat:=dt (m+n) (sy p q m n)
theorem bmx_sy {q r:List Rat} {n d:Nat}:dt (d+n) (bmx (d+n) d q fun i=>xs (n-1-i) r)=syl q r n d:=by
 unfold syl sy
 rw[Nat.add_comm n d]
 rfl
theorem k_len {p d q r:List Rat} (h:DivQ p d q r) (nd:Nf d) (hd:d≠[]) {N:Nat} (hp:p.length≤N) (hN:d.length≤N+1):q.length+d.length≤N+1:=by
 by_cases hq:q=[]
 ·rw[hq];simpa using hN
 ·have h1:=mul_len h.nq nd hq hd
  have h2:=List.length_pos_iff.2 hq
  have e2:mulQ q d=subQ p r:=ev_nf (nf_mul _ _) (nf_sub _ _) fun x=>by rw[ev_sub,ev_mul,h.eq];grind
  have h3:=sub_len p r
  have h4:=h.lt
  rw[←e2] at h3
  omega
theorem div_xs {p d q r:List Rat} (h:DivQ p d q r) (s u:Nat):cf (xs s p) u=cnv (xs s q) d u+cf (xs s r) u:=by
 rw[←cf_mul,←cf_add]
 exact ev_ext (fun x=>by rw[ev_add,ev_mul,ev_xs,ev_xs,ev_xs,h.eq];grind) u
theorem syl_swap (p q:List Rat) (m n:Nat):syl p q m n=sg (n*m)*syl q p n m:=by
 rw[←bmx_sy (q:=q) (r:=p) (n:=n) (d:=m)]
 exact mtx_bmx rfl _ _
theorem syl_step {p q k r:List Rat} (h:DivQ p q k r) (nq:Nf q) {m n d s:Nat} (hp:p.length≤m+1) (hq:q.length=n+1) (hnm:n≤m) (hr:r.length≤d+1) (hm:m=d+s) :
  syl p q m n=sg (n*m)*(cf q n^s*syl q r n d):=by
 have q0:q≠[]:=fun e=>by rw[e] at hq;simp at hq
 have hk:=k_len h nq q0 hp (by omega)
 have h1:=mtx_red (N:=m+n) (n:=n) (m:=m) rfl (P:=fun i=>xs (n-1-i) p) (R:=fun i=>xs (n-1-i) r) (k:=fun i=>xs (n-1-i) k) (q:=q) (fun i _ u=>div_xs h _ u) fun i hi=>by rw[xs_len];omega
 have h2:=mtx_bmx (N:=m+n) (n:=n) (m:=m) rfl (fun i=>xs (n-1-i) r) q
 have h3:=bmx_peel (n:=n) (d:=d) (q:=q) (R:=fun i=>xs (n-1-i) r) (fun u hu=>cf_ge (by omega)) (fun i u hi hu=>by rw[cf_xs,if_neg (by omega)];exact cf_ge (by omega)) s
 rw[←hm,bmx_sy (q:=q) (r:=r) (n:=n) (d:=d)] at h3
 unfold syl sy at *
 rw[h1,h2,h3]
theorem syl_nil (q:List Rat) {m n:Nat} (hn:0<n):syl [] q m n=0:=by
 have h:=(dt_alt (m+n)).zero (sy [] q m n) (i:=0) (by omega)
 have e:(fun _=>(0:Rat))=sy [] q m n 0:=by
  funext c;unfold sy mtx;rw[if_pos hn];unfold rwP
  split
  ·rw[cf_xs];split<;>rfl
  ·rfl
 rw[e,up_self] at h
 exact h
theorem syl_const (p:List Rat) {q:List Rat} (hq:q.length≤1) (m:Nat):syl p q m 0=cf q 0^m:=by
 have h2:=mtx_bmx (N:=m+0) (n:=0) (m:=m) rfl (fun i=>xs (0-1-i) p) q
 have h3:=bmx_peel (n:=0) (d:=0) (q:=q) (R:=fun i=>xs (0-1-i) p) (fun u hu=>cf_ge (by omega)) (fun i u hi hu=>by omega) m
 rw[Nat.zero_add] at h3
 unfold syl sy
 rw[h2,h3,Nat.zero_mul,show sg 0=1 from rfl,show dt (0+0) _=1 from rfl]
 grind
theorem cf_sumL (F:Nat→List Rat) (u:Nat):∀ n,cf (sumL n F) u=sumQ n fun j=>cf (F j) u
 | 0=>rfl
 | n+1=>by rw[sumL,cf_add,cf_sumL F u n,sumQ]
theorem sumQ_rev (f:Nat→Rat):∀ n,sumQ n (fun k=>f (n-1-k))=sumQ n f
 | 0=>rfl
 | n+1=>by
  rw[sumQ_split]
  show f (n+1-1-0)+_=sumQ n f+f n
  rw[←sumQ_rev f n,show n+1-1-0=n by omega,sumQ_ext (g:=fun k=>f (n-1-k)) fun k hk=>by rw[show n+1-1-(k+1)=n-1-k by omega]]
  grind
noncomputable def mm (p q:List Rat) (n:Nat):Nat→Nat→Rat:=fun i=>rwP n (remQ (xs (n-1-i) p) q)
theorem rem_mul {p p' q:List Rat} (nq:Nf q) (q0:q≠[]) {n:Nat} (hq:q.length=n+1) (s:Nat) :
  remQ (xs s (mulQ p p')) q=sumL n fun t=>sclQ (remQ (xs t p') q) (cf (remQ (xs s p) q) t):=by
 have h0:=dvSpec nq q0 (xs s p)
 have ht:=fun t=>dvSpec nq q0 (xs t p')
 refine (div_eq nq (q:=addQ (mulQ (quoQ (xs s p) q) p') (sumL n fun t=>sclQ (quoQ (xs t p') q) (cf (remQ (xs s p) q) t))) ⟨nf_add _ _,sumL_nf _ _,fun x => ?_,?_⟩).2.symm
 ·rw[ev_xs,ev_mul,ev_add,ev_mul,ev_sumL,ev_sumL]
  have e:=h0.eq x
  rw[ev_xs,ev_sum (remQ (xs s p) q) x (n:=n) (by have:=h0.lt;omega)] at e
  have e2:sumQ n (fun i=>cf (remQ (xs s p) q) i*x^i)*evQ p' x=sumQ n (fun t=>evQ (sclQ (quoQ (xs t p') q) (cf (remQ (xs s p) q) t)) x)*evQ q x+sumQ n fun t=>evQ (sclQ (remQ (xs t p') q) (cf (remQ (xs s p) q) t)) x:=by
   rw[←sumQ_mul,←sumQ_mul,←sumQ_add]
   refine sumQ_ext fun t _ => ?_
   have e3:=(ht t).eq x
   rw[ev_xs] at e3
   rw[ev_scl,ev_scl]
   grind
  grind
 ·refine Nat.lt_of_le_of_lt (sumL_len _ n n fun j _ => ?_) (by omega)
  have h1:=scl_len (remQ (xs j p') q) (cf (remQ (xs s p) q) j)
  have:=(ht j).lt
  omega
theorem mm_mul {p p' q:List Rat} (nq:Nf q) (q0:q≠[]) {n:Nat} (hq:q.length=n+1):dt n (mm (mulQ p p') q n)=dt n (mm p q n)*dt n (mm p' q n):=by
 rw[←dt_mul]
 refine dt_congr n fun i c hi hc => ?_
 unfold mm mulM
 have eR:∀ (P:List Rat) (k:Nat),k<n→rwP n P k=cf P (n-1-k):=fun P k hk=>by unfold rwP;rw[if_pos hk]
 rw[eR _ _ hc,rem_mul nq q0 hq,cf_sumL,←sumQ_rev]
 refine sumQ_ext fun k hk => ?_
 dsimp only
 rw[eR _ _ hk,eR _ _ hc,cf_scl];grind
theorem syl_mm {p q:List Rat} (nq:Nf q) {m n:Nat} (hp:p.length≤m+1) (hq:q.length=n+1):syl p q m n=sg (n*m)*(cf q n^m*dt n (mm p q n)):=by
 have q0:q≠[]:=fun e=>by rw[e] at hq;simp at hq
 have hd:=fun i=>dvSpec nq q0 (xs (n-1-i) p)
 have h1:=mtx_red (N:=m+n) (n:=n) (m:=m) rfl (P:=fun i=>xs (n-1-i) p) (R:=fun i=>remQ (xs (n-1-i) p) q) (k:=fun i=>quoQ (xs (n-1-i) p) q) (q:=q)
  (fun i _ u=>by rw[←cf_mul,←cf_add];exact ev_ext (fun x=>by rw[ev_add,ev_mul,(hd i).eq]) u) fun i hi=>by
   have:=k_len (hd i) nq q0 (N:=m+n) (by rw[xs_len];omega) (by omega)
   omega
 have h2:=mtx_bmx (N:=m+n) (n:=n) (m:=m) rfl (fun i=>remQ (xs (n-1-i) p) q) q
 have h3:=bmx_peel (n:=n) (d:=0) (q:=q) (R:=fun i=>remQ (xs (n-1-i) p) q) (fun u hu=>cf_ge (by omega)) (fun i u hi hu=>cf_ge (by have:=(hd i).lt;omega)) m
 rw[Nat.zero_add,Nat.zero_add] at h3
 unfold syl sy
 rw[h1,h2,h3]
 rfl
theorem rpow_add (x:Rat) (a:Nat):∀ b,x^(a+b)=x^a*x^b
 | 0=>by rw[Nat.add_zero];grind
 | b+1=>by rw[←Nat.add_assoc,Rat.pow_succ,rpow_add x a b,Rat.pow_succ];grind
theorem rpow_ne {x:Rat} (h:x≠0):∀ n:Nat,x^n≠0
 | 0=>by rw[Rat.pow_zero];decide
 | n+1=>by
  rw[Rat.pow_succ]
  exact fun e=>(Rat.mul_eq_zero.1 e).elim (rpow_ne h n) h
theorem sg_ne (a:Nat):sg a≠0:=fun e=>by have:=sg_sq a;rw[e] at this;grind
def resQ (p q:List Rat):Rat:=if p=[]∨q=[] then 0 else syl p q (p.length-1) (q.length-1)
theorem res_mul {p p' q:List Rat} (np:Nf p) (np':Nf p') (nq:Nf q):resQ (mulQ p p') q=resQ p q*resQ p' q:=by
 by_cases h1:p=[]
 ·rw[h1,mul_nil_l];simp[resQ]
 by_cases h2:p'=[]
 ·rw[h2,mul_nil_r];simp[resQ]
 by_cases h3:q=[]
 ·rw[h3];simp[resQ]
 have hl:=mul_len np np' h1 h2
 have l1:=List.length_pos_iff.2 h1
 have l2:=List.length_pos_iff.2 h2
 have l3:=List.length_pos_iff.2 h3
 have h4:mulQ p p'≠[]:=fun e=>by rw[e] at hl;simp at hl;omega
 obtain⟨m,hm⟩:∃ m,p.length=m+1:=⟨p.length-1,by omega⟩
 obtain⟨m',hm'⟩:∃ m,p'.length=m+1:=⟨p'.length-1,by omega⟩
 obtain⟨n,hn⟩:∃ n,q.length=n+1:=⟨q.length-1,by omega⟩
 unfold resQ
 rw[if_neg (by simp[h4,h3]),if_neg (by simp[h1,h3]),if_neg (by simp[h2,h3]),hn,hm,hm',show (mulQ p p').length-1=m+m' by omega,Nat.add_sub_cancel,Nat.add_sub_cancel,Nat.add_sub_cancel,
  syl_mm nq (m:=m+m') (by omega) hn,syl_mm nq (m:=m) (by omega) hn,syl_mm nq (m:=m') (by omega) hn,mm_mul nq h3 hn,Nat.mul_add,sg_add,rpow_add]
 grind
theorem res_swap {p q:List Rat} (hp:p≠[]) (hq:q≠[]):resQ p q=sg ((p.length-1)*(q.length-1))*resQ q p:=by
 unfold resQ
 rw[if_neg (by simp[hp,hq]),if_neg (by simp[hp,hq]),syl_swap,Nat.mul_comm]
theorem res_const {p q:List Rat} (hp:p≠[]) (hq:q.length=1):resQ p q=cf q 0^(p.length-1):=by
 have q0:q≠[]:=fun e=>by rw[e] at hq;simp at hq
 unfold resQ
 rw[if_neg (by simp[hp,q0]),hq]
 exact syl_const p (by omega) _
theorem res_step {p q k r:List Rat} (h:DivQ p q k r) (nq:Nf q) (q0:q≠[]) (hle:q.length≤p.length) (r0:r≠[]) :
  resQ p q=sg ((p.length-1)*(q.length-1))*(ld q^(p.length-r.length)*resQ q r):=by
 have l1:=List.length_pos_iff.2 q0
 have l2:=List.length_pos_iff.2 r0
 have l3:=h.lt
 have p0:p≠[]:=fun e=>by rw[e] at hle;have:q.length≤0:=hle;omega
 unfold resQ
 rw[if_neg (by simp[p0,q0]),if_neg (by simp[q0,r0]),syl_step h nq (m:=p.length-1) (n:=q.length-1) (d:=r.length-1) (s:=p.length-r.length) (by omega) (by omega) (by omega) (by omega) (by omega),Nat.mul_comm (p.length-1)]
 rfl
theorem res_zero {p q k:List Rat} (h:DivQ p q k []) (nq:Nf q) (hq:2≤q.length) (hle:q.length≤p.length):resQ p q=0:=by
 have q0:q≠[]:=fun e=>by rw[e] at hq;simp at hq
 have p0:p≠[]:=fun e=>by rw[e] at hle;have:q.length≤0:=hle;omega
 unfold resQ
 rw[if_neg (by simp[p0,q0]),syl_step h nq (m:=p.length-1) (n:=q.length-1) (d:=p.length-1) (s:=0) (by omega) (by omega) (by omega) (by simp) (by omega),syl_swap,syl_nil q (by omega)]
 grind
theorem res_gcd:∀ (N:Nat) {p q g:List Rat},p.length+2*q.length≤N→Nf p→Nf q→p≠[]→q≠[]→IsGcd p q g→(resQ p q=0↔1<g.length)
 | 0,p,q,g,hN,_,_,hp,_,_=>by have:=List.length_pos_iff.2 hp;omega
 | N+1,p,q,g,hN,np,nq,hp,hq,hg=>by
  have l1:=List.length_pos_iff.2 hp
  have l2:=List.length_pos_iff.2 hq
  by_cases h1:q.length=1
  ·have e:=res_const hp h1
   have hc:cf q 0≠0:=by have:=ld_ne nq hq;unfold ld at this;rwa[h1] at this
   have:=Dv.len hg.dq hg.ng nq hq
   obtain⟨m,m0,_,_,g0,hl⟩:=this
   have:=List.length_pos_iff.2 m0
   have:=List.length_pos_iff.2 g0
   exact⟨fun h=>absurd (e ▸ h) (rpow_ne hc _),fun h=>by omega⟩
  by_cases h2:p.length<q.length
  ·rw[res_swap hp hq]
   have ih:=res_gcd N (p:=q) (q:=p) (g:=g) (by omega) nq np hq hp hg.swap
   rw[←ih]
   exact⟨fun h=>(Rat.mul_eq_zero.1 h).resolve_left (sg_ne _),fun h=>by rw[h];grind⟩
  ·have hd:=dvSpec nq hq p
   obtain⟨r,hr⟩:∃ r,r=remQ p q:=⟨_,rfl⟩
   rw[←hr] at hd
   have hl:=hd.lt
   by_cases h3:r=[]
   ·rw[h3] at hd
    have hm:=IsGcd.step hd (IsGcd.fin nq)
    rw[hg.unique hm,mon_len_eq nq]
    exact⟨fun _=>by omega,fun _=>res_zero hd nq (by omega) (by omega)⟩
   ·obtain⟨g',hg'⟩:=gcd_ex r.length q r (Nat.le_refl _) nq hd.nr
    rw[hg.unique (IsGcd.step hd hg'),res_step hd nq hq (by omega) h3]
    have ih:=res_gcd N (p:=q) (q:=r) (g:=g') (by omega) nq hd.nr hq h3 hg'
    rw[←ih]
    exact⟨fun h=>(Rat.mul_eq_zero.1 ((Rat.mul_eq_zero.1 h).resolve_left (sg_ne _))).resolve_left (rpow_ne (ld_ne nq hq) _),fun h=>by rw[h];grind⟩
end Go.Proofs.Ytdjbfgfbpimakaa.M
end

section
namespace Go.Proofs.Ytdjbfgfbpimakaa.M
set_option linter.unusedVariables false
def Ip (l:List Rat):Prop:=∃ z:Nat→Int,(∀ i,cf l i=(z i:Rat))∧∀ p:Nat,1<p→¬ ∀ i,(p:Int)∣z i
theorem gP_dvd (l:List Rat) (L:Nat):∀ n i,i<n→gP l L n∣(cf l i).num.natAbs*(L / (cf l i).den)
 | 0,i,h=>by omega
 | n+1,i,h=>by
  rw[gP]
  by_cases e:i=n
  ·rw[e];exact Nat.gcd_dvd_right _ _
  ·exact Nat.dvd_trans (Nat.gcd_dvd_left _ _) (gP_dvd l L n i (by omega))
theorem dvd_gP {l:List Rat} {L d:Nat}:∀ n,(∀ i,i<n→d∣(cf l i).num.natAbs*(L / (cf l i).den))→d∣gP l L n
 | 0,_=>Nat.dvd_zero _
 | n+1,h=>Nat.dvd_gcd (dvd_gP n fun i hi=>h i (by omega)) (h n (by omega))
theorem Ip.unit {x y:List Rat} {c:Rat} (hx:Ip x) (hy:Ip y) (h0:c≠0) (h:∀ i,cf y i=cf x i*c):c=1∨c = -1:=by
 obtain⟨u,hu,pu⟩:=hx
 obtain⟨v,hv,pv⟩:=hy
 have key:∀ i,v i*(c.den:Int)=u i*c.num:=fun i=>by
  have h1:=h i
  rw[hu,hv] at h1
  have h2:=num_den c
  rw[←Rat.intCast_inj,Rat.intCast_mul,Rat.intCast_mul,Rat.intCast_natCast,h1,←h2];grind
 have hb:c.den=1:=Classical.byContradiction fun hb=>by
  have:=c.den_pos
  refine pu c.den (by omega) fun i => ?_
  have h1:c.den∣(u i).natAbs*c.num.natAbs:=by
   rw[←Int.natAbs_mul,←key i,Int.natAbs_mul,Int.natAbs_natCast];exact⟨_,Nat.mul_comm _ _⟩
  exact Int.ofNat_dvd_left.2 (Nat.Coprime.dvd_of_dvd_mul_right c.reduced.symm h1)
 have ha:¬ 1<c.num.natAbs:=fun ha=>pv _ ha fun i=>by
  have h1:=key i
  rw[hb] at h1
  refine Int.ofNat_dvd_left.2 ?_
  rw[show v i=u i*c.num by omega,Int.natAbs_mul]
  exact⟨_,Nat.mul_comm _ _⟩
 have hn:c.num≠0:=fun e=>h0 (Rat.num_eq_zero.1 e)
 have hc:c=((c.num:Int):Rat):=by
  have h2:=num_den c
  rw[hb] at h2
  rw[←h2]
  have:((1:Nat):Rat)=1:=rfl
  rw[this];grind
 rcases (show c.num=1∨c.num = -1 by omega) with h1 | h1
 ·left;rw[hc,h1];rfl
 ·right;rw[hc,h1];rfl
theorem Ip.mul {a b:List Rat} (ha:Ip a) (hb:Ip b):Ip (mulQ a b):=by
 obtain⟨u,hu,pu⟩:=ha
 obtain⟨v,hv,pv⟩:=hb
 refine⟨fun k=>sumZ (k+1) fun s=>u s*v (k-s),fun k => ?_,fun p hp hall=>pv p hp ?_⟩
 ·rw[cf_mul,sumZ_rat];unfold cnv
  exact sumQ_ext fun i _=>by rw[hu,hv,Rat.intCast_mul]
 ·exact gauss pu p p (Nat.le_refl _) (by omega) (P:=fun k=>(sumZ (k+1) fun s=>u s*v (k-s)) / p) v fun k=>Int.mul_ediv_cancel' (hall k)
theorem den_up (l:List Rat) {i:Nat} (hi:i<l.length):(cf l i).den∣lN l l.length:=Nat.dvd_trans (den_dvd l i) (lN_up l hi)
theorem prim_ip {l:List Rat} (nl:Nf l) (h0:l≠[]):Ip (primQ l):=by
 obtain⟨L,hL⟩:∃ L,L=lN l l.length:=⟨_,rfl⟩
 obtain⟨g,hg⟩:∃ g,g=gN l l.length:=⟨_,rfl⟩
 have g0:=gN_ne nl h0
 rw[←hg] at g0
 have gr:=gN_rat nl h0
 have Lr:=lN_rat l l.length
 have hgP:=gP_all l l.length
 rw[←hL,←hg] at hgP
 rw[←hg] at gr
 rw[←hL] at Lr
 obtain⟨s,hs,hk⟩:∃ s:Int,(s=1∨s = -1)∧kQ l=(s:Rat)*(((g:Nat):Int):Rat) / (((L:Nat):Int):Rat):=by
  unfold kQ
  rw[←hg,←hL,Rat.divInt_eq_div]
  split
  ·refine⟨-1,.inr rfl,?_⟩;have:((-1:Int):Rat) = -1:=rfl;rw[this];grind
  ·refine⟨1,.inl rfl,?_⟩;have:((1:Int):Rat)=1:=rfl;rw[this];grind
 obtain⟨w,hw⟩:∃ w:Nat→Int,∀ i,w i=(cf l i).num*((L / (cf l i).den:Nat):Int):=⟨_,fun _=>rfl⟩
 have hwr:∀ i,cf l i*(((L:Nat):Int):Rat)=((w i:Int):Rat):=fun i=>by
  by_cases hi:i<l.length
  ·rw[hw,num_up (by rw[hL];exact den_up l hi)]
  ·rw[hw,cf_ge (by omega)];simp
 have hwd:∀ i,(g:Int)∣w i:=fun i=>by
  refine Int.ofNat_dvd_left.2 ?_
  rw[hw,Int.natAbs_mul,Int.natAbs_natCast]
  by_cases hi:i<l.length
  ·rw[←hgP];exact gP_dvd l L _ i hi
  ·rw[cf_ge (by omega)];simp
 refine⟨fun i=>s*(w i / g),fun i => ?_,fun p hp hall => ?_⟩
 ·obtain⟨t,ht⟩:=hwd i
  have h1:=hwr i
  rw[ht,Rat.intCast_mul] at h1
  dsimp only
  rw[primQ,cf_scl,hk,ht,Int.mul_ediv_cancel_left _ (by omega),Rat.intCast_mul]
  rcases hs with rfl | rfl
  ·have:((1:Int):Rat)=1:=rfl
   rw[this];grind
  ·have:((-1:Int):Rat) = -1:=rfl
   rw[this];grind
 ·have h1:p*g∣gP l L l.length:=dvd_gP _ fun i hi=>by
   obtain⟨t,ht⟩:=hall i
   dsimp only at ht
   obtain⟨y,hy⟩:=hwd i
   rw[hy,Int.mul_ediv_cancel_left _ (by omega)] at ht
   have h2:=hw i
   have:((cf l i).num.natAbs*(L / (cf l i).den))=(w i).natAbs:=by rw[h2,Int.natAbs_mul,Int.natAbs_natCast]
   rw[this]
   refine Int.ofNat_dvd_left.1 ?_
   rw[hy,Int.natCast_mul]
   rcases hs with rfl | rfl
   ·exact⟨t,by rw[show y=p*t by omega];grind⟩
   ·exact⟨-t,by rw[show y = -(p*t) by omega];grind⟩
  rw[hgP] at h1
  have h2:=Nat.le_of_dvd (by omega) h1
  have h3:2*g≤p*g:=Nat.mul_le_mul_right _ hp
  omega
theorem num_pos' {x:Rat}:0<x.num↔0<x:=by rw[Rat.lt_iff];simp
theorem kQ_sgn {l:List Rat} (nl:Nf l) (h0:l≠[]):0<kQ l*ld l:=by
 have hl:=ld_ne nl h0
 have hg:(0:Rat)<((gN l l.length:Nat):Rat):=Rat.natCast_pos.2 (by have:=gN_ne nl h0;omega)
 have hL:(0:Rat)<((lN l l.length:Nat):Rat):=Rat.natCast_pos.2 (lN_pos l _)
 have hq:(0:Rat)<((gN l l.length:Nat):Rat) / ((lN l l.length:Nat):Rat):=by rw[Rat.div_def];exact Rat.mul_pos hg (Rat.inv_pos.2 hL)
 unfold kQ sgnQ sgnZ
 rw[Rat.divInt_eq_div,Rat.intCast_natCast,Rat.intCast_natCast]
 have hn:(ld l).num≠0:=fun e=>hl (Rat.num_eq_zero.1 e)
 rcases Int.lt_trichotomy (ld l).num 0 with h | h | h
 ·have h2:(0:Rat) < -(ld l):=num_pos'.1 (by show 0<(-(ld l)).num;simp;omega)
  rw[if_pos (by (repeat' split)<;>omega)]
  have:=Rat.mul_pos hq h2
  grind
 ·exact absurd h hn
 ·have h2:(0:Rat)<ld l:=num_pos'.1 h
  rw[if_neg (by (repeat' split)<;>omega)]
  exact Rat.mul_pos hq h2
theorem prim_mul {a b:List Rat} (na:Nf a) (nb:Nf b):kQ (mulQ a b)=kQ a*kQ b∧primQ (mulQ a b)=mulQ (primQ a) (primQ b):=by
 by_cases a0:a=[]
 ·rw[a0,mul_nil_l,kQ_nil,prim_nil,mul_nil_l];exact⟨by grind,rfl⟩
 by_cases b0:b=[]
 ·rw[b0,mul_nil_r,kQ_nil,prim_nil,mul_nil_r];exact⟨by grind,rfl⟩
 have nm:=nf_mul a b
 have m0:mulQ a b≠[]:=fun e=>a0 (mul_zero_of na nb b0 fun x=>by rw[←ev_mul,e];rfl)
 have ka:=kQ_ne na a0
 have kb:=kQ_ne nb b0
 have km:=kQ_ne nm m0
 have hcf:∀ i,cf (mulQ (primQ a) (primQ b)) i=cf (primQ (mulQ a b)) i*(kQ (mulQ a b) / (kQ a*kQ b)):=fun i=>by
  have h1:cf (mulQ a b) i=cf (sclQ (mulQ (primQ a) (primQ b)) (kQ a*kQ b)) i:=ev_ext (fun x=>by
   rw[ev_scl,ev_mul,ev_mul]
   have h1:evQ a x=evQ (primQ a) x*kQ a:=by rw[←ev_scl,prim_back na]
   have h2:evQ b x=evQ (primQ b) x*kQ b:=by rw[←ev_scl,prim_back nb]
   rw[h1,h2];grind) i
  have h2:cf (mulQ a b) i=cf (primQ (mulQ a b)) i*kQ (mulQ a b):=by rw[←cf_scl,prim_back nm]
  rw[cf_scl] at h1
  have:kQ a*kQ b≠0:=fun e=>(Rat.mul_eq_zero.1 e).elim ka kb
  grind
 have kab:kQ a*kQ b≠0:=fun e=>(Rat.mul_eq_zero.1 e).elim ka kb
 have hc:=Ip.unit (prim_ip nm m0) ((prim_ip na a0).mul (prim_ip nb b0)) (c:=kQ (mulQ a b) / (kQ a*kQ b)) (by grind) hcf
 have s1:=kQ_sgn na a0
 have s2:=kQ_sgn nb b0
 have s3:=kQ_sgn nm m0
 rw[ld_mul na nb a0 b0] at s3
 have s4:=Rat.mul_pos s1 s2
 have hk:kQ (mulQ a b)=kQ a*kQ b:=by
  rcases hc with h | h
  ·grind
  ·have:kQ (mulQ a b) = -(kQ a*kQ b):=by grind
   rw[this] at s3
   grind
 refine⟨hk,nf_ext (nf_prim _) (nf_mul _ _) fun i => ?_⟩
 rw[hcf,hk];grind
end Go.Proofs.Ytdjbfgfbpimakaa.M
end

section
namespace Go.Proofs.Ytdjbfgfbpimakaa.M
open Go.RowKit
set_option linter.unusedSimpArgs false
set_option linter.unusedVariables false
set_option linter.defProp false
structure EvD (l:List Rat) (x:Rat) (n:Nat):Prop where
 bx:Bq n x
 bl:Bl n l
 d:∀ i,Bq n (evQ (l.drop i) x)
 m:∀ i,Bq n (evQ (l.drop i) x*x)
 len:l.length≤1000000
theorem Sz.evd {k b n N:Nat} {l:List Rat} {x:Rat} (h:Sz k l) (hx:Bq b x) (hN:l.length≤N) (hN2:N≤1000000) (hn:20+(k+b*N)+b<n):EvD l x n:=by
 obtain⟨K,h1,h2⟩:=h
 obtain⟨A,hA⟩:∃ A:Nat,A=2^b:=⟨_,rfl⟩
 have hx0:=Db.of_self x
 have g1:x.num.natAbs≤A:=by rw[hA];exact Nat.le_of_lt hx.1
 have g2:x.den≤A:=by rw[hA];exact Nat.le_of_lt hx.2
 have a1:A≤2^b:=Nat.le_of_eq hA
 clear hA
 have hAN:A^N≤2^(b*N):=pp a1 N
 have hbN:x.den^N≤2^(b*N):=pp (Nat.le_trans g2 a1) N
 have hpj:∀ j,j≤N→Db (x.den^N) (A^N) (x^j):=fun j hj=>pow_db hx0 g1 g2 hj
 have hKb:K*x.den^N≤2^(k+b*N):=pm h1 hbN
 have hHA:2^k*A^N≤2^(k+b*N):=pm (Nat.le_refl _) hAN
 have h20:N≤2^20:=by omega
 have hed:∀ i,Db (K*x.den^N) (N*(2^k*A^N)) (evQ (l.drop i) x):=fun i=>by
  rw[ev_sum _ x (n:=N) (by rw[List.length_drop];omega)]
  exact Db.sum (Nat.mul_pos h2.pos (Nat.pow_pos x.den_pos)) N _ fun j hj=>by rw[cf_drop];exact (h2 _).mul (hpj j (by omega))
 have hH:N*(2^k*A^N)≤2^(20+(k+b*N)):=pm h20 hHA
 have hl:Sz k l:=⟨K,h1,h2⟩
 exact⟨hx.mono (by omega),hl.bl (by omega),fun i=>(hed i).Bq (p2 hKb (by omega)) (p2 hH (by omega)),
  fun i=>((hed i).mul hx0).Bq (p2 (pm hKb (Nat.le_trans g2 a1)) (by omega)) (p2 (pm hH (Nat.le_trans g1 a1)) (by omega)),by omega⟩
set_option maxHeartbeats 4000000 in
theorem evalN_con (l:List Rat) (x:Rat) (n:Nat) (h:EvD l x n) (hn:n≤big):Con Try.prog AN 24 [pI l,qI x] (qI (evQ l x)):=by
 have hlen:=h.len
 refine fn24.con rfl (by simp) ?_
 simp only[c24,c24_27,c24_1,l24_0,csP,init2,cw,csW,cops,reduceCtorEq,Nat.reduceEqDiff,Nat.reduceAdd]
 refine keep [2,3,4] ?_
 simp only[c24_26,c24_3,l24_2,csP,csW,reduceCtorEq,Nat.reduceEqDiff,cw,cops,Nat.reduceAdd]
 refine keep [2,3,4,5] ?_
 simp only[c24_25,c24_21,c24_5,l24_4,csW,Nat.reduceEqDiff,cw,cops,csP]
 (repeat refine And.intro (by first | omega | (simp;omega)) ?_)
 refine keep [2,3,4,5,6] ?_
 simp only[c24_20,csW,Nat.reduceEqDiff,cw]
 refine loop_of (ι:=Nat) (fun i=>i≤l.length) (fun i=>⟨look [(2,.ptr 2 0 0),(3,.ptr 3 0 0),(4,.ptr 4 0 0),(5,.ptr 5 0 0),(6,.p (J ((i:Int)-1)))],
  lookM [(2,⟨25,1,.box (.p (pI l)),false⟩),(3,⟨39,4,.box (.p (qI x)),false⟩),(4,⟨39,4,.box (.p (qI 0)),false⟩),(5,⟨39,4,.box (.p (qI (evQ (l.drop i) x))),false⟩)]⟩) (fun i=>i) l.length (by omega) (by rw[List.drop_of_length_le (Nat.le_refl _),evQ_nil];exact (Sub.toG [2,3,4,5,6] [] (by rfl) (by rfl) (by rfl) (by rfl))) ?_
 rintro i hi
 rcases i with _ | i
 ·have hJ:¬ (0:Int)≤0-1:=by omega
  simp only[c24_18,c24_9,c24_7,l24_6,csW,cw,cops,Nat.reduceEqDiff,hJ]
  refine keep [2,3,4,5,6,13] ?_
  simp only[c24_8,csW,Nat.reduceEqDiff,cw]
  refine keep [4,5] ?_
  simp only[c24_24,c24_23,l24_22,csW,Nat.reduceEqDiff,cw,cops,csP,Nat.reduceAdd]
  refine keep [4] ?_
  simp only[Ends,resD,resL,resV,csW,Nat.reduceEqDiff,csP,Nat.reduceAdd]
 ·have hJ:(0:Int)≤(i:Int):=by omega
  have hil:i<l.length:=by omega
  simp only[c24_18,c24_9,c24_7,l24_6,csW,cw,cops,Nat.reduceEqDiff,hJ]
  refine keep [2,3,4,5,6,13] ?_
  simp only[c24_8,csW,Nat.reduceEqDiff,cw]
  refine keep [2,3,4,5,6] ?_
  simp only[c24_17,c24_14,c24_13,l24_10,csW,Nat.reduceEqDiff,cw,cops,csP,Nat.reduceLT,Nat.reduceAdd]
  refine⟨_,qMul (evQ (l.drop (i+1)) x) x n (h.d _) h.bx hn,?_⟩
  simp only[l24_11,cops,csW,csP,Nat.reduceLT,Nat.reduceEqDiff,getD_q hil,Nat.reduceAdd]
  (repeat refine And.intro (by first | omega | (simp;omega)) ?_)
  refine⟨_,qAdd _ (cf l i) n (h.m _) (h.bl i) hn,?_⟩
  simp only[l24_12,cops,csW,Nat.reduceEqDiff,csP,Nat.reduceAdd]
  refine keep [2,3,4,5,6] ?_
  simp only[c24_16,l24_15,csW,Nat.reduceEqDiff,cw,cops]
  (repeat refine And.intro (by first | omega | (simp;omega)) ?_)
  exact⟨i,by omega,by rw[ev_drop hil];exact (Sub.toG [2,3,4,5,6] [] (by rfl) (by rfl) (by rfl) (by rfl)),by omega⟩
end Go.Proofs.Ytdjbfgfbpimakaa.M
end

section
namespace Go.Proofs.Ytdjbfgfbpimakaa.M
open Go.RowKit
set_option linter.unusedSimpArgs false
set_option linter.unusedVariables false
set_option linter.defProp false
theorem GI.divi {P Q A B:List Rat} {e r L n:Nat} (h:GI P Q e r L A B) (hB:B≠[]) (hL:L≤900) (hn:2*(gS e r L+(gS e r L+1)*(L+1))+2*gS e r L+60<n) (hb:n≤big) :
  Con Try.prog AN 41 [pI A,pI B] (.tup [pI (quoQ A B),pI (remQ A B),flt 0 0])∧Con Try.prog AN 72 [pI (remQ A B)] (pI (monQ (remQ A B)))∧(monQ (remQ A B)).length<B.length:=by
 have hg:=gS_le e r L
 have lA:=h.lA
 have lB:=h.lB
 have hd:=dvSpec h.nB hB A
 have hlt:=hd.lt
 obtain⟨s1,_⟩:=dv_sz h.nB hB h.sA (h.sB.mon h.nB) h.dB (S:=L+1) (by omega)
 have bR:Bl (gS e r L+(gS e r L+1)*(L+1)+10) (remQ A B):=s1.bl (by omega)
 exact⟨dvi_con h.nA h.nB hB h.sA (h.sB.mon h.nB) (h.dB.mono (show e+1≤gS e r L+10 by omega)) (S:=L+1) (by omega) (by omega) (by omega) (n:=n) (by omega) (by omega) hb (by omega) (by omega),
  monic_con _ _ n hd.nr bR (by omega) (by omega) hb (by omega),by rw[mon_len_eq hd.nr];exact hlt⟩
theorem GI.outi {P Q A:List Rat} {e r L n:Nat} (h:GI P Q e r L A []) (hL:L≤900) (hn:2*(gS e r L+(gS e r L+1)*(L+1))+2*gS e r L+60<n) (hb:n≤big) {g:List Rat} (hg:IsGcd P Q g) :
  Con Try.prog AN 72 [pI A] (pI g):=by
 have lA:=h.lA
 have e1:monQ A=g:=(h.gc _ (IsGcd.fin h.nA)).unique hg
 rw[←e1]
 have bA:Bl (gS e r L+10) A:=h.sA.bl (by omega)
 exact monic_con _ _ n h.nA bA (by omega) (by omega) hb (by omega)
set_option maxHeartbeats 4000000 in
theorem gcd_con (P Q:List Rat) (nP:Nf P) (nQ:Nf Q) {e r L n:Nat} (hP:Sz e P) (hQ:Sz e Q) (h1:P.length≤L) (h2:Q.length≤L) (hr:L≤2^r) (hL:L≤900) (hn:2*(gS e r L+(gS e r L+1)*(L+1))+2*gS e r L+60<n) (hb:n≤big) {g:List Rat} (hg:IsGcd P Q g) :
  Con Try.prog AN 31 [pI P,pI Q] (pI g):=by
 refine fn31.con rfl (by simp) ?_
 simp only[c31,c31_22,c31_1,l31_0,init2,cw,csW,cops,reduceCtorEq,Nat.reduceEqDiff]
 refine keep [2,3,4] ?_
 simp only[c31_21,c31_16,csW,reduceCtorEq,Nat.reduceEqDiff,cw]
 refine loop_of (ι:=List Rat × List Rat) (fun x=>GI P Q e r L x.1 x.2) (fun x=>⟨look [(2,.ptr 2 0 0),(3,.ptr 3 0 0),(4,.ptr 4 0 0)],
  lookM [(2,⟨25,1,.box (.p (pI x.1)),false⟩),(3,⟨25,1,.box (.p (pI x.2)),false⟩),(4,⟨25,1,.box zPoly,false⟩)]⟩) (fun x=>x.2.length) (P,Q) (GI.start nP nQ hP hQ h1 h2) (Sub.toG [2,3,4] [5,6,7] (by rfl) (by rfl) (by rfl) (by rfl)) ?_
 rintro⟨A,B⟩ hs
 replace hs:GI P Q e r L A B:=hs
 by_cases hB:B=[]
 ·have hI:¬ (0:Int)<(B.length:Int):=by rw[hB];simp
  have ho:=GI.outi (hB ▸ hs) hL hn hb hg
  simp only[c31_14,c31_5,c31_3,l31_2,cw,csW,cops,csP,Nat.reduceEqDiff,hI]
  refine keep [2,3,4,11] ?_
  simp only[c31_4,csW,Nat.reduceEqDiff,cw]
  refine keep [2,4] ?_
  simp only[c31_20,c31_19,l31_17,csW,Nat.reduceEqDiff,cw,cops,csP]
  refine⟨_,ho,?_⟩
  simp only[l31_18,cops,csW,Nat.reduceEqDiff,csP]
  refine keep [4] ?_
  simp only[Ends,resD,resL,resV,csW,Nat.reduceEqDiff,csP]
 ·have hI:(0:Int)<(B.length:Int):=by have:=List.length_pos_iff.2 hB;omega
  obtain⟨d1,m1,hlt⟩:=hs.divi hB hL hn hb
  simp only[c31_14,c31_5,c31_3,l31_2,cw,csW,cops,csP,Nat.reduceEqDiff,hI]
  refine keep [2,3,4,11] ?_
  simp only[c31_4,csW,Nat.reduceEqDiff,cw]
  refine keep [2,3,4] ?_
  simp only[c31_13,c31_12,c31_8,l31_6,csW,Nat.reduceEqDiff,cw,cops,csP]
  refine⟨_,d1,?_⟩
  simp only[l31_7,csP,cops,csW,Nat.reduceEqDiff,Nat.reduceAdd]
  refine keep [2,3,4,6] ?_
  simp only[c31_11,l31_9,csW,Nat.reduceEqDiff,cw,cops,csP]
  refine⟨_,m1,?_⟩
  simp only[l31_10,cops,csW,csP,Nat.reduceEqDiff]
  exact⟨(B,monQ (remQ A B)),hs.next hr hB,(Sub.toG [2,3,4] [5,6,7] (by rfl) (by rfl) (by rfl) (by rfl)),hlt⟩
end Go.Proofs.Ytdjbfgfbpimakaa.M
end

section
namespace Go.Proofs.Ytdjbfgfbpimakaa.M
open Go.RowKit
set_option linter.unusedVariables false
def prodA:List (List Rat × Nat)→Rat→Rat
 | [],_=>1
 | p::l,x=>evQ p.1 x^p.2*prodA l x
def prodB:List (List Rat × Nat)→Rat→Rat
 | [],_=>1
 | p::l,x=>evQ p.1 x*prodB l x
theorem Sz.der {k:Nat} {a:List Rat} (h:Sz k a) (hl:a.length≤256):Sz (k+8) (derQ a):=by
 obtain⟨K,h1,h2⟩:=h
 refine⟨K,pu h1 (by omega),fun i => ?_⟩
 rw[der_cf]
 by_cases hi:i+1<a.length
 ·have:=(h2 (i+1)).mul (Db.ofInt ((i+1:Nat):Int))
  rw[Rat.intCast_natCast,Nat.mul_one] at this
  refine this.mono (pm (Nat.le_refl _) ?_)
  simp only[Int.natAbs_natCast];omega
 ·rw[cf_ge (by omega),Rat.zero_mul];exact Db.zero h2.pos _
theorem Dv.trans {a b c:List Rat} (h:Dv a b) (h2:Dv b c):Dv a c:=by
 obtain⟨m,nm,hm⟩:=h
 obtain⟨k,nk,hk⟩:=h2
 exact⟨mulQ k m,nf_mul _ _,fun x=>by rw[ev_mul,hk,hm];grind⟩
theorem Sz.back {k m:Nat} {a:List Rat} (na:Nf a) (h:Sz k (monQ a)) (hl:Bq m (Go.Proofs.Ytdjbfgfbpimakaa.M.ld a)):Sz (k+m) a:=by
 rw[←mon_back na];exact h.scl hl
def sB (e:Nat):Nat:=2*e+4021
def sC (e:Nat):Nat:=2*e+8057
structure Ys (P b1:List Rat) (e k:Nat) (r b c a:List Rat) (l:List (List Rat × Nat)):Prop where
 y:Yr r b c a
 lb:ld b=ld P
 pr:∀ x,evQ P x=prodA l x*(evQ b x*(1 / ld P))^k*evQ r x
 sq:∀ x,evQ b1 x=prodB l x*evQ b x
 ps:∀ p∈l,Nf p.1∧ld p.1=1∧2≤p.1.length∧1≤p.2∧p.2≤k∧p.2<P.length∧Dv p.1 P
 inc:l.Pairwise fun p q=>p.2<q.2
 kr:k+r.length≤P.length
 ll:l.length≤k
 dr:Dv r P
 sb:Sz (sB e) b
 sc:Sz (sC e) c
structure Pts (P:List Rat) (l:List (List Rat × Nat)):Prop where
 ps:∀ p∈l,Nf p.1∧ld p.1=1∧2≤p.1.length∧1≤p.2∧p.2<P.length∧Dv p.1 P
 inc:l.Pairwise fun p q=>p.2<q.2
 pr:∀ x,evQ P x=prodA l x*ld P
 fr:∀ B d,Nf B→(∀ x,evQ B x=prodB l x)→IsGcd B (derQ B) d→d.length≤1
end Go.Proofs.Ytdjbfgfbpimakaa.M
end

section
namespace Go.Proofs.Ytdjbfgfbpimakaa.M
open Go.RowKit
set_option linter.unusedSimpArgs false
set_option linter.unusedVariables false
set_option linter.defProp false
theorem t_lt (n:Nat):n<10^(rdec n).length:=by
 induction n using Nat.strongRecOn with
 | ind n ih =>
  rcases Nat.eq_zero_or_pos n with h | h
  ·subst h;rw[rdec_zero];simp
  ·have h1:=ih (n / 10) (by omega)
   rw[rdec_pos h,List.length_cons,Nat.pow_succ]
   omega
theorem t_dec_lt (z:Int):z.natAbs≤10^(dec z).length:=by
 have h1:z.natAbs≤10^(decN z.natAbs).length:=by
  unfold decN
  split
  ·rename_i h;rw[h];exact Nat.zero_le _
  ·rw[List.length_reverse];exact Nat.le_of_lt (t_lt _)
 refine Nat.le_trans h1 (Nat.pow_le_pow_right (by omega) ?_)
 unfold dec
 split<;>simp
theorem t_small {a b:Int} {t:List UInt8} (h:frText a b=t) (hb:0<b):b.natAbs≤10^t.length∧a.natAbs*b.natAbs≤10^t.length:=by
 subst h
 have h1:=t_dec_lt a
 have h2:=t_dec_lt b
 unfold frText
 split
 ·rename_i e
  rw[e]
  exact⟨Nat.pow_pos (by omega),by simpa using h1⟩
 ·rw[List.length_append,List.length_cons,Nat.pow_add,Nat.pow_succ]
  have hp:1≤10^(dec a).length:=Nat.pow_pos (by omega)
  obtain⟨x,hx⟩:∃ x,x=10^(dec a).length:=⟨_,rfl⟩
  obtain⟨y,hy⟩:∃ y,y=10^(dec b).length:=⟨_,rfl⟩
  rw[←hx] at h1 hp ⊢
  rw[←hy] at h2 ⊢
  have h3:a.natAbs*b.natAbs≤x*y:=Nat.mul_le_mul h1 h2
  have h4:x*y≤x*(y*10):=Nat.mul_le_mul_left _ (by omega)
  have h5:y≤x*y:=Nat.le_mul_of_pos_left _ hp
  exact⟨by omega,by omega⟩
theorem qR_small (t:List UInt8):(qR t).den≤10^t.length∧(qR t).num.natAbs*(qR t).den≤10^t.length:=by
 have hs:=(fracR_rat t).choose_spec
 have e1:(fracR t).1=(qR t).num:=hs.1
 have e2:(fracR t).2.1=((qR t).den:Int):=hs.2.1
 have hp:1≤10^t.length:=Nat.pow_pos (by omega)
 have hz:∀ c d,fracR t=(0,1,c,d)→(qR t).den≤10^t.length∧(qR t).num.natAbs*(qR t).den≤10^t.length:=fun c d h=>by
  rw[h] at e1 e2
  simp only at e1 e2
  rw[←e1,show (qR t).den=1 by omega]
  simpa using hp
 have hdp:=(qR t).den_pos
 have key:∀ a b:Int,fracR t=(a,b,0,0)→frText a b=t→(qR t).den≤10^t.length∧(qR t).num.natAbs*(qR t).den≤10^t.length:=fun a b h ht=>by
  rw[h] at e1 e2
  simp only at e1 e2
  have:=t_small ht (by omega)
  rw[←e1,show (qR t).den=b.natAbs by omega]
  exact this
 have h0:=hz
 have hk:=key
 unfold fracR at h0 hk
 split at h0
 ·rename_i g1
  rw[if_pos g1] at hk
  split at h0
  ·rename_i g2
   rw[if_pos g2] at hk
   split at h0
   ·rename_i g3
    rw[if_pos g3] at hk
    split at h0
    ·rename_i g4
     rw[if_pos g4] at hk
     exact hk _ _ rfl g4
    ·exact h0 _ _ rfl
   ·exact h0 _ _ rfl
  ·exact h0 _ _ rfl
 ·rename_i g1
  rw[if_neg g1] at hk
  split at h0
  ·rename_i g2
   rw[if_pos g2] at hk
   split at h0
   ·rename_i g3
    rw[if_pos g3] at hk
    refine hk _ _ rfl ?_
    have hok:numOk t=true:=by unfold numOk;rw[g2.1];simpa using g2.2
    have hc:parseC t=0:=by unfold parseC;rw[if_pos hok,if_pos g3]
    unfold frText
    rw[if_pos rfl,parse_dec hc]
   ·exact h0 _ _ rfl
  ·exact h0 _ _ rfl
def tot:List (List UInt8)→Nat
 | []=>0
 | t::l=>t.length+tot l
theorem tot_take (cs:List (List UInt8)) (i:Nat) (h:i<cs.length):tot (cs.take (i+1))=tot (cs.take i)+(cs.getD i []).length:=by
 induction cs generalizing i with
 | nil=>simp at h
 | cons t l ih =>
  cases i with
  | zero=>simp[tot]
  | succ i =>
   rw[List.take_succ_cons,List.take_succ_cons,tot,tot,ih i (by simpa using h)]
   simp;omega
end Go.Proofs.Ytdjbfgfbpimakaa.M
end

section
namespace Go.Proofs.Ytdjbfgfbpimakaa.M
set_option linter.unusedVariables false
def bt (n:Nat):Nat:=if n=0 then 1 else (10*n+2) / 3
theorem bt3 (n:Nat):3*bt n≤10*n+3:=by unfold bt;split<;>omega
theorem tenA {x y p q:Nat} (h:x≤y) (hy:0<y) (hpq:p<q):x*p<y*q:=
 Nat.lt_of_le_of_lt (Nat.mul_le_mul_right p h) (Nat.mul_lt_mul_of_pos_left hpq hy)
theorem ten_lt (n:Nat) (h:0<n):10^n<2^((10*n+2) / 3):=by
 obtain⟨a,c,hc,e⟩:∃ a c,c<3∧n=3*a+c:=⟨n / 3,n % 3,Nat.mod_lt _ (by omega),by omega⟩
 have h3:∀ a:Nat,10^(3*a)≤2^(10*a):=fun a=>by rw[Nat.pow_mul,Nat.pow_mul];exact Nat.pow_le_pow_left (by decide) a
 have h4:∀ a:Nat,0<a→10^(3*a)<2^(10*a):=fun a ha=>by rw[Nat.pow_mul,Nat.pow_mul];exact Nat.pow_lt_pow_left (by decide) (by omega)
 have hp:0<2^(10*a):=Nat.pow_pos (by decide)
 rcases (show c=0∨c=1∨c=2 by omega) with h | h | h
 ·have:=h4 a (by omega)
  rw[show (10*n+2) / 3=10*a by omega,show n=3*a by omega];exact this
 ·rw[show (10*n+2) / 3=10*a+4 by omega,show n=3*a+1 by omega,Nat.pow_add 10,Nat.pow_add 2]
  exact tenA (h3 a) hp (p:=10^1) (q:=2^4) (by decide)
 ·rw[show (10*n+2) / 3=10*a+7 by omega,show n=3*a+2 by omega,Nat.pow_add 10,Nat.pow_add 2]
  exact tenA (h3 a) hp (p:=10^2) (q:=2^7) (by decide)
theorem qR_bt (t:List UInt8):Bq (bt t.length) (qR t):=by
 obtain⟨h1,h2⟩:=qR_small t
 have hd:=(qR t).den_pos
 have h3:(qR t).num.natAbs≤10^t.length:=Nat.le_trans (Nat.le_mul_of_pos_right _ hd) h2
 unfold bt
 split
 ·rename_i h
  rw[h] at h1 h3
  constructor
  ·have:(qR t).num.natAbs=0∨(qR t).num.natAbs=1:=by omega
   omega
  ·omega
 ·rename_i h
  have:=ten_lt t.length (by omega)
  exact⟨by omega,by omega⟩
theorem sN_le {f g:Nat→Nat}:∀ n,(∀ j,j<n→f j≤g j)→sN n f≤sN n g
 | 0,_=>Nat.le_refl _
 | n+1,h=>by
  have h1:=sN_le n fun j hj=>h j (by omega)
  have h2:=h n (by omega)
  rw[sN,sN];omega
theorem sN_add (f g:Nat→Nat):∀ n,sN n (fun j=>f j+g j)=sN n f+sN n g
 | 0=>rfl
 | n+1=>by rw[sN,sN,sN,sN_add f g n];omega
theorem sN_mul (c:Nat) (f:Nat→Nat):∀ n,sN n (fun j=>c*f j)=c*sN n f
 | 0=>rfl
 | n+1=>by rw[sN,sN,sN_mul c f n,Nat.mul_add]
theorem sN_const (c:Nat):∀ n,sN n (fun _=>c)=n*c
 | 0=>by simp[sN]
 | n+1=>by rw[sN,sN_const c n,Nat.succ_mul]
theorem lag_bits {i:Nat} {u v:Nat→Nat} {B:Nat} (h:2*i+sN i u+sN i v≤1048576) :
  (sN i fun j=>2*(sN i fun k=>bt (u k)+1)+i*bt (u j)+bt (v j)+2)≤1840000000000∧sN i (fun k=>bt (u k)+1)≤5000000:=by
 obtain⟨T,hT⟩:∃ T,T=sN i u:=⟨_,rfl⟩
 obtain⟨S,hS⟩:∃ S,S=sN i v:=⟨_,rfl⟩
 rw[←hT,←hS] at h
 have three:∀ (w:Nat→Nat),3*sN i (fun k=>bt (w k))≤10*sN i w+3*i:=fun w=>by
  have h1:=sN_le i fun j _=>bt3 (w j)
  rw[sN_mul 3] at h1
  rw[sN_add (fun j=>10*w j) (fun _=>3),sN_mul 10,sN_const] at h1
  omega
 have h1:=three u
 have h2:=three v
 rw[←hT] at h1
 rw[←hS] at h2
 obtain⟨U,hU⟩:∃ U,U=sN i fun k=>bt (u k):=⟨_,rfl⟩
 obtain⟨V,hV⟩:∃ V,V=sN i fun k=>bt (v k):=⟨_,rfl⟩
 rw[←hU] at h1
 rw[←hV] at h2
 have eW:sN i (fun k=>bt (u k)+1)=U+i:=by rw[sN_add (fun k=>bt (u k)) (fun _=>1),sN_const,←hU];omega
 rw[eW]
 have e:(sN i fun j=>2*(U+i)+i*bt (u j)+bt (v j)+2)=i*(2*(U+i))+i*U+V+i*2:=by
  rw[sN_add (fun j=>2*(U+i)+i*bt (u j)+bt (v j)) (fun _=>2),sN_add (fun j=>2*(U+i)+i*bt (u j)) (fun j=>bt (v j)),sN_add (fun _=>2*(U+i)) (fun j=>i*bt (u j)),sN_const,sN_const,sN_mul i (fun j=>bt (u j)),←hU,←hV]
 rw[e]
 refine⟨?_,by omega⟩
 have k1:3*U≤10*(1048576-2*i)+3*i:=by omega
 have k2:i*(3*U)≤i*(10*(1048576-2*i)+3*i):=Nat.mul_le_mul_left _ k1
 have hi:i≤524288:=by omega
 have sq:((30:Int)*i-10485760)*(30*i-10485760)≥0:=by
  rcases Int.le_total 0 ((30:Int)*i-10485760) with h | h
  ·exact Int.mul_nonneg h h
  ·exact Int.mul_nonneg_of_nonpos_of_nonpos h h
 obtain⟨q,hq⟩:∃ q:Nat,q=i*i:=⟨_,rfl⟩
 have e3:i*(10*(1048576-2*i)+3*i)+17*q=10485760*i:=by
  rw[hq]
  obtain⟨d,hd⟩:∃ d,d=1048576-2*i:=⟨_,rfl⟩
  rw[←hd]
  have:(d:Int)=1048576-2*i:=by omega
  have h5:((i*(10*d+3*i)+17*(i*i):Nat):Int)=((10485760*i:Nat):Int):=by
   rw[Int.natCast_add,Int.natCast_mul,Int.natCast_add,Int.natCast_mul,Int.natCast_mul,Int.natCast_mul,Int.natCast_mul,Int.natCast_mul,this];grind
  exact Int.ofNat.inj h5
 have e4:((30:Int)*i-10485760)*(30*i-10485760)=900*(q:Int)-629145600*i+109951162777600:=by
  rw[hq];push_cast;grind
 rw[e4] at sq
 have e5:i*(2*(U+i))+i*U=i*(3*U)+2*q:=by rw[hq];grind
 rw[e5]
 omega
end Go.Proofs.Ytdjbfgfbpimakaa.M
end

section
namespace Go.Proofs.Ytdjbfgfbpimakaa.M
open Go.RowKit Go.ChangeShapes
set_option linter.unusedVariables false
theorem bulk_strs {H:Type}:∀ (ss:List ByteArray),Rows.uptoBulkAll (strs (H:=H) ss)=ss.length+tot (ss.map fun s=>s.data.toList)
 | []=>by simp[strs,Rows.uptoBulkAll,tot]
 | s::ss=>by
  have ih:=bulk_strs (H:=H) ss
  simp only[strs,List.map_cons,Rows.uptoBulkAll,Rows.uptoBulk,tot,List.length_cons] at ih ⊢
  rw[ih];omega
theorem str_inv {w:World} {N:Nat→Prop} {s:ByteArray} {t:List UInt8} (h:V w N (.string s) (.str t)):s.data.toList=t:=by
 cases h;rfl
theorem bulkS {H:Type} {enc:TypeId × Value→H} {P:Program} {w:World} {N:Nat→Prop} {spare:Nat→Bool} {held:Bool} {v:Value} {t e:TypeId} {T:TypeId} {l:List (List UInt8)} {d:DataW H} {ps:List MemPlace} (hu:P.underlying t=some (.slice e)) (he:P.underlying e=some .string) (hc:P.cellsOf e=1)
  (hv:V w N v (.list T 1 (l.map D.str))) (h:DataW.Trod enc P w 0 spare held t v d ps):l.length+tot l≤Rows.uptoBulk d:=by
 obtain⟨fuel,h⟩:=h
 generalize hL:l.map D.str=L at hv
 have hll:L.length=l.length:=by rw[←hL,List.length_map]
 cases hv with
 | empty a cap =>
  have:l=[]:=by cases l<;>simp_all
  subst this
  simp[tot]
 | list b o cap _ _ _ c fr h1 h2 h3 h4 h5 h6 h7 =>
  rcases open_strings hu he hc h with⟨hc0,-⟩ | ⟨a,len,cap',ss,hcs,-,hl,hm,hz,hx,hcell,-⟩
  ·simp[Value.cells] at hc0
  ·simp[Value.cells] at hcs
   obtain⟨rfl,hlen,-⟩:=hcs
   cases hx
   have hsl:len≤ss.length:=by rw[hz];split<;>omega
   obtain⟨T',hh,-⟩:=h1
   have key:(ss.take len).map (fun s=>s.data.toList)=l:=by
    apply List.ext_getElem
    ·simp;omega
    ·intro i g1 g2
     simp at g1
     have k1:=hcell i (by omega)
     have k0:(⟨b,o,none⟩:Addr).add i=⟨b,o+i,none⟩:=by unfold Addr.add;split<;>simp_all
     rw[k0] at k1
     obtain⟨c',T2,fr2,hh2,ho,hv⟩:=cell_some k1
     rw[hh] at hh2
     cases hh2
     have k2:L[i]? = some (.str l[i]):=by rw[←hL];simp[g2]
     have k3:=h7 i _ 0 (.str l[i]) k2 rfl
     rw[Nat.mul_one,Nat.add_zero,hv] at k3
     have k4:ss.getD i ByteArray.empty=ss[i]'(by omega):=by simp[show i<ss.length by omega]
     rw[k4] at k3
     simp[←str_inv k3]
   have k5:=bulk_strs (H:=H) (ss.take len)
   rw[key,List.length_take] at k5
   simp only[Rows.uptoBulk]
   omega
end Go.Proofs.Ytdjbfgfbpimakaa.M
end
