/- Polynomials: what comes out of two by Euclid's steps: there is one such with small cofactors (Siegel), so all are small but for a factor. Polynomials: the greatest common divisor; how large things get on the way to it. Polynomials: the states of Euclid's loops. Polynomials: a divisor's coefficients are small (Gauss's lemma; values at whole numbers). Polynomials: derivatives; what the parts without squares are found by. Determinants by the first row: their laws. Polynomials: the one of least degree through given points; how large it is (Lagrange's form). Polynomials: what stands at the end of Euclid's loop that keeps the factors. Sylvester's determinant: Euclid's steps, and products. Polynomials: the greatest common divisor, in the program and in the reference. The reference's rows: its determinant, Sylvester's rows. Polynomials: the loop that finds the parts without squares: its states, how large they are. -/
import Derived.Test.YtdjbfgfbpimakaaRvAx
import Derived.Test.YtdjbfgfbpimakaaK11
import Derived.Test.YtdjbfgfbpimakaaK5
section
namespace Go.Proofs.Ytdjbfgfbpimakaa.M
set_option linter.unusedVariables false
theorem pigeon:∀ (m n:Nat) (f:Nat→Nat),(∀ x,x<n→f x<m)→m<n→∃ x y,x<y∧y<n∧f x=f y
 | 0,n,f,h,hn=>absurd (h 0 hn) (by omega)
 | m+1,n,f,h,hn=>by
  obtain⟨k,rfl⟩:∃ k,n=k+1:=⟨n-1,by omega⟩
  by_cases hv:∃ x,x<k∧f x=f k
  ·obtain⟨x,h1,h2⟩:=hv
   exact⟨x,k,h1,by omega,h2⟩
  ·have hne:∀ x,x<k→f x≠f k:=fun x hx e=>hv ⟨x,hx,e⟩
   have hg:∀ x,x<k→(if f x=m then f k else f x)<m:=fun x hx=>by
    have h1:=h x (by omega)
    have h2:=h k (by omega)
    have h3:=hne x hx
    split<;>omega
   obtain⟨x,y,h1,h2,h3⟩:=pigeon m k (fun x=>if f x=m then f k else f x) hg (by omega)
   refine⟨x,y,h1,by omega,?_⟩
   have h4:=hne x (by omega)
   have h5:=hne y h2
   split at h3<;>split at h3<;>omega
def sumZ:Nat→(Nat→Int)→Int
 | 0,_=>0
 | n+1,f=>sumZ n f+f n
theorem sumZ_sub:∀ (n:Nat) (f g:Nat→Int),sumZ n (fun i=>f i-g i)=sumZ n f-sumZ n g
 | 0,_,_=>rfl
 | n+1,f,g=>by
  have h:=sumZ_sub n f g
  simp only[sumZ];omega
theorem sumZ_abs:∀ (n:Nat) (f:Nat→Int) (H:Nat),(∀ i,i<n→(f i).natAbs≤H)→(sumZ n f).natAbs≤n*H
 | 0,_,_,_=>Nat.zero_le _
 | n+1,f,H,h=>by
  have h1:=sumZ_abs n f H fun i hi=>h i (by omega)
  have h2:=h n (by omega)
  rw[sumZ,Nat.succ_mul];omega
theorem sumZ_ext:∀ {n:Nat} {f g:Nat→Int},(∀ i,i<n→f i=g i)→sumZ n f=sumZ n g
 | 0,_,_,_=>rfl
 | n+1,f,g,h=>by rw[sumZ,sumZ,sumZ_ext fun i hi=>h i (by omega),h n (by omega)]
def dg (C:Nat):Nat→Nat→Nat
 | x,0=>x % C
 | x,j+1=>dg C (x / C) j
theorem dg_lt {C:Nat} (hC:0<C):∀ (j x:Nat),dg C x j<C
 | 0,x=>Nat.mod_lt _ hC
 | j+1,x=>dg_lt hC j (x / C)
theorem dg_ne {C:Nat} (hC:0<C):∀ (N x y:Nat),x<C^N→y<C^N→(∀ j,j<N→dg C x j=dg C y j)→x=y
 | 0,x,y,hx,hy,_=>by simp at hx hy;omega
 | N+1,x,y,hx,hy,h=>by
  have h0:x % C=y % C:=h 0 (by omega)
  have h1:=dg_ne hC N (x / C) (y / C) (Nat.div_lt_of_lt_mul (by rw[Nat.mul_comm,←Nat.pow_succ];exact hx)) (Nat.div_lt_of_lt_mul (by rw[Nat.mul_comm,←Nat.pow_succ];exact hy)) fun j hj=>h (j+1) (by omega)
  rw[←Nat.div_add_mod x C,←Nat.div_add_mod y C,h0,h1]
def cod (R:Nat):Nat→(Nat→Nat)→Nat
 | 0,_=>0
 | k+1,w=>cod R k w*R+w k
theorem cod_lt {R:Nat}:∀ (k:Nat) (w:Nat→Nat),(∀ i,i<k→w i<R)→cod R k w<R^k
 | 0,_,_=>by simp[cod]
 | k+1,w,h=>by
  have h1:=cod_lt k w fun i hi=>h i (by omega)
  have h2:=h k (by omega)
  rw[cod,Nat.pow_succ]
  have:(cod R k w+1)*R≤R^k*R:=Nat.mul_le_mul_right _ h1
  rw[Nat.succ_mul] at this
  omega
theorem cod_inj {R:Nat}:∀ (k:Nat) (w v:Nat→Nat),(∀ i,i<k→w i<R)→(∀ i,i<k→v i<R)→cod R k w=cod R k v→∀ i,i<k→w i=v i
 | 0,_,_,_,_,_,i,hi=>absurd hi (by omega)
 | k+1,w,v,hw,hv,h,i,hi=>by
  have h1:=hw k (by omega)
  have h2:=hv k (by omega)
  rw[cod,cod] at h
  have e1:w k=v k:=by
   have:=congrArg (· % R) h
   simp only[Nat.mul_comm _ R,Nat.mul_add_mod] at this
   rwa[Nat.mod_eq_of_lt h1,Nat.mod_eq_of_lt h2] at this
  have e2:cod R k w=cod R k v:=by
   rw[e1] at h
   exact Nat.eq_of_mul_eq_mul_right (by omega:0<R) (by omega)
  by_cases e:i=k
  ·subst e;exact e1
  ·exact cod_inj k w v (fun i hi=>hw i (by omega)) (fun i hi=>hv i (by omega)) e2 i (by omega)
theorem siegel {M:Nat} (hM:0<M) (c:Nat→Nat→Int) {A:Nat} (hA:0<A) (hc:∀ k j,(c k j).natAbs≤A) :
  ∃ z:Nat→Int,(∃ j,j<M+1∧z j≠0)∧(∀ j,(z j).natAbs≤(2*(M+1)*A+1)^M)∧∀ k,k<M→sumZ (M+1) (fun j=>c k j*z j)=0:=by
 obtain⟨F,hF⟩:∃ F,F=2*(M+1)*A+1:=⟨_,rfl⟩
 obtain⟨C,hC⟩:∃ C,C=F^M:=⟨_,rfl⟩
 have hF0:0<F:=by omega
 have hC0:0<C:=by rw[hC];exact Nat.pow_pos hF0
 obtain⟨T,hT⟩:∃ T,T=(M+1)*(A*(C-1)):=⟨_,rfl⟩
 obtain⟨R,hR⟩:∃ R,R=2*T+1:=⟨_,rfl⟩
 have e:F*C=2*((M+1)*(A*C))+C:=by rw[hF,Nat.add_mul,Nat.one_mul];congr 1;simp only[Nat.mul_assoc]
 have hRlt:R<F*C:=by
  have h1:A*(C-1)<A*C:=Nat.mul_lt_mul_of_pos_left (by omega) hA
  have h2:T<(M+1)*(A*C):=by rw[hT];exact Nat.mul_lt_mul_of_pos_left h1 (by omega)
  omega
 have hval:∀ k x,(sumZ (M+1) fun j=>c k j*(dg C x j:Int)).natAbs≤T:=fun k x=>by
  rw[hT]
  refine sumZ_abs _ _ _ fun j _ => ?_
  rw[Int.natAbs_mul]
  exact Nat.mul_le_mul (hc k j) (by have:=dg_lt hC0 j x;simp;omega)
 have hw:∀ x k,((sumZ (M+1) fun j=>c k j*(dg C x j:Int))+T).toNat<R:=fun x k=>by have:=hval k x;omega
 have hF1:(F*C)^M=C^(M+1):=by rw[Nat.mul_pow,←hC,Nat.pow_succ,Nat.mul_comm]
 have hlt:R^M<C^(M+1):=by rw[←hF1];exact Nat.pow_lt_pow_left hRlt (by omega)
 obtain⟨x,y,h1,h2,h3⟩:=pigeon (R^M) (C^(M+1)) (fun x=>cod R M fun k=>((sumZ (M+1) fun j=>c k j*(dg C x j:Int))+T).toNat) (fun x _=>cod_lt M _ fun k _=>hw x k) hlt
 refine⟨fun j=>(dg C x j:Int)-(dg C y j:Int),?_,fun j => ?_,fun k hk => ?_⟩
 ·refine Classical.byContradiction fun hno => ?_
  have:=dg_ne hC0 (M+1) x y (by omega) h2 fun j hj=>Classical.byContradiction fun hne=>hno ⟨j,hj,by show (dg C x j:Int)-(dg C y j:Int)≠0;omega⟩
  omega
 ·have g1:=dg_lt hC0 j x
  have g2:=dg_lt hC0 j y
  show ((dg C x j:Int)-(dg C y j:Int)).natAbs≤_
  rw[←hF,←hC]
  omega
 ·have h4:=cod_inj M _ _ (fun k _=>hw x k) (fun k _=>hw y k) h3 k hk
  have g1:=hval k x
  have g2:=hval k y
  have h5:=sumZ_sub (M+1) (fun j=>c k j*(dg C x j:Int)) (fun j=>c k j*(dg C y j:Int))
  have h6:(sumZ (M+1) fun j=>c k j*((dg C x j:Int)-(dg C y j:Int)))=sumZ (M+1) fun j=>c k j*(dg C x j:Int)-c k j*(dg C y j:Int):=sumZ_ext fun j _=>Int.mul_sub ..
  rw[h6,h5]
  omega
structure Ch (P Q A B U0 V0 U1 V1:List Rat) (δ:Rat):Prop where
 a:∀ x,evQ A x=evQ U0 x*evQ P x+evQ V0 x*evQ Q x
 b:∀ x,evQ B x=evQ U1 x*evQ P x+evQ V1 x*evQ Q x
 d0:δ≠0
 det:∀ x,evQ U0 x*evQ V1 x-evQ V0 x*evQ U1 x=δ
 lt:B.length<A.length
 lv:V1.length+A.length=P.length+1
 lu:V0.length≤V1.length
 aq:A.length≤Q.length
 qp:Q.length≤P.length
 nA:Nf A
 nB:Nf B
 nU0:Nf U0
 nV0:Nf V0
 nU1:Nf U1
 nV1:Nf V1
theorem ev_0 {l:List Rat} (n:Nf l) (h:∀ x,evQ l x=0):l=[]:=ev_nf n nf_nil fun x=>by rw[h];rfl
theorem len1 {l:List Rat} (h:l.length≤1) (x:Rat):evQ l x=cf l 0:=by
 match l,h with
 | [],_=>rfl
 | [a],_=>simp only[evQ,cf_cons];grind
theorem Ch.uniq {P Q A B U0 V0 U1 V1:List Rat} {δ:Rat} (h:Ch P Q A B U0 V0 U1 V1 δ) (nP:Nf P) {u v w:List Rat} (nu:Nf u) (nv:Nf v) (nw:Nf w) (hw:∀ x,evQ w x=evQ u x*evQ P x+evQ v x*evQ Q x) (hl:w.length<A.length) (hv:v.length≤V1.length) (hne:u≠[]∨v≠[]) :
  ∃ c:Rat,c≠0∧(∀ x,evQ w x=c*evQ B x)∧(∀ x,evQ u x=c*evQ U1 x)∧∀ x,evQ v x=c*evQ V1 x:=by
 have h1:=h.lt
 have h2:=h.lv
 have h3:=h.aq
 have h4:=h.qp
 have hP:P≠[]:=fun e=>by have:=congrArg List.length e;simp only[List.length_nil] at this;omega
 have hX:subQ (mulQ u V1) (mulQ v U1)=[]:=by
  refine Classical.byContradiction fun hx => ?_
  have e:mulQ (subQ (mulQ u V1) (mulQ v U1)) P=subQ (mulQ V1 w) (mulQ v B):=ev_nf (nf_mul _ _) (nf_sub _ _) fun x=>by
   rw[ev_mul,ev_sub,ev_sub,ev_mul,ev_mul,ev_mul,ev_mul,hw,h.b];grind
  have e1:=mul_len (nf_sub (mulQ u V1) (mulQ v U1)) nP hx hP
  have e2:=List.length_pos_iff.2 hx
  have e3:=len_le_of (nf_sub (mulQ V1 w) (mulQ v B)) (n:=P.length-1) fun i hi=>by
   rw[cf_sub,cf_ge (l:=mulQ V1 w) (by have:=mul_len_le V1 w;omega),cf_ge (l:=mulQ v B) (by have:=mul_len_le v B;omega)];grind
  rw[←e,e1] at e3
  have:=List.length_pos_iff.2 hP
  omega
 have hX':∀ x,evQ u x*evQ V1 x=evQ v x*evQ U1 x:=fun x=>by
  have:=congrArg (fun l=>evQ l x) hX
  simp only[ev_sub,ev_mul,evQ] at this
  grind
 have hd:=h.d0
 obtain⟨α,hα⟩:∃ α,α=sclQ (subQ (mulQ U0 v) (mulQ V0 u)) (1 / δ):=⟨_,rfl⟩
 have nα:Nf α:=hα ▸ nf_scl _ _
 have e0:∀ x,evQ α x=(evQ U0 x*evQ v x-evQ V0 x*evQ u x)*(1 / δ):=fun x=>by rw[hα,ev_scl,ev_sub,ev_mul,ev_mul]
 have ev:∀ x,evQ α x*evQ V1 x=evQ v x:=fun x=>by
  have g1:=h.det x
  have g2:=hX' x
  rw[e0]
  have g3:(evQ U0 x*evQ v x-evQ V0 x*evQ u x)*evQ V1 x=evQ v x*δ:=by rw[←g1];grind
  grind
 have eu:∀ x,evQ α x*evQ U1 x=evQ u x:=fun x=>by
  have g1:=h.det x
  have g2:=hX' x
  rw[e0]
  have g3:(evQ U0 x*evQ v x-evQ V0 x*evQ u x)*evQ U1 x=evQ u x*δ:=by rw[←g1];grind
  grind
 have hα0:α≠[]:=fun e=>by
  have e1:u=[]:=ev_0 nu fun x=>by rw[←eu,e];simp only[evQ];grind
  have e2:v=[]:=ev_0 nv fun x=>by rw[←ev,e];simp only[evQ];grind
  rcases hne with k | k
  ·exact k e1
  ·exact k e2
 have hV:V1≠[]:=fun e=>by rw[e] at h2;simp at h2;omega
 have hlen:α.length≤1:=by
  have e1:mulQ α V1=v:=ev_nf (nf_mul _ _) nv fun x=>by rw[ev_mul,ev]
  have e2:=mul_len nα h.nV1 hα0 hV
  rw[e1] at e2
  have:=List.length_pos_iff.2 hα0
  have:=List.length_pos_iff.2 hV
  omega
 have hc:cf α 0≠0:=by
  have g1:=ld_ne nα hα0
  unfold ld at g1
  rwa[show α.length-1=0 by omega] at g1
 have ec:=fun x=>len1 hlen x
 refine⟨cf α 0,hc,fun x => ?_,fun x => ?_,fun x => ?_⟩
 ·rw[hw,←eu,←ev,h.b,ec];grind
 ·rw[←eu,ec]
 ·rw[←ev,ec]
theorem quo_len {p d q r:List Rat} (h:DivQ p d q r) (np:Nf p) (nd:Nf d) (hle:d.length≤p.length) (hd:d≠[]):q.length+d.length=p.length+1:=by
 have hdl:=List.length_pos_iff.2 hd
 have hr:=h.lt
 have e:p=addQ (mulQ q d) r:=ev_nf np (nf_add _ _) fun x=>by rw[ev_add,ev_mul,h.eq]
 have hq:q≠[]:=fun e0=>by
  rw[e0,mul_nil_l] at e
  have:=add_len ([]:List Rat) r
  rw[←e] at this
  simp at this
  omega
 have h1:=mul_len h.nq nd hq hd
 have hql:=List.length_pos_iff.2 hq
 have h2:=add_len (mulQ q d) r
 rw[←e] at h2
 have h3:(mulQ q d).length≤p.length:=by
  have e2:mulQ q d=subQ p r:=ev_nf (nf_mul _ _) (nf_sub _ _) fun x=>by rw[ev_sub,ev_mul,h.eq];grind
  rw[e2]
  have:=sub_len p r
  omega
 omega
theorem Ch.step {P Q A B U0 V0 U1 V1:List Rat} {δ:Rat} (h:Ch P Q A B U0 V0 U1 V1 δ) (hB:B≠[]) {k r:List Rat} (hd:DivQ A B k r):Ch P Q B r U1 V1 (subQ U0 (mulQ k U1)) (subQ V0 (mulQ k V1)) (-δ):=by
 have h1:=h.lt
 have h2:=h.lv
 have h3:=h.lu
 have h4:=h.aq
 have h5:=h.qp
 have hBl:=List.length_pos_iff.2 hB
 have hkl:=quo_len hd h.nA h.nB (by omega) hB
 have hk:k≠[]:=fun e=>by rw[e] at hkl;simp at hkl;omega
 have hV:V1≠[]:=fun e=>by rw[e] at h2;simp at h2;omega
 have hVl:=List.length_pos_iff.2 hV
 have hkV:=mul_len hd.nq h.nV1 hk hV
 have hlen:(subQ V0 (mulQ k V1)).length=(mulQ k V1).length:=by
  have g1:=sub_len V0 (mulQ k V1)
  have g2:(mulQ k V1).length≤(subQ V0 (mulQ k V1)).length:=by
   refine Classical.byContradiction fun hc => ?_
   have hne:mulQ k V1≠[]:=fun e=>by rw[e] at hkV;simp at hkV;omega
   have:=ld_ne (nf_mul k V1) hne
   unfold ld at this
   have e0:=cf_sub V0 (mulQ k V1) ((mulQ k V1).length-1)
   rw[cf_ge (l:=subQ _ _) (by omega),cf_ge (l:=V0) (by omega)] at e0
   exact this (by grind)
  omega
 refine⟨h.b,fun x => ?_,fun e=>h.d0 (by grind),fun x => ?_,hd.lt,by omega,by omega,by omega,h.qp,h.nB,hd.nr,h.nU1,h.nV1,nf_sub _ _,nf_sub _ _⟩
 ·have:=hd.eq x
  rw[h.a,h.b] at this
  rw[ev_sub,ev_sub,ev_mul,ev_mul];grind
 ·have:=h.det x
  rw[ev_sub,ev_sub,ev_mul,ev_mul];grind
theorem nf_1:Nf [1]:=.inr (by show (1:Rat)≠0;decide)
theorem ev_1 (x:Rat):evQ [1] x=1:=by simp only[evQ];grind
theorem Ch.start {P Q k r:List Rat} (nP:Nf P) (nQ:Nf Q) (hQ:Q≠[]) (hle:Q.length≤P.length) (hd:DivQ P Q k r):Ch P Q Q r [] [1] [1] (subQ [] k) (-1):=by
 have hQl:=List.length_pos_iff.2 hQ
 have hkl:=quo_len hd nP nQ hle hQ
 have hlen:(subQ [] k).length=k.length:=by
  have:∀ i,cf (subQ [] k) i = - cf k i:=fun i=>by rw[cf_sub,cf_nil];grind
  refine Nat.le_antisymm (len_le_of (nf_sub _ _) fun i hi=>by rw[this,cf_ge hi];grind) (len_le_of hd.nq fun i hi => ?_)
  have e:=this i
  rw[cf_ge hi] at e
  grind
 refine⟨fun x => ?_,fun x => ?_,by decide,fun x => ?_,hd.lt,by omega,by simp;omega,Nat.le_refl _,hle,nQ,hd.nr,nf_nil,nf_1,nf_1,nf_sub _ _⟩
 ·rw[ev_1,evQ_nil];grind
 ·have:=hd.eq x
  rw[ev_1,ev_sub,evQ_nil];grind
 ·rw[ev_1,evQ_nil];grind
theorem cnv_sum (l m:List Rat) (k:Nat) {n:Nat} (hn:l.length≤n):cnv l m k=sumQ n fun j=>if j≤k then cf l j*cf m (k-j) else 0:=by
 have h1:sumQ (n+(k+1)) (fun j=>if j≤k then cf l j*cf m (k-j) else 0)=sumQ n fun j=>if j≤k then cf l j*cf m (k-j) else 0:=sumQ_le (by omega) fun i h1 _=>by
  rw[cf_ge (l:=l) (by omega)];split<;>grind
 have h2:sumQ (n+(k+1)) (fun j=>if j≤k then cf l j*cf m (k-j) else 0)=sumQ (k+1) fun j=>if j≤k then cf l j*cf m (k-j) else 0:=sumQ_le (by omega) fun i h1 _=>if_neg (by omega)
 have h3:sumQ (k+1) (fun j=>if j≤k then cf l j*cf m (k-j) else 0)=sumQ (k+1) fun j=>cf l j*cf m (k-j):=sumQ_ext fun i hi=>if_pos (by omega)
 rw[←h1,h2,h3];rfl
theorem sumZ_rat:∀ (n:Nat) (f:Nat→Int),((sumZ n f:Int):Rat)=sumQ n fun i=>((f i:Int):Rat)
 | 0,_=>rfl
 | n+1,f=>by rw[sumZ,sumQ,Rat.intCast_add,sumZ_rat n f]
theorem sumZ_add (n:Nat) (f:Nat→Int):∀ m,sumZ (n+m) f=sumZ n f+sumZ m fun i=>f (n+i)
 | 0=>by simp[sumZ]
 | m+1=>by rw[←Nat.add_assoc,sumZ,sumZ_add n f m,sumZ];omega
theorem Ch.small {P Q A B U0 V0 U1 V1:List Rat} {δ:Rat} (h:Ch P Q A B U0 V0 U1 V1 δ) (nP:Nf P) (hB:B≠[]) {Kp Kq H L C G:Nat} (hP:Lb Kp H P) (hQ:Lb Kq H Q) (hH:0<H) (hL:P.length≤L) (hC:(4*L*H+1)^(2*L)≤C) (hG1:2*L*(C*H)≤G) (hG2:Kp*C≤G) (hG3:Kq*C≤G) :
  ∃ E,0<E∧E≤G∧Lb E G (sclQ B (1 / ld B))∧Lb E G (sclQ U1 (1 / ld B))∧Lb E G (sclQ V1 (1 / ld B)):=by
 have h1:=h.lt
 have h2:=h.lv
 have h4:=h.aq
 have h5:=h.qp
 obtain⟨a,ha⟩:∃ a:Nat→Int,∀ t,cf P t*(Kp:Rat)=(a t:Rat)∧(a t).natAbs≤H:=⟨fun t=>(hP t).2.choose,fun t=>(hP t).2.choose_spec⟩
 obtain⟨b,hb⟩:∃ b:Nat→Int,∀ t,cf Q t*(Kq:Rat)=(b t:Rat)∧(b t).natAbs≤H:=⟨fun t=>(hQ t).2.choose,fun t=>(hQ t).2.choose_spec⟩
 obtain⟨nu,hnu⟩:∃ nu,nu=Q.length+1-A.length:=⟨_,rfl⟩
 obtain⟨nv,hnv⟩:∃ nv,nv=P.length+1-A.length:=⟨_,rfl⟩
 obtain⟨M,hM⟩:∃ M,M=nu+nv-1:=⟨_,rfl⟩
 obtain⟨d,hd⟩:∃ d,d=A.length-1:=⟨_,rfl⟩
 obtain⟨z,⟨j0,hj0,hz0⟩,hzb,hz⟩:=siegel (M:=M) (by omega) (fun k j=>if j<nu then (if j≤k+d then a (k+d-j) else 0) else (if j-nu≤k+d then b (k+d-(j-nu)) else 0)) (A:=H) hH fun k j=>by
  (repeat' split)<;>first | exact (ha _).2 | exact (hb _).2 | exact Nat.zero_le _
 have hzC:∀ j,(z j).natAbs≤C:=fun j=>by
  refine Nat.le_trans (hzb j) (Nat.le_trans ?_ hC)
  refine Nat.le_trans (Nat.pow_le_pow_left (Nat.add_le_add_right (Nat.mul_le_mul_right H (show 2*(M+1)≤4*L by omega)) 1) _) (Nat.pow_le_pow_right (by omega) (by omega))
 obtain⟨u,hu⟩:∃ u,u=tab nu fun j=>((z j:Int):Rat):=⟨_,rfl⟩
 obtain⟨v,hv⟩:∃ v,v=tab nv fun j=>((z (nu+j):Int):Rat):=⟨_,rfl⟩
 have cu:∀ j,j<nu→cf u j=((z j:Int):Rat):=fun j hj=>by rw[hu,cf_tab,if_pos hj]
 have cv:∀ j,j<nv→cf v j=((z (nu+j):Int):Rat):=fun j hj=>by rw[hv,cf_tab,if_pos hj]
 have lu:u.length=nu:=by rw[hu,tab_len]
 have lv:v.length=nv:=by rw[hv,tab_len]
 obtain⟨P',hP'⟩:∃ P',P'=sclQ P (Kp:Rat):=⟨_,rfl⟩
 obtain⟨Q',hQ'⟩:∃ Q',Q'=sclQ Q (Kq:Rat):=⟨_,rfl⟩
 have cP:∀ t,cf P' t=((a t:Int):Rat):=fun t=>by rw[hP',cf_scl,(ha t).1]
 have cQ:∀ t,cf Q' t=((b t:Int):Rat):=fun t=>by rw[hQ',cf_scl,(hb t).1]
 obtain⟨w,hw⟩:∃ w,w=addQ (mulQ u P') (mulQ v Q'):=⟨_,rfl⟩
 have nw:Nf w:=hw ▸ nf_add _ _
 have cw:∀ t,cf w t=sumQ nu (fun j=>if j≤t then cf u j*cf P' (t-j) else 0)+sumQ nv fun j=>if j≤t then cf v j*cf Q' (t-j) else 0:=fun t=>by
  rw[hw,cf_add,cf_mul,cf_mul,cnv_sum u P' t (n:=nu) (by omega),cnv_sum v Q' t (n:=nv) (by omega)]
 have hwz:∀ t,d≤t→cf w t=0:=fun t ht=>by
  by_cases hlt:t<d+M
  ·have h7:=hz (t-d) (by omega)
   rw[show M+1=nu+nv by omega,sumZ_add] at h7
   have h8:=congrArg (fun n:Int=>(n:Rat)) h7
   simp only[Rat.intCast_add,sumZ_rat] at h8
   rw[cw]
   refine Eq.trans ?_ h8
   congr 1
   ·refine sumQ_ext fun j hj => ?_
    rw[if_pos hj,cu j hj,cP,show t-d+d=t by omega]
    split
    ·rw[Rat.intCast_mul];grind
    ·rw[Int.zero_mul];rfl
   ·refine sumQ_ext fun j hj => ?_
    rw[if_neg (show ¬ nu+j<nu by omega),cv j hj,cQ,show t-d+d=t by omega,show nu+j-nu=j by omega]
    split
    ·rw[Rat.intCast_mul];grind
    ·rw[Int.zero_mul];rfl
  ·have l1:=scl_len P (Kp:Rat)
   have l2:=scl_len Q (Kq:Rat)
   rw[←hP'] at l1
   rw[←hQ'] at l2
   rw[hw,cf_add,cf_mul,cf_mul,cnv_0 (a:=u) (b:=P') (n:=t) (by omega),cnv_0 (a:=v) (b:=Q') (n:=t) (by omega)];grind
 have hwl:w.length<A.length:=by
  have:=len_le_of nw hwz
  omega
 have hK:(Kp:Rat)≠0∧(Kq:Rat)≠0:=by
  have:=hP.pos
  have:=hQ.pos
  exact⟨by rw[ne_eq,Rat.natCast_eq_zero_iff];omega,by rw[ne_eq,Rat.natCast_eq_zero_iff];omega⟩
 obtain⟨hKp,hKq⟩:=hK
 obtain⟨c,c0,e1,e2,e3⟩:=h.uniq nP (u:=sclQ u (Kp:Rat)) (v:=sclQ v (Kq:Rat)) (nf_scl _ _) (nf_scl _ _) nw (fun x=>by rw[hw,ev_add,ev_mul,ev_mul,hP',hQ',ev_scl,ev_scl,ev_scl,ev_scl];grind) hwl (by have:=scl_len v (Kq:Rat);omega) (by
  by_cases hj:j0<nu
  ·left
   intro e
   have:=cf_scl u (Kp:Rat) j0
   rw[e,cf_nil,cu j0 hj] at this
   rcases Rat.mul_eq_zero.1 this.symm with k | k
   ·exact hz0 (Rat.intCast_eq_zero_iff.1 k)
   ·exact hKp k
  ·right
   intro e
   have:=cf_scl v (Kq:Rat) (j0-nu)
   rw[e,cf_nil,cv (j0-nu) (by omega),show nu+(j0-nu)=j0 by omega] at this
   rcases Rat.mul_eq_zero.1 this.symm with k | k
   ·exact hz0 (Rat.intCast_eq_zero_iff.1 k)
   ·exact hKq k)
 have ew:w=sclQ B c:=ev_nf nw (nf_scl _ _) fun x=>by rw[ev_scl,e1];grind
 have eu:∀ i,cf u i*(Kp:Rat)=cf U1 i*c:=fun i=>by rw[←cf_scl,←cf_scl];exact ev_ext (fun x=>by rw[ev_scl (a:=U1),e2];grind) i
 have ev:∀ i,cf v i*(Kq:Rat)=cf V1 i*c:=fun i=>by rw[←cf_scl,←cf_scl];exact ev_ext (fun x=>by rw[ev_scl (a:=V1),e3];grind) i
 have hld:ld w=ld B*c:=by
  unfold ld
  rw[ew,scl_len_eq h.nB c0,cf_scl]
 have hB0:=ld_ne h.nB hB
 have hw0:ld w≠0:=by rw[hld];exact fun e=>(Rat.mul_eq_zero.1 e).elim hB0 c0
 have hCH:nu*(C*H)+nv*(C*H)≤G:=by
  rw[←Nat.add_mul]
  exact Nat.le_trans (Nat.mul_le_mul_right _ (by omega)) hG1
 have z1:∀ j,Db 1 C ((z j:Int):Rat):=fun j=>(Db.ofInt (z j)).mono (hzC j)
 have bw:∀ t,Db 1 G (cf w t):=fun t=>by
  rw[cw]
  refine Db.mono ((Db.sum (by omega) nu _ fun j hj => ?_).add (Db.sum (by omega) nv _ fun j hj => ?_)) hCH
  ·split
   ·rw[cu j hj,cP];exact (z1 j).mul ((Db.ofInt _).mono (ha _).2)
   ·exact Db.zero (by omega) _
  ·split
   ·rw[cv j hj,cQ];exact (z1 _).mul ((Db.ofInt _).mono (hb _).2)
   ·exact Db.zero (by omega) _
 have bK:∀ (K:Nat) (x:Rat),K*C≤G→Db 1 C x→Db 1 G (x*(K:Rat)):=fun K x hk hx=>by
  have:=hx.mul (Db.ofInt (K:Int))
  rw[Rat.intCast_natCast] at this
  refine this.mono ?_
  simp only[Int.natAbs_natCast]
  rw[Nat.mul_comm];exact hk
 have bu:∀ i,Db 1 G (cf u i*(Kp:Rat)):=fun i=>bK Kp _ hG2 (by
  rw[hu,cf_tab]
  split
  ·exact z1 i
  ·exact Db.zero (by omega) _)
 have bv:∀ i,Db 1 G (cf v i*(Kq:Rat)):=fun i=>bK Kq _ hG3 (by
  rw[hv,cf_tab]
  split
  ·exact z1 _
  ·exact Db.zero (by omega) _)
 obtain⟨E,hE,hq⟩:=Db.quo (bw (w.length-1)) hw0
 have hE0:0<E:=(hq 0 (Db.zero (by omega) _)).1
 have key:∀ x y:Rat,y*c=x→y*(1 / ld B)=x / ld w:=fun x y e=>by rw[hld,←e];grind
 refine⟨E,hE0,hE,fun i => ?_,fun i => ?_,fun i => ?_⟩
 ·rw[cf_scl,key (cf w i) _ (by rw[ew,cf_scl])];exact hq _ (bw i)
 ·rw[cf_scl,key _ _ (eu i).symm];exact hq _ (bu i)
 ·rw[cf_scl,key _ _ (ev i).symm];exact hq _ (bv i)
end Go.Proofs.Ytdjbfgfbpimakaa.M
end

section
namespace Go.Proofs.Ytdjbfgfbpimakaa.M
set_option linter.unusedVariables false
def Sz (k:Nat) (l:List Rat):Prop:=∃ K,K≤2^k∧Lb K (2^k) l
section
variable {k m n r:Nat} {l a b:List Rat}
theorem Sz.mono (h:Sz k l) (hk:k≤m):Sz m l:=by
 obtain⟨K,h1,h2⟩:=h
 exact⟨K,pu h1 hk,h2.mono (Nat.pow_le_pow_right (by omega) hk)⟩
theorem Sz.bl (h:Sz k l) (hk:k<n):Bl n l:=by
 obtain⟨K,h1,h2⟩:=h
 exact Bl.ofLb h2 (p2 h1 hk) (Nat.pow_lt_pow_right (by omega) hk)
theorem Sz.nil (k:Nat):Sz k []:=⟨1,Nat.one_le_two_pow,Lb.nil (by omega) _⟩
theorem Sz.scl {c:Rat} (h:Sz k l) (hc:Bq m c):Sz (k+m) (sclQ l c):=by
 obtain⟨K,h1,h2⟩:=h
 exact⟨K*c.den,pm h1 (Nat.le_of_lt hc.2),fun i=>by rw[cf_scl];exact ((h2 i).mul (Db.of_self c)).mono (pm (Nat.le_refl _) (Nat.le_of_lt hc.1))⟩
theorem Sz.mon (h:Sz k l) (nl:Nf l):Sz k (monQ l):=by
 by_cases h0:l=[]
 ·subst h0;rw[mon_nil];exact Sz.nil _
 ·obtain⟨K,h1,h2⟩:=h
  obtain⟨E,e1,e2,e3⟩:=h2.top (ld_ne nl h0)
  refine⟨E,e1,fun i => ?_⟩
  rw[monQ,cf_scl,show cf l i*(1 / ld l)=cf l i / ld l by grind]
  exact e3 i
theorem Sz.ld (h:Sz k l):Bq (k+1) (ld l):=h.bl (Nat.lt_succ_self k) _
end
theorem mon_back {l:List Rat} (nl:Nf l):sclQ (monQ l) (ld l)=l:=nf_ext (nf_scl _ _) nl fun i=>by
 rw[cf_scl,monQ,cf_scl]
 by_cases h0:l=[]
 ·subst h0;rw[cf_nil];grind
 ·have:=ld_ne nl h0;grind
theorem one_div_ne {c:Rat} (h:c≠0):1 / c≠0:=by grind
theorem mon_len_eq {l:List Rat} (nl:Nf l):(monQ l).length=l.length:=by
 by_cases h0:l=[]
 ·subst h0;rfl
 ·exact scl_len_eq nl (one_div_ne (ld_ne nl h0))
theorem selfLb (l:List Rat):∃ D H,Lb D H l:=by
 refine⟨dens l,l.foldr (fun x a=>a+x.num.natAbs*dens l) 0,Lb.of (dens_pos l) fun x hx => ?_⟩
 obtain⟨E,h1,h2⟩:=dens_up hx
 have h3:=(Db.of_self x).up h1
 have h4:x.num.natAbs*E≤x.num.natAbs*dens l:=Nat.mul_le_mul_left _ (by rw[h2];exact Nat.le_mul_of_pos_left _ x.den_pos)
 have h5:∀ (m:List Rat) (N:Nat),x∈m→x.num.natAbs*N≤m.foldr (fun x a=>a+x.num.natAbs*N) 0:=by
  intro m N hm
  induction m with
  | nil=>cases hm
  | cons y m ih =>
   rw[List.foldr_cons]
   rcases List.mem_cons.1 hm with rfl | hm
   ·omega
   ·have:=ih hm;omega
 rw[←h2] at h3
 have:=h5 l (dens l) hx
 exact h3.mono (by omega)
theorem dvSpec {d:List Rat} (nd:Nf d) (hd:d≠[]) (p:List Rat):DivQ p d (quoQ p d) (remQ p d):=by
 obtain⟨D,H,hb⟩:=selfLb p
 obtain⟨D',H',hb'⟩:=selfLb d
 obtain⟨E,_,h2,h3⟩:=hb'.top (ld_ne nd hd)
 obtain⟨q,r,h,_⟩:=div_ex nd hd h2 h3 p.length p D H (by have:=List.length_pos_iff.2 hd;omega) hb
 exact divQ_of h
theorem rem_scl {A B:List Rat} (nB:Nf B) (hB:B≠[]) (a:Rat):quoQ (sclQ A a) B=sclQ (quoQ A B) a∧remQ (sclQ A a) B=sclQ (remQ A B) a:=by
 have h:=dvSpec nB hB A
 have h2:DivQ (sclQ A a) B (sclQ (quoQ A B) a) (sclQ (remQ A B) a):=⟨nf_scl _ _,nf_scl _ _,fun x=>by rw[ev_scl,ev_scl,ev_scl,h.eq];grind,Nat.lt_of_le_of_lt (scl_len _ _) h.lt⟩
 obtain⟨h3,h4⟩:=div_eq nB h2
 exact⟨h3.symm,h4.symm⟩
theorem dv_sz {A B:List Rat} (nB:Nf B) (hB0:B≠[]) {k e b S:Nat} (hA:Sz k A) (hB:Sz e (monQ B)) (hb:Bq b (ld B)) (hS:A.length+1≤S+B.length) :
  Sz (k+(e+1)*S) (remQ A B)∧Sz (k+(e+1)*S+b) (quoQ A B)∧(quoQ A B).length≤S∧(remQ A B).length<B.length:=by
 obtain⟨K,h1,h2⟩:=hA
 obtain⟨E,h3,h4⟩:=hB
 have hE:=h4.pos
 have h0:=ld_ne nB hB0
 have heg:∀ j,Db E (2^e) (cf B j / ld B):=fun j=>by
  have:=h4 j
  rw[monQ,cf_scl,show cf B j*(1 / ld B)=cf B j / ld B by grind] at this
  exact this
 obtain⟨q,r,d,h5,h6,h7⟩:=div_ex nB hB0 hE heg S A K (2^k) (by omega) h2
 obtain⟨rfl,rfl⟩:=div_eq nB d
 have g1:K*E^S≤2^(k+(e+1)*S):=pm h1 (pp (pu h3 (by omega)) _)
 have g2:2^k*(E+2^e)^S≤2^(k+(e+1)*S):=pm (Nat.le_refl _) (pp (pa h3 (Nat.le_refl _)) _)
 refine⟨⟨_,g1,h6.mono g2⟩,?_,h5,d.lt⟩
 have hi:=hb.inv
 refine⟨K*E^S*(1 / ld B).den,pm g1 (Nat.le_of_lt hi.2),fun i => ?_⟩
 have h8:=((h7 i).mul (Db.of_self (1 / ld B))).mono (pm g2 (Nat.le_of_lt hi.1))
 rwa[show cf (quoQ A B) i*ld B*(1 / ld B)=cf (quoQ A B) i by grind] at h8
def Dv (a b:List Rat):Prop:=∃ m,Nf m∧∀ x,evQ b x=evQ m x*evQ a x
theorem Dv.co {g P Q w:List Rat} (h1:Dv g P) (h2:Dv g Q) (u v:List Rat) (hw:∀ x,evQ w x=evQ u x*evQ P x+evQ v x*evQ Q x):Dv g w:=by
 obtain⟨s,ns,hs⟩:=h1
 obtain⟨t,nt,ht⟩:=h2
 exact⟨addQ (mulQ u s) (mulQ v t),nf_add _ _,fun x=>by rw[hw,hs,ht,ev_add,ev_mul,ev_mul];grind⟩
structure IsGcd (P Q g:List Rat):Prop where
 ng:Nf g
 mo:g=[]∨ld g=1
 dp:Dv g P
 dq:Dv g Q
 co:∃ u v,Nf u∧Nf v∧∀ x,evQ g x=evQ u x*evQ P x+evQ v x*evQ Q x
theorem IsGcd.step {A B k r g:List Rat} (hd:DivQ A B k r) (h:IsGcd B r g):IsGcd A B g:=by
 obtain⟨u,v,nu,nv,hc⟩:=h.co
 refine⟨h.ng,h.mo,h.dp.co h.dq k [1] fun x=>by rw[hd.eq,ev_1];grind,h.dp,v,subQ u (mulQ v k),nv,nf_sub _ _,fun x => ?_⟩
 rw[hc,ev_sub,ev_mul,hd.eq];grind
def gS (e r L:Nat):Nat:=1+r+e+(e+r+3)*(2*L)
theorem Ch.sz {P Q A B U0 V0 U1 V1:List Rat} {δ:Rat} (h:Ch P Q A B U0 V0 U1 V1 δ) (nP:Nf P) (hB:B≠[]) {e r L:Nat} (hP:Sz e P) (hQ:Sz e Q) (hL:P.length≤L) (hr:L≤2^r) :
  Sz (gS e r L) (monQ B)∧Sz (gS e r L) (sclQ U1 (1 / ld B))∧Sz (gS e r L) (sclQ V1 (1 / ld B)):=by
 obtain⟨Kp,k1,hP⟩:=hP
 obtain⟨Kq,k2,hQ⟩:=hQ
 have hC:(4*L*2^e+1)^(2*L)≤2^((e+r+3)*(2*L)):=by
  refine pp ?_ _
  have h1:4*L*2^e≤2^(2+r+e):=pm (by rw[Nat.pow_add];exact Nat.mul_le_mul (by omega) hr) (Nat.le_refl _)
  have h2:=pa h1 (Nat.one_le_two_pow (n:=2+r+e))
  rwa[show 2+r+e+1=e+r+3 by omega] at h2
 obtain⟨E,h0,h1,h2,h3,h4⟩:=h.small nP hB hP hQ (Nat.pow_pos (by omega)) hL hC (G:=2^gS e r L) (by
  have h1:2*L≤2^(1+r):=by rw[Nat.pow_add];exact Nat.mul_le_mul (by omega) hr
  refine pu (pm h1 (pm (Nat.le_refl _) (Nat.le_refl _))) ?_
  unfold gS;omega) (pu (pm k1 (Nat.le_refl _)) (by unfold gS;omega)) (pu (pm k2 (Nat.le_refl _)) (by unfold gS;omega))
 exact⟨⟨E,h1,h2⟩,⟨E,h1,h3⟩,⟨E,h1,h4⟩⟩
end Go.Proofs.Ytdjbfgfbpimakaa.M
end

section
namespace Go.Proofs.Ytdjbfgfbpimakaa.M
open Go.RowKit
set_option linter.unusedVariables false
theorem dvi_con {A B:List Rat} (nA:Nf A) (nB:Nf B) (hB0:B≠[]) {k e b n S:Nat} (hA:Sz k A) (hB:Sz e (monQ B)) (hb:Bq b (ld B)) (hS:A.length+1≤S+B.length) (hS1:S≤1000) (hb10:10≤b) (hn:k+(e+1)*S+b<n) (hn2:e+b<n) (hbig:n≤big)
  (h1:A.length≤1000000) (h2:B.length≤1000000) :
  Con Try.prog AN 41 [pI A,pI B] (.tup [pI (quoQ A B),pI (remQ A B),flt 0 0]):=by
 by_cases hlen:B.length≤A.length
 ·obtain⟨S0,hS0⟩:∃ S0,S0=A.length+1-B.length:=⟨_,rfl⟩
  have hB':=hB
  obtain⟨K,g1,g2⟩:=hA
  obtain⟨E,g3,g4⟩:=hB
  have hBl:=List.length_pos_iff.2 hB0
  have h0:=ld_ne nB hB0
  have hm:(e+1)*S0≤(e+1)*S:=Nat.mul_le_mul_left _ (by omega)
  have hD:DivB A B K (2^k) E (2^e) b n S0:=by
   refine⟨g2,g4.pos,fun j => ?_,hb,?_,by omega,?_,?_,hbig⟩
   ·have:=g4 j
    rwa[monQ,cf_scl,show cf B j*(1 / ld B)=cf B j / ld B by grind] at this
   ·rw[←mon_back nB]
    exact (hB'.scl hb).bl hn2
   ·exact p2 (pm (pm g1 (pp (pu g3 (show e≤e+1 by omega)) _)) (Nat.le_refl _)) (by omega)
   ·exact p2 (pm (pm (Nat.le_refl _) (pp (pa g3 (Nat.le_refl _)) _)) (Nat.le_refl _)) (by omega)
  exact div_con A B nB hB0 hD (by omega) h1 h2
 ·obtain⟨e1,e2⟩:=nil_div nA nB (by omega)
  exact divs_con A B nA nB (by omega) h2
structure GI (P Q:List Rat) (e r L:Nat) (A B:List Rat):Prop where
 nA:Nf A
 nB:Nf B
 lA:A.length≤L
 lB:B.length≤L
 sA:Sz (gS e r L) A
 sB:Sz (gS e r L) B
 dB:Bq (e+1) (ld B)
 gc:∀ g,IsGcd A B g→IsGcd P Q g
 ch:(A.length<B.length∧Sz e A∧Sz e B)∨∃ T1 T2,Nf T1∧Nf T2∧Sz e T1∧Sz e T2∧T1.length≤L∧T2.length≤T1.length∧((A=T1∧B=T2)∨∃ U0 V0 U1 V1 δ,Ch T1 T2 A B U0 V0 U1 V1 δ)
theorem gS_le (e r L:Nat):e+1≤gS e r L:=by unfold gS;omega
theorem bq_1 (m:Nat) (h:0<m):Bq m 1:=⟨by simpa using Nat.one_lt_two_pow (by omega),by simpa using Nat.one_lt_two_pow (by omega)⟩
theorem Ch.szm {P Q A B U0 V0 U1 V1:List Rat} {δ:Rat} (h:Ch P Q A B U0 V0 U1 V1 δ) (nP:Nf P) {e r L:Nat} (hP:Sz e P) (hQ:Sz e Q) (hL:P.length≤L) (hr:L≤2^r):Sz (gS e r L) (monQ B):=by
 by_cases h0:B=[]
 ·subst h0;exact Sz.nil _
 ·exact (h.sz nP h0 hP hQ hL hr).1
def xS (e r L:Nat):Nat:=(gS e r L+1)*(4*(L+2))
structure BI (P Q:List Rat) (e r L:Nat) (A B U0 U1:List Rat):Prop where
 nA:Nf A
 nB:Nf B
 n0:Nf U0
 n1:Nf U1
 lA:A.length≤L
 lB:B.length≤L
 sA:Sz (gS e r L) (monQ A)
 sB:Sz (gS e r L) (monQ B)
 dA:Bq ((gS e r L+1)*(4*(L+2-A.length))) (ld A)
 dB:Bq ((gS e r L+1)*(4*(L+2-B.length))) (ld B)
 s0:Sz (gS e r L+xS e r L) U0
 s1:B≠[]→Sz (gS e r L+xS e r L) U1
 l0:U0.length≤1+2*(L+1-A.length)
 l1:U1.length≤1+2*(L+1-A.length)
 gc:∀ g,IsGcd A B g→IsGcd P Q g
 co:∃ V,Nf V∧∀ x,evQ A x=evQ U0 x*evQ P x+evQ V x*evQ Q x
 ne:B≠[]∨A≠[]
 ch:(A=P∧B=Q∧U0=[1]∧U1=[])∨(P.length<Q.length∧A=Q∧B=P∧U0=[]∧U1=[1])∨(∃ V0 V1 δ,Ch P Q A B U0 V0 U1 V1 δ)∨(∃ V0 V1 δ,Ch Q P A B V0 U0 V1 U1 δ)
theorem scl_back {l:List Rat} {c:Rat} (nl:Nf l) (hc:c≠0):sclQ (sclQ l (1 / c)) c=l:=nf_ext (nf_scl _ _) nl fun i=>by rw[cf_scl,cf_scl];grind
theorem sz_one (k:Nat):Sz k [1]:=⟨1,Nat.one_le_two_pow,fun i=>by
 rw[cf_cons]
 cases i with
 | zero=>exact (Db.ofInt 1).mono Nat.one_le_two_pow
 | succ i=>exact Db.zero (by omega) _⟩
theorem dS_le {c L a:Nat}:c*(4*(L+2-a))≤c*(4*(L+2)):=Nat.mul_le_mul_left _ (by omega)
theorem BI.start {P Q:List Rat} (nP:Nf P) (nQ:Nf Q) {e r L:Nat} (hP:Sz e P) (hQ:Sz e Q) (h1:P.length≤L) (h2:Q.length≤L) (hQ0:Q≠[]):BI P Q e r L P Q [1] []:=by
 have hg:=gS_le e r L
 have hd:∀ a,a≤L→e+1≤(gS e r L+1)*(4*(L+2-a)):=fun a ha=>Nat.le_trans (show e+1≤(gS e r L+1)*1 by omega) (Nat.mul_le_mul_left _ (by omega))
 exact⟨nP,nQ,nf_1,nf_nil,h1,h2,(hP.mon nP).mono (by omega),(hQ.mon nQ).mono (by omega),hP.ld.mono (hd _ h1),hQ.ld.mono (hd _ h2),sz_one _,fun _=>Sz.nil _,by simp,by simp,
  fun g h=>h,⟨[],nf_nil,fun x=>by rw[ev_1,evQ_nil];grind⟩,.inl hQ0,.inl ⟨rfl,rfl,rfl,rfl⟩⟩
theorem BI.dR {P Q A B U0 U1:List Rat} {e r L:Nat} (h:BI P Q e r L A B U0 U1) (hB:B≠[]):Bq ((gS e r L+1)*(4*(L+2-(remQ A B).length))) (ld (remQ A B)):=by
 have hlt:=(dvSpec h.nB hB A).lt
 have hlA:=h.lA
 have hlB:=h.lB
 by_cases hlen:A.length<B.length
 ·rw[(nil_div h.nA h.nB hlen).2];exact h.dA
 ·have h1:=(rem_scl (A:=monQ A) h.nB hB (ld A)).2
  rw[mon_back h.nA] at h1
  obtain⟨s1,_⟩:=dv_sz h.nB hB h.sA h.sB h.dB (S:=A.length+1-B.length) (by rw[mon_len_eq h.nA];omega)
  have h2:ld (remQ A B)=cf (remQ (monQ A) B) ((remQ A B).length-1)*ld A:=by
   have:=cf_scl (remQ (monQ A) B) (ld A) ((remQ A B).length-1)
   rw[←h1] at this
   exact this
  rw[h2]
  refine Bq.mono ((s1.bl (Nat.lt_add_one _) _).mul h.dA) ?_
  rw[show gS e r L+(gS e r L+1)*(A.length+1-B.length)+1=(gS e r L+1)*(A.length+2-B.length) by rw[show A.length+2-B.length=(A.length+1-B.length)+1 by omega,Nat.mul_succ];omega,←Nat.mul_add]
  exact Nat.mul_le_mul_left _ (by omega)
theorem sub_nil0 (l:List Rat) (nl:Nf l):subQ l []=l:=nf_ext (nf_sub _ _) nl fun i=>by rw[cf_sub,cf_nil];grind
theorem BI.next {P Q A B U0 U1:List Rat} (nP:Nf P) (nQ:Nf Q) {e r L:Nat} (hP:Sz e P) (hQ:Sz e Q) (hLP:P.length≤L) (hLQ:Q.length≤L) (h:BI P Q e r L A B U0 U1) (hr:L≤2^r) (hB:B≠[]):BI P Q e r L B (remQ A B) U1 (subQ U0 (mulQ (quoQ A B) U1)):=by
 have hg:=gS_le e r L
 have hd:=dvSpec h.nB hB A
 have hlt:=hd.lt
 have hlA:=h.lA
 have hlB:=h.lB
 have hl0:=h.l0
 have hl1:=h.l1
 have hdR:=h.dR hB
 obtain⟨V,nV,hV⟩:=h.co
 have key:(P.length<Q.length∧B=Q∧remQ A B=P∧U1=[]∧subQ U0 (mulQ (quoQ A B) U1)=[1])∨(∃ V0 V1 δ,Ch P Q B (remQ A B) U1 V0 (subQ U0 (mulQ (quoQ A B) U1)) V1 δ)∨(∃ V0 V1 δ,Ch Q P B (remQ A B) V0 U1 V1 (subQ U0 (mulQ (quoQ A B) U1)) δ):=by
  rcases h.ch with⟨e1,e2,e3,e4⟩ | ⟨k,e1,e2,e3,e4⟩ | ⟨V0,V1,δ,c⟩ | ⟨V0,V1,δ,c⟩
  ·rw[e3,e4,mul_nil_r,sub_nil0 _ nf_1]
   rw[e1,e2] at hd ⊢
   rw[e2] at hB
   by_cases hlen:P.length<Q.length
   ·exact .inl ⟨hlen,rfl,(nil_div nP nQ hlen).2,rfl,rfl⟩
   ·exact .inr (.inl ⟨_,_,_,Ch.start nP nQ hB (by omega) hd⟩)
  ·rw[e3,e4]
   rw[e1,e2] at hd ⊢
   rw[e2] at hB
   have e5:mulQ (quoQ Q P) [1]=quoQ Q P:=ev_nf (nf_mul _ _) hd.nq fun x=>by rw[ev_mul,ev_1];grind
   rw[e5]
   exact .inr (.inr ⟨_,_,_,Ch.start nQ nP hB (by omega) hd⟩)
  ·exact .inr (.inl ⟨_,_,_,c.step hB hd⟩)
  ·exact .inr (.inr ⟨_,_,_,c.step hB hd⟩)
 have hR0:remQ A B≠[]→ld (remQ A B)≠0:=ld_ne hd.nr
 have hX:(gS e r L+1)*(4*(L+2-(remQ A B).length))≤xS e r L:=dS_le
 have up:∀ U:List Rat,Nf U→remQ A B≠[]→Sz (gS e r L) (sclQ U (1 / ld (remQ A B)))→Sz (gS e r L+xS e r L) U:=fun U nU h0 hs=>by
  rw[←scl_back nU (hR0 h0)]
  exact (hs.scl hdR).mono (by omega)
 have sR:Sz (gS e r L) (monQ (remQ A B))∧(remQ A B≠[]→Sz (gS e r L+xS e r L) (subQ U0 (mulQ (quoQ A B) U1))):=by
  rcases key with⟨k,e1,e2,e3,e4⟩ | ⟨V0,V1,δ,c⟩ | ⟨V0,V1,δ,c⟩
  ·rw[e2,e4];exact⟨(hP.mon nP).mono (by omega),fun _=>sz_one _⟩
  ·exact⟨c.szm nP hP hQ hLP hr,fun h0=>up _ (nf_sub _ _) h0 (c.sz nP h0 hP hQ hLP hr).2.1⟩
  ·exact⟨c.szm nQ hQ hP hLQ hr,fun h0=>up _ (nf_sub _ _) h0 (c.sz nQ h0 hQ hP hLQ hr).2.2⟩
 have hlen:U1.length≤1+2*(L+1-B.length)∧(subQ U0 (mulQ (quoQ A B) U1)).length≤1+2*(L+1-B.length):=by
  by_cases hl:A.length<B.length
  ·rcases key with⟨k,e1,e2,e3,e4⟩ | ⟨V0,V1,δ,c⟩ | ⟨V0,V1,δ,c⟩
   ·rw[e4,e3];simp
   ·rcases h.ch with⟨e1,e2,e3,e4⟩ | ⟨k,e1,e2,e3,e4⟩ | ⟨_,_,_,c2⟩ | ⟨_,_,_,c2⟩
    ·rw[e3,e4,mul_nil_r,sub_nil0 _ nf_1];simp
    ·rw[e1,e2] at hl;omega
    ·have:=c2.lt;omega
    ·have:=c2.lt;omega
   ·rcases h.ch with⟨e1,e2,e3,e4⟩ | ⟨k,e1,e2,e3,e4⟩ | ⟨_,_,_,c2⟩ | ⟨_,_,_,c2⟩
    ·rw[e3,e4,mul_nil_r,sub_nil0 _ nf_1];simp
    ·rw[e1,e2] at hl;omega
    ·have:=c2.lt;omega
    ·have:=c2.lt;omega
  ·have h2:=sub_len U0 (mulQ (quoQ A B) U1)
   have h3:=mul_len_le (quoQ A B) U1
   have h4:=quo_len hd h.nA h.nB (by omega) hB
   exact⟨by omega,by omega⟩
 refine⟨h.nB,hd.nr,h.n1,nf_sub _ _,hlB,by omega,h.sB,sR.1,h.dB,hdR,h.s1 hB,sR.2,hlen.1,hlen.2,fun g hg=>h.gc g (hg.step hd),?_,.inr hB,?_⟩
 ·rcases key with⟨k,e1,e2,e3,e4⟩ | ⟨V0,V1,δ,c⟩ | ⟨V0,V1,δ,c⟩
  ·rw[e1,e3];exact⟨[1],nf_1,fun x=>by rw[evQ_nil,ev_1];grind⟩
  ·exact⟨V0,c.nV0,c.a⟩
  ·exact⟨V0,c.nU0,fun x=>by rw[c.a];grind⟩
 ·rcases key with k | k | k
  ·exact .inr (.inl k)
  ·exact .inr (.inr (.inl k))
  ·exact .inr (.inr (.inr k))
end Go.Proofs.Ytdjbfgfbpimakaa.M
end

section
namespace Go.Proofs.Ytdjbfgfbpimakaa.M
set_option linter.unusedVariables false
end Go.Proofs.Ytdjbfgfbpimakaa.M
end

section
namespace Go.Proofs.Ytdjbfgfbpimakaa.M
set_option linter.unusedVariables false
theorem der_cf (a:List Rat) (i:Nat):cf (derQ a) i=cf a (i+1)*((i+1:Nat):Rat):=by
 unfold derQ
 rw[cf_trim,cf_tab]
 split
 ·rfl
 ·rw[cf_ge (by omega)];grind
theorem der_nf (a:List Rat):Nf (derQ a):=nf_trim _
theorem der_lt {a:List Rat} (h:a≠[]):(derQ a).length<a.length:=by
 have:=List.length_pos_iff.2 h
 unfold derQ
 have:=trim_len (tab (a.length-1) fun i=>cf a (i+1)*((i+1:Nat):Rat))
 rw[tab_len] at this
 omega
def Cop (a b:List Rat):Prop:=∃ s t,∀ x,evQ s x*evQ a x+evQ t x*evQ b x=1
structure Yr (r b c a:List Rat):Prop where
 nr:Nf r
 nb:Nf b
 nc:Nf c
 na:Nf a
 ra:∀ x,evQ r x=evQ b x*evQ a x
 rd:∀ x,evQ (derQ r) x=evQ c x*evQ a x
 co:Cop b c
 am:ld a=1
 a0:a≠[]
 r0:r≠[]
theorem Yr.b0 {r b c a:List Rat} (h:Yr r b c a):b≠[]:=fun e=>h.r0 (ev_0 h.nr fun x=>by rw[h.ra,e,evQ_nil];grind)
end Go.Proofs.Ytdjbfgfbpimakaa.M
end

section
namespace Go.Proofs.Ytdjbfgfbpimakaa.M
set_option linter.unusedVariables false
theorem sumQ_comm (n:Nat) (f:Nat→Nat→Rat):∀ m,sumQ n (fun a=>sumQ m fun b=>f a b)=sumQ m fun b=>sumQ n fun a=>f a b
 | 0=>sumQ_0 fun i _=>rfl
 | m+1=>by
  show sumQ n (fun a=>sumQ m (fun b=>f a b)+f a m)=sumQ m (fun b=>sumQ n fun a=>f a b)+sumQ n fun a=>f a m
  rw[sumQ_add,sumQ_comm n f m]
def sk (j k:Nat):Nat:=if k<j then k else k+1
def sg (j:Nat):Rat:=if j % 2=1 then -1 else 1
theorem sg_succ (j:Nat):sg (j+1) = -sg j:=by
 unfold sg
 rcases (show j % 2=0∨j % 2=1 by omega) with h | h
 ·rw[if_pos (by omega),if_neg (by omega)]
 ·rw[if_neg (by omega),if_pos h];decide
theorem sg_add (a:Nat):∀ b,sg (a+b)=sg a*sg b
 | 0=>by rw[show sg 0=1 from rfl,Nat.add_zero];grind
 | b+1=>by rw[←Nat.add_assoc,sg_succ,sg_succ,sg_add a b];grind
theorem sg_sq (a:Nat):sg a*sg a=1:=by unfold sg;split<;>grind
theorem sumQ_sk {g:Nat→Rat} {j:Nat} (h0:g j=0):∀ n,j<n+1→sumQ n (fun k=>g (sk j k))=sumQ (n+1) g
 | 0,h=>by
  obtain rfl:j=0:=by omega
  simp only[sumQ,h0];grind
 | n+1,h=>by
  by_cases e:j=n+1
  ·subst e
   show _=sumQ (n+1) g+g (n+1)
   rw[h0,sumQ_ext (g:=g) fun i hi=>by rw[sk,if_pos hi]];grind
  ·have ih:=sumQ_sk h0 n (by omega)
   show sumQ n (fun k=>g (sk j k))+g (sk j n)=sumQ (n+1) g+g (n+1)
   rw[ih,show sk j n=n+1 by unfold sk;rw[if_neg (by omega)]]
def minor (M:Nat→Nat→Rat) (j:Nat):Nat→Nat→Rat:=fun i k=>M (i+1) (sk j k)
def dt:Nat→(Nat→Nat→Rat)→Rat
 | 0,_=>1
 | n+1,M=>sumQ (n+1) fun j=>sg j*M 0 j*dt n (minor M j)
theorem dt_congr:∀ (n:Nat) {M N:Nat→Nat→Rat},(∀ i c,i<n→c<n→M i c=N i c)→dt n M=dt n N
 | 0,_,_,_=>rfl
 | n+1,M,N,h=>sumQ_ext fun j hj=>by
  rw[h 0 j (by omega) hj,dt_congr n (M:=minor M j) (N:=minor N j) fun i c hi hc=>h (i+1) (sk j c) (by omega) (by unfold sk;split<;>omega)]
def up (M:Nat→Nat→Rat) (i:Nat) (r:Nat→Rat):Nat→Nat→Rat:=fun k c=>if k=i then r c else M k c
theorem up_self (M:Nat→Nat→Rat) (i:Nat):up M i (M i)=M:=by
 funext k c;unfold up;split
 ·rename_i h;rw[h]
 ·rfl
theorem up_at (M:Nat→Nat→Rat) (i:Nat) (r:Nat→Rat):up M i r i=r:=by funext c;unfold up;rw[if_pos rfl]
theorem up_ne (M:Nat→Nat→Rat) {i k:Nat} (r:Nat→Rat) (h:k≠i):up M i r k=M k:=by funext c;unfold up;rw[if_neg h]
theorem minor_up0 (M:Nat→Nat→Rat) (r:Nat→Rat) (j:Nat):minor (up M 0 r) j=minor M j:=by funext i c;unfold minor;rw[up_ne _ _ (by omega)]
theorem minor_up (M:Nat→Nat→Rat) (i:Nat) (r:Nat→Rat) (j:Nat):minor (up M (i+1) r) j=up (minor M j) i fun c=>r (sk j c):=by
 funext k c;unfold minor up
 by_cases h:k=i
 ·rw[if_pos (by omega),if_pos h]
 ·rw[if_neg (by omega),if_neg h]
def sw (M:Nat→Nat→Rat) (i:Nat):Nat→Nat→Rat:=fun k=>if k=i then M (i+1) else if k=i+1 then M i else M k
theorem minor_sw (M:Nat→Nat→Rat) (i j:Nat):minor (sw M (i+1)) j=sw (minor M j) i:=by
 funext k c;unfold minor sw
 by_cases h:k=i
 ·rw[if_pos (by omega),if_pos h]
 ·rw[if_neg (by omega),if_neg h]
  by_cases h:k=i+1
  ·rw[if_pos (by omega),if_pos h]
  ·rw[if_neg (by omega),if_neg h]
structure Alt (n:Nat) (f:(Nat→Nat→Rat)→Rat):Prop where
 congr:∀ {M N:Nat→Nat→Rat},(∀ i c,i<n→c<n→M i c=N i c)→f M=f N
 lin:∀ (M:Nat→Nat→Rat) (i:Nat),i<n→∀ (a:Rat) (r s:Nat→Rat),f (up M i fun c=>a*r c+s c)=a*f (up M i r)+f (up M i s)
 swp:∀ (M:Nat→Nat→Rat) (i:Nat),i+1<n→f (sw M i) = -f M
theorem dt_lin:∀ (n:Nat) (M:Nat→Nat→Rat) (i:Nat),i<n→∀ (a:Rat) (r s:Nat→Rat),dt n (up M i fun c=>a*r c+s c)=a*dt n (up M i r)+dt n (up M i s)
 | 0,_,_,h,_,_,_=>by omega
 | n+1,M,0,_,a,r,s=>by
  simp only[dt,minor_up0,up_at]
  rw[←Rat.mul_comm _ a,←sumQ_mul,←sumQ_add]
  exact sumQ_ext fun j _=>by grind
 | n+1,M,i+1,h,a,r,s=>by
  simp only[dt,minor_up,up_ne M _ (show (0:Nat)≠i+1 by omega)]
  rw[←Rat.mul_comm _ a,←sumQ_mul,←sumQ_add]
  exact sumQ_ext fun j _=>by rw[dt_lin n (minor M j) i (by omega) a (fun c=>r (sk j c)) fun c=>s (sk j c)];grind
def sk2 (a b c:Nat):Nat:=if a<b then sk a (sk (b-1) c) else sk a (sk b c)
theorem sk2_comm {a b:Nat} (h:a≠b) (c:Nat):sk2 a b c=sk2 b a c:=by
 have key:∀ {a b:Nat},a<b→sk a (sk (b-1) c)=sk b (sk a c):=fun {a b} h=>by
  rcases (show c<a∨a≤c∧c<b-1∨b-1≤c by omega) with h1 | h1 | h1
  ·rw[show sk (b-1) c=c by unfold sk;rw[if_pos (by omega)],show sk a c=c by unfold sk;rw[if_pos h1],show sk b c=c by unfold sk;rw[if_pos (by omega)]]
  ·rw[show sk (b-1) c=c by unfold sk;rw[if_pos (by omega)],show sk a c=c+1 by unfold sk;rw[if_neg (by omega)],show sk b (c+1)=c+1 by unfold sk;rw[if_pos (by omega)]]
  ·rw[show sk (b-1) c=c+1 by unfold sk;rw[if_neg (by omega)],show sk a c=c+1 by unfold sk;rw[if_neg (by omega)],show sk a (c+1)=c+2 by unfold sk;rw[if_neg (by omega)],show sk b (c+1)=c+2 by unfold sk;rw[if_neg (by omega)]]
 unfold sk2
 rcases Nat.lt_or_ge a b with h1 | h1
 ·rw[if_pos h1,if_neg (by omega)];exact key h1
 ·rw[if_neg (by omega),if_pos (by omega)];exact (key (by omega)).symm
def tT (M:Nat→Nat→Rat) (n a b:Nat):Rat:=if a=b then 0 else (if b<a then sg a*sg b else -(sg a*sg b))*(M 0 a*M 1 b)*dt n fun i c=>M (i+2) (sk2 a b c)
theorem dt_two (n:Nat) (M:Nat→Nat→Rat):dt (n+2) M=sumQ (n+2) fun a=>sumQ (n+2) fun b=>tT M n a b:=by
 rw[dt]
 refine sumQ_ext fun a ha => ?_
 rw[←sumQ_sk (g:=fun b=>tT M n a b) (j:=a) (by simp[tT]) (n+1) (by omega),dt,Rat.mul_comm,←sumQ_mul]
 refine sumQ_ext fun k hk => ?_
 have e:minor (minor M a) k=fun i c=>M (i+2) (sk2 a (sk a k) c):=by
  funext i c
  show M (i+2) (sk a (sk k c))=_
  unfold sk2
  by_cases h:k<a
  ·rw[show sk a k=k by unfold sk;rw[if_pos h],if_neg (by omega)]
  ·rw[show sk a k=k+1 by unfold sk;rw[if_neg h],if_pos (by omega)];rfl
 rw[e]
 show sg k*M 1 (sk a k)*_*_=_
 unfold tT
 by_cases h:k<a
 ·rw[show sk a k=k by unfold sk;rw[if_pos h],if_neg (by omega),if_pos h];grind
 ·rw[show sk a k=k+1 by unfold sk;rw[if_neg h],if_neg (by omega),if_neg (by omega),sg_succ];grind
theorem dt_sw:∀ (i n:Nat) (M:Nat→Nat→Rat),i+1<n→dt n (sw M i) = -dt n M
 | 0,0,_,h=>by omega
 | 0,1,_,h=>by omega
 | 0,n+2,M,_=>by
  rw[dt_two,dt_two,sumQ_comm,show -(sumQ (n+2) fun a=>sumQ (n+2) fun b=>tT M n a b)=(sumQ (n+2) fun a=>sumQ (n+2) fun b=>tT M n a b)*(-1) by grind,←sumQ_mul]
  refine sumQ_ext fun a _ => ?_
  rw[←sumQ_mul]
  refine sumQ_ext fun b _ => ?_
  unfold tT
  by_cases h:a=b
  ·rw[if_pos h,if_pos h.symm];grind
  ·rw[if_neg h,if_neg fun e=>h e.symm]
   have e:(fun i c=>sw M 0 (i+2) (sk2 b a c))=fun i c=>M (i+2) (sk2 a b c):=by
    funext i c;rw[sk2_comm h];rfl
   rw[e,show sw M 0 0=M 1 from rfl,show sw M 0 1=M 0 from rfl]
   rcases Nat.lt_or_ge a b with h1 | h1
   ·rw[if_pos h1,if_neg (by omega)];grind
   ·rw[if_neg (by omega),if_pos (by omega)];grind
 | i+1,0,_,h=>by omega
 | i+1,n+1,M,h=>by
  simp only[dt,minor_sw]
  rw[show -(sumQ (n+1) fun j=>sg j*M 0 j*dt n (minor M j))=(sumQ (n+1) fun j=>sg j*M 0 j*dt n (minor M j))*(-1) by grind,←sumQ_mul]
  refine sumQ_ext fun j _ => ?_
  rw[dt_sw i n _ (by omega),show sw M (i+1) 0=M 0 from rfl];grind
theorem dt_alt (n:Nat):Alt n (dt n):=⟨dt_congr n,dt_lin n,fun M i h=>dt_sw i n M h⟩
section
variable {n:Nat} {f:(Nat→Nat→Rat)→Rat} (h:Alt n f)
include h
theorem Alt.zero (M:Nat→Nat→Rat) {i:Nat} (hi:i<n):f (up M i fun _=>0)=0:=by
 have:=h.lin M i hi (-1) (fun _=>0) fun _=>0
 rw[show (fun c:Nat=>(-1:Rat)*0+0)=fun _=>0 by funext;grind] at this
 grind
theorem Alt.near:∀ (d i:Nat) (M:Nat→Nat→Rat),i+d+1<n→M i=M (i+d+1)→f M=0
 | 0,i,M,hi,e=>by
  have h1:=h.swp M i hi
  have:sw M i=M:=by
   funext k;unfold sw;split
   ·rename_i hk;rw[hk,e]
   ·split
    ·rename_i hk;rw[hk,e]
    ·rfl
  rw[this] at h1;grind
 | d+1,i,M,hi,e=>by
  have h1:=h.swp M (i+d+1) (by omega)
  have h2:=Alt.near d i (sw M (i+d+1)) (by omega) (by unfold sw;rw[if_neg (by omega),if_neg (by omega),if_pos rfl];exact e)
  grind
theorem Alt.same {M:Nat→Nat→Rat} {i j:Nat} (hi:i<n) (hj:j<n) (hij:i≠j) (e:M i=M j):f M=0:=by
 rcases Nat.lt_or_ge i j with hlt | hge
 ·exact h.near (j-i-1) i M (by omega) (by rw[show i+(j-i-1)+1=j by omega];exact e)
 ·exact h.near (i-j-1) j M (by omega) (by rw[show j+(i-j-1)+1=i by omega];exact e.symm)
theorem Alt.plus {M:Nat→Nat→Rat} {i j:Nat} (hi:i<n) (hj:j<n) (hij:i≠j) (a:Rat) (r:Nat→Rat):f (up M i fun c=>a*M j c+r c)=f (up M i r):=by
 rw[h.lin M i hi,h.same hi hj hij (M:=up M i (M j)) (by rw[up_at,up_ne _ _ fun e=>hij e.symm])];grind
theorem Alt.sum {M:Nat→Nat→Rat} {i:Nat} (hi:i<n) (k:Nat→Rat) (J:Nat→Nat) (r:Nat→Rat):∀ T,(∀ t,t<T→J t<n∧J t≠i)→f (up M i fun c=>sumQ T (fun t=>k t*M (J t) c)+r c)=f (up M i r)
 | 0,_=>by rw[show (fun c=>sumQ 0 (fun t=>k t*M (J t) c)+r c)=r by funext c;simp only[sumQ];grind]
 | T+1,hT=>by
  have e:(fun c=>sumQ (T+1) (fun t=>k t*M (J t) c)+r c)=fun c=>k T*M (J T) c+(sumQ T (fun t=>k t*M (J t) c)+r c):=by funext c;simp only[sumQ];grind
  rw[e,h.plus hi (hT T (by omega)).1 (fun e=>(hT T (by omega)).2 e.symm),Alt.sum hi k J r T fun t ht=>hT t (by omega)]
end
def mv (M:Nat→Nat→Rat) (p d:Nat):Nat→Nat→Rat:=fun k=>if k<p then M k else if k=p then M (p+d) else if k≤p+d then M (k-1) else M k
theorem mv_0 (M:Nat→Nat→Rat) (p:Nat):mv M p 0=M:=by
 funext k;unfold mv;split
 ·rfl
 ·split
  ·rename_i h;rw[h,Nat.add_zero]
  ·rw[if_neg (by omega)]
theorem mv_succ (M:Nat→Nat→Rat) (p d:Nat):mv M p (d+1)=mv (sw M (p+d)) p d:=by
 funext k;unfold mv sw
 by_cases h1:k<p
 ·rw[if_pos h1,if_pos h1,if_neg (by omega),if_neg (by omega)]
 ·rw[if_neg h1,if_neg h1]
  by_cases h2:k=p
  ·rw[if_pos h2,if_pos h2,if_pos rfl,Nat.add_assoc]
  ·rw[if_neg h2,if_neg h2]
   by_cases h3:k≤p+d
   ·rw[if_pos (by omega),if_pos h3,if_neg (by omega),if_neg (by omega)]
   ·rw[if_neg h3]
    by_cases h4:k=p+d+1
    ·rw[if_pos (by omega),if_neg (by omega),if_pos (by omega),show k-1=p+d by omega]
    ·rw[if_neg (by omega),if_neg (by omega),if_neg (by omega)]
theorem Alt.mvd {n:Nat} {f:(Nat→Nat→Rat)→Rat} (h:Alt n f) (p:Nat):∀ (d:Nat) (M:Nat→Nat→Rat),p+d<n→f (mv M p d)=sg d*f M
 | 0,M,_=>by rw[mv_0,show sg 0=1 from rfl];grind
 | d+1,M,hd=>by rw[mv_succ,Alt.mvd h p d _ (by omega),h.swp _ _ (by omega),sg_succ];grind
def bs (M:Nat→Nat→Rat) (n m:Nat):Nat→Nat→Rat:=fun k=>if k<m then M (n+k) else if k<m+n then M (k-m) else M k
theorem bs_0 (M:Nat→Nat→Rat) (n:Nat):bs M n 0=M:=by
 funext k;unfold bs;rw[if_neg (by omega)];split<;>rfl
theorem bs_succ (M:Nat→Nat→Rat) (n m:Nat):bs M n (m+1)=mv (bs M n m) m n:=by
 funext k;unfold bs mv;dsimp only
 by_cases h1:k<m
 ·rw[if_pos (by omega),if_pos h1,if_pos h1]
 ·rw[if_neg h1]
  by_cases h2:k=m
  ·rw[if_pos (by omega),if_pos h2,if_neg (by omega),if_neg (by omega),h2,Nat.add_comm]
  ·rw[if_neg (by omega),if_neg h2]
   by_cases h3:k≤m+n
   ·rw[if_pos (by omega),if_pos h3,if_neg (by omega),if_pos (by omega),show k-1-m=k-(m+1) by omega]
   ·rw[if_neg (by omega),if_neg h3,if_neg (by omega),if_neg (by omega)]
theorem Alt.bsd {N:Nat} {f:(Nat→Nat→Rat)→Rat} (h:Alt N f) (M:Nat→Nat→Rat) (n:Nat):∀ m,n+m≤N→f (bs M n m)=sg (n*m)*f M
 | 0,_=>by rw[bs_0,Nat.mul_zero,show sg 0=1 from rfl];grind
 | m+1,hm=>by rw[bs_succ,h.mvd _ _ _ (by omega),Alt.bsd h M n m (by omega),Nat.mul_succ,sg_add];grind
theorem dt_col:∀ (n:Nat) (M:Nat→Nat→Rat) (c:Nat),c<n→(∀ i,i<n→M i c=0)→dt n M=0
 | 0,_,_,h,_=>by omega
 | n+1,M,c,hc,h=>sumQ_0 fun j hj=>by
  by_cases e:j=c
  ·rw[e,h 0 (by omega)];grind
  ·obtain⟨c',h1,h2⟩:∃ c',c'<n∧sk j c'=c:=by
    by_cases hl:c<j
    ·exact⟨c,by omega,by unfold sk;rw[if_pos hl]⟩
    ·exact⟨c-1,by omega,by unfold sk;rw[if_neg (by omega)];omega⟩
   rw[dt_col n (minor M j) c' h1 fun i hi=>by show M (i+1) (sk j c')=0;rw[h2];exact h (i+1) (by omega)];grind
theorem dt_peel (n:Nat) (M:Nat→Nat→Rat) (h:∀ i,i<n→M (i+1) 0=0):dt (n+1) M=M 0 0*dt n fun i c=>M (i+1) (c+1):=by
 rw[dt,sumQ_one (k:=0) (by omega) fun j hj hne => ?_]
 ·rw[show minor M 0=fun i c=>M (i+1) (c+1) from by funext i c;unfold minor sk;rw[if_neg (by omega)],show sg 0=1 from rfl];grind
 ·rw[dt_col n (minor M j) 0 (by omega) fun i hi=>by show M (i+1) (sk j 0)=0;rw[show sk j 0=0 by unfold sk;rw[if_pos (by omega)]];exact h i hi];grind
end Go.Proofs.Ytdjbfgfbpimakaa.M
end

section
namespace Go.Proofs.Ytdjbfgfbpimakaa.M
set_option linter.unusedVariables false
end Go.Proofs.Ytdjbfgfbpimakaa.M
end

section
namespace Go.Proofs.Ytdjbfgfbpimakaa.M
open Go.RowKit
set_option linter.unusedVariables false
structure S12 (e n:Nat):Prop where
 e10:10≤e
 nn:40000*(e+8)<n
 big:n≤big
end Go.Proofs.Ytdjbfgfbpimakaa.M
end

section
namespace Go.Proofs.Ytdjbfgfbpimakaa.M
set_option linter.unusedVariables false
def xs (t:Nat) (l:List Rat):List Rat:=List.replicate t 0++l
theorem xs_len (t:Nat) (l:List Rat):(xs t l).length=t+l.length:=by simp[xs]
theorem ev_xs (x:Rat) (l:List Rat):∀ t,evQ (xs t l) x=x^t*evQ l x
 | 0=>by simp only[xs,List.replicate_zero,List.nil_append];grind
 | t+1=>by
  have h:=ev_xs x l t
  show (0:Rat)+x*evQ (xs t l) x=_
  rw[h];grind
theorem cf_xs (l:List Rat):∀ t u,cf (xs t l) u=if u<t then 0 else cf l (u-t)
 | 0,u=>by rw[if_neg (by omega)];rfl
 | t+1,0=>by rw[if_pos (by omega)];rfl
 | t+1,u+1=>by
  have h:=cf_xs l t u
  show cf (xs t l) u=_
  rw[h]
  by_cases e:u<t
  ·rw[if_pos e,if_pos (by omega)]
  ·rw[if_neg e,if_neg (by omega),show u+1-(t+1)=u-t by omega]
def rwP (N:Nat) (P:List Rat):Nat→Rat:=fun c=>if c<N then cf P (N-1-c) else 0
def mtx (N n m:Nat) (P:Nat→List Rat) (q:List Rat):Nat→Nat→Rat:=fun i=>if i<n then rwP N (P i) else rwP N (xs (m-1-(i-n)) q)
def bmx (N m:Nat) (q:List Rat) (R:Nat→List Rat):Nat→Nat→Rat:=fun i=>if i<m then rwP N (xs (m-1-i) q) else rwP N (R (i-m))
theorem mtx_red {N n m:Nat} (hN:N=m+n) {P R k:Nat→List Rat} {q:List Rat} (h:∀ i,i<n→∀ u,cf (P i) u=cnv (k i) q u+cf (R i) u) (hk:∀ i,i<n→(k i).length≤m) :
  dt N (mtx N n m P q)=dt N (mtx N n m R q):=by
 have step:∀ T,T<n→dt N (mtx N n m (fun i=>if i<T then R i else P i) q)=dt N (mtx N n m (fun i=>if i<T+1 then R i else P i) q):=fun T hT=>by
  obtain⟨Y,hY⟩:∃ Y,Y=mtx N n m (fun i=>if i<T+1 then R i else P i) q:=⟨_,rfl⟩
  have hYT:Y T=rwP N (R T):=by rw[hY];unfold mtx;rw[if_pos hT];dsimp only;rw[if_pos (by omega)]
  have hYq:∀ t,t<m→Y (n+(m-1-t))=rwP N (xs t q):=fun t ht=>by
   rw[hY];unfold mtx;rw[if_neg (by omega),show m-1-(n+(m-1-t)-n)=t by omega]
  have hs:=(dt_alt N).sum (M:=Y) (i:=T) (by omega) (fun t=>cf (k T) t) (fun t=>n+(m-1-t)) (Y T) (k T).length fun t ht=>by
   have:=hk T hT
   exact⟨by omega,by omega⟩
  rw[up_self] at hs
  rw[←hY,←hs]
  refine dt_congr N fun i c hi hc => ?_
  unfold up
  by_cases e:i=T
  ·rw[if_pos e,e]
   have e1:mtx N n m (fun i=>if i<T then R i else P i) q T c=cf (P T) (N-1-c):=by
    unfold mtx;rw[if_pos hT];dsimp only;rw[if_neg (by omega)];unfold rwP;rw[if_pos hc]
   rw[e1,h T hT,cnv_sum (k T) q (N-1-c) (Nat.le_refl _),hYT]
   dsimp only
   rw[show rwP N (R T) c=cf (R T) (N-1-c) by unfold rwP;rw[if_pos hc]]
   congr 1
   refine sumQ_ext fun t ht => ?_
   rw[hYq t (by have:=hk T hT;omega),rwP,if_pos hc,cf_xs]
   by_cases e2:t≤N-1-c
   ·rw[if_pos e2,if_neg (by omega)]
   ·rw[if_neg e2,if_pos (by omega)];grind
  ·rw[if_neg e,hY]
   unfold mtx
   by_cases h1:i<n
   ·rw[if_pos h1,if_pos h1];dsimp only
    by_cases h2:i<T
    ·rw[if_pos h2,if_pos (by omega)]
    ·rw[if_neg h2,if_neg (by omega)]
   ·rw[if_neg h1,if_neg h1]
 have all:∀ T,T≤n→dt N (mtx N n m (fun i=>if i<T then R i else P i) q)=dt N (mtx N n m P q):=fun T=>by
  induction T with
  | zero=>intro _;congr 1
  | succ T ih=>intro hT;rw[←step T (by omega),ih (by omega)]
 rw[←all n (Nat.le_refl _)]
 refine dt_congr N fun i c hi hc => ?_
 unfold mtx
 by_cases h1:i<n
 ·rw[if_pos h1,if_pos h1];dsimp only;rw[if_pos h1]
 ·rw[if_neg h1,if_neg h1]
theorem mtx_bmx {N n m:Nat} (hN:N=m+n) (R:Nat→List Rat) (q:List Rat):dt N (mtx N n m R q)=sg (n*m)*dt N (bmx N m q R):=by
 have h:=(dt_alt N).bsd (mtx N n m R q) n m (by omega)
 have e:dt N (bs (mtx N n m R q) n m)=dt N (bmx N m q R):=dt_congr N fun i c hi hc=>by
  unfold bs bmx
  by_cases h1:i<m
  ·rw[if_pos h1,if_pos h1];unfold mtx;rw[if_neg (by omega),show n+i-n=i by omega]
  ·rw[if_neg h1,if_neg h1,if_pos (by omega)];unfold mtx;rw[if_pos (by omega)]
 rw[e] at h
 rw[h]
 have:=sg_sq (n*m)
 grind
theorem bmx_peel {n d:Nat} {q:List Rat} {R:Nat→List Rat} (hq:∀ u,n<u→cf q u=0) (hR:∀ i u,i<n→n+d≤u→cf (R i) u=0) :
  ∀ s,dt (d+s+n) (bmx (d+s+n) (d+s) q R)=cf q n^s*dt (d+n) (bmx (d+n) d q R)
 | 0=>by rw[Nat.add_zero];grind
 | s+1=>by
  have ih:=bmx_peel hq hR s
  rw[show d+(s+1)+n=(d+s+n)+1 by omega,dt_peel]
  ·have e0:bmx (d+s+n+1) (d+(s+1)) q R 0 0=cf q n:=by
    unfold bmx rwP;rw[if_pos (by omega),if_pos (by omega),cf_xs,if_neg (by omega)]
    congr 1;omega
   have e1:dt (d+s+n) (fun i c=>bmx (d+s+n+1) (d+(s+1)) q R (i+1) (c+1))=dt (d+s+n) (bmx (d+s+n) (d+s) q R):=dt_congr _ fun i c hi hc=>by
    unfold bmx rwP
    by_cases h1:i<d+s
    ·rw[if_pos (by omega),if_pos h1,if_pos (by omega),if_pos hc,show d+(s+1)-1-(i+1)=d+s-1-i by omega,show d+s+n+1-1-(c+1)=d+s+n-1-c by omega]
    ·rw[if_neg (by omega),if_neg h1,if_pos (by omega),if_pos hc,show i+1-(d+(s+1))=i-(d+s) by omega,show d+s+n+1-1-(c+1)=d+s+n-1-c by omega]
   rw[e0,e1,ih];grind
  ·intro i hi
   unfold bmx rwP
   by_cases h1:i+1<d+(s+1)
   ·rw[if_pos h1,if_pos (by omega),cf_xs,if_neg (by omega)];exact hq _ (by omega)
   ·rw[if_neg h1,if_pos (by omega)];exact hR _ _ (by omega) (by omega)
def sy (p q:List Rat) (m n:Nat):Nat→Nat→Rat:=mtx (m+n) n m (fun i=>xs (n-1-i) p) q
def syl (p q:List Rat) (m n:Nat):Rat:=dt (m+n) (sy p q m n)
theorem bmx_sy {q r:List Rat} {n d:Nat}:dt (d+n) (bmx (d+n) d q fun i=>xs (n-1-i) r)=syl q r n d:=by
 unfold syl sy
 rw[Nat.add_comm n d]
 rfl
theorem k_len {p d q r:List Rat} (h:DivQ p d q r) (nd:Nf d) (hd:d≠[]) {N:Nat} (hp:p.length≤N) (hN:d.length≤N+1):q.length+d.length≤N+1:=by
 by_cases hq:q=[]
 ·rw[hq];simpa using hN
 ·have h1:=mul_len h.nq nd hq hd
  have h2:=List.length_pos_iff.2 hq
  have e2:mulQ q d=subQ p r:=ev_nf (nf_mul _ _) (nf_sub _ _) fun x=>by rw[ev_sub,ev_mul,h.eq];grind
  have h3:=sub_len p r
  have h4:=h.lt
  rw[←e2] at h3
  omega
theorem div_xs {p d q r:List Rat} (h:DivQ p d q r) (s u:Nat):cf (xs s p) u=cnv (xs s q) d u+cf (xs s r) u:=by
 rw[←cf_mul,←cf_add]
 exact ev_ext (fun x=>by rw[ev_add,ev_mul,ev_xs,ev_xs,ev_xs,h.eq];grind) u
theorem syl_swap (p q:List Rat) (m n:Nat):syl p q m n=sg (n*m)*syl q p n m:=by
 rw[←bmx_sy (q:=q) (r:=p) (n:=n) (d:=m)]
 exact mtx_bmx rfl _ _
theorem syl_step {p q k r:List Rat} (h:DivQ p q k r) (nq:Nf q) {m n d s:Nat} (hp:p.length≤m+1) (hq:q.length=n+1) (hnm:n≤m) (hr:r.length≤d+1) (hm:m=d+s) :
  syl p q m n=sg (n*m)*(cf q n^s*syl q r n d):=by
 have q0:q≠[]:=fun e=>by rw[e] at hq;simp at hq
 have hk:=k_len h nq q0 hp (by omega)
 have h1:=mtx_red (N:=m+n) (n:=n) (m:=m) rfl (P:=fun i=>xs (n-1-i) p) (R:=fun i=>xs (n-1-i) r) (k:=fun i=>xs (n-1-i) k) (q:=q) (fun i _ u=>div_xs h _ u) fun i hi=>by rw[xs_len];omega
 have h2:=mtx_bmx (N:=m+n) (n:=n) (m:=m) rfl (fun i=>xs (n-1-i) r) q
 have h3:=bmx_peel (n:=n) (d:=d) (q:=q) (R:=fun i=>xs (n-1-i) r) (fun u hu=>cf_ge (by omega)) (fun i u hi hu=>by rw[cf_xs,if_neg (by omega)];exact cf_ge (by omega)) s
 rw[←hm,bmx_sy (q:=q) (r:=r) (n:=n) (d:=d)] at h3
 unfold syl sy at *
 rw[h1,h2,h3]
theorem syl_nil (q:List Rat) {m n:Nat} (hn:0<n):syl [] q m n=0:=by
 have h:=(dt_alt (m+n)).zero (sy [] q m n) (i:=0) (by omega)
 have e:(fun _=>(0:Rat))=sy [] q m n 0:=by
  funext c;unfold sy mtx;rw[if_pos hn];unfold rwP
  split
  ·rw[cf_xs];split<;>rfl
  ·rfl
 rw[e,up_self] at h
 exact h
theorem syl_const (p:List Rat) {q:List Rat} (hq:q.length≤1) (m:Nat):syl p q m 0=cf q 0^m:=by
 have h2:=mtx_bmx (N:=m+0) (n:=0) (m:=m) rfl (fun i=>xs (0-1-i) p) q
 have h3:=bmx_peel (n:=0) (d:=0) (q:=q) (R:=fun i=>xs (0-1-i) p) (fun u hu=>cf_ge (by omega)) (fun i u hi hu=>by omega) m
 rw[Nat.zero_add] at h3
 unfold syl sy
 rw[h2,h3,Nat.zero_mul,show sg 0=1 from rfl,show dt (0+0) _=1 from rfl]
 grind
noncomputable def mm (p q:List Rat) (n:Nat):Nat→Nat→Rat:=fun i=>rwP n (remQ (xs (n-1-i) p) q)
def resQ (p q:List Rat):Rat:=if p=[]∨q=[] then 0 else syl p q (p.length-1) (q.length-1)
theorem res_swap {p q:List Rat} (hp:p≠[]) (hq:q≠[]):resQ p q=sg ((p.length-1)*(q.length-1))*resQ q p:=by
 unfold resQ
 rw[if_neg (by simp[hp,hq]),if_neg (by simp[hp,hq]),syl_swap,Nat.mul_comm]
theorem res_const {p q:List Rat} (hp:p≠[]) (hq:q.length=1):resQ p q=cf q 0^(p.length-1):=by
 have q0:q≠[]:=fun e=>by rw[e] at hq;simp at hq
 unfold resQ
 rw[if_neg (by simp[hp,q0]),hq]
 exact syl_const p (by omega) _
theorem res_step {p q k r:List Rat} (h:DivQ p q k r) (nq:Nf q) (q0:q≠[]) (hle:q.length≤p.length) (r0:r≠[]) :
  resQ p q=sg ((p.length-1)*(q.length-1))*(ld q^(p.length-r.length)*resQ q r):=by
 have l1:=List.length_pos_iff.2 q0
 have l2:=List.length_pos_iff.2 r0
 have l3:=h.lt
 have p0:p≠[]:=fun e=>by rw[e] at hle;have:q.length≤0:=hle;omega
 unfold resQ
 rw[if_neg (by simp[p0,q0]),if_neg (by simp[q0,r0]),syl_step h nq (m:=p.length-1) (n:=q.length-1) (d:=r.length-1) (s:=p.length-r.length) (by omega) (by omega) (by omega) (by omega) (by omega),Nat.mul_comm (p.length-1)]
 rfl
theorem res_zero {p q k:List Rat} (h:DivQ p q k []) (nq:Nf q) (hq:2≤q.length) (hle:q.length≤p.length):resQ p q=0:=by
 have q0:q≠[]:=fun e=>by rw[e] at hq;simp at hq
 have p0:p≠[]:=fun e=>by rw[e] at hle;have:q.length≤0:=hle;omega
 unfold resQ
 rw[if_neg (by simp[p0,q0]),syl_step h nq (m:=p.length-1) (n:=q.length-1) (d:=p.length-1) (s:=0) (by omega) (by omega) (by omega) (by simp) (by omega),syl_swap,syl_nil q (by omega)]
 grind
end Go.Proofs.Ytdjbfgfbpimakaa.M
end

section
namespace Go.Proofs.Ytdjbfgfbpimakaa.M
open Go.RowKit
set_option linter.unusedSimpArgs false
set_option linter.unusedVariables false
set_option linter.defProp false
end Go.Proofs.Ytdjbfgfbpimakaa.M
end

section
namespace Go.Proofs.Ytdjbfgfbpimakaa.M
set_option linter.unusedVariables false
def enM (M:List (List Rat)):Nat→Nat→Rat:=fun i c=>cf (M.getD i []) c
def cutR (j:Nat) (r:List Rat):List Rat:=r.take j++r.drop (j+1)
def lessM (M:List (List Rat)) (j:Nat):List (List Rat):=(M.drop 1).map (cutR j)
theorem cf_cutR {j:Nat} {r:List Rat} (hj:j<r.length) (k:Nat):cf (cutR j r) k=cf r (sk j k):=by
 unfold cf cutR sk
 rw[List.getD_eq_getElem?_getD,List.getD_eq_getElem?_getD]
 by_cases h:k<j
 ·rw[if_pos h,List.getElem?_append_left (by rw[List.length_take];omega),List.getElem?_take_of_lt h]
 ·rw[if_neg h,List.getElem?_append_right (by rw[List.length_take];omega),List.getElem?_drop,List.length_take,show j+1+(k-min j r.length)=k+1 by omega]
theorem lessM_len (M:List (List Rat)) (j:Nat):(lessM M j).length=M.length-1:=by simp[lessM]
def SqM (n:Nat) (M:List (List Rat)):Prop:=M.length=n∧∀ r∈M,r.length=n
theorem SqM.less {n:Nat} {M:List (List Rat)} (h:SqM (n+1) M) {j:Nat} (hj:j<n+1):SqM n (lessM M j):=by
 refine⟨by rw[lessM_len,h.1];omega,fun r hr => ?_⟩
 obtain⟨s,hs,rfl⟩:=List.mem_map.1 hr
 have:=h.2 s (List.mem_of_mem_drop hs)
 unfold cutR
 rw[List.length_append,List.length_take,List.length_drop];omega
theorem enM_less {n:Nat} {M:List (List Rat)} (h:SqM (n+1) M) {j:Nat} (hj:j<n+1):dt n (enM (lessM M j))=dt n (minor (enM M) j):=dt_congr n fun i c hi hc=>by
 unfold minor enM lessM
 have hi':i+1<M.length:=by rw[h.1];omega
 have e1:((M.drop 1).map (cutR j)).getD i []=cutR j (M.getD (i+1) []):=by
  rw[List.getD_eq_getElem?_getD,List.getD_eq_getElem?_getD,List.getElem?_map,List.getElem?_drop,Nat.add_comm 1 i,List.getElem?_eq_getElem hi'];rfl
 rw[e1,cf_cutR (by
  rw[List.getD_eq_getElem?_getD,List.getElem?_eq_getElem hi']
  have:=h.2 _ (List.getElem_mem hi')
  simpa using (by omega:j<(M[i+1]).length))]
def dtP (n:Nat) (M:List (List Rat)) (j:Nat):Rat:=sumQ j fun j=>sg j*cf (M.getD 0 []) j*dt n (enM (lessM M j))
theorem dtP_all {n:Nat} {M:List (List Rat)} (h:SqM (n+1) M):dtP n M (n+1)=dt (n+1) (enM M):=sumQ_ext fun j hj=>by
 rw[enM_less h hj];rfl
def rowS (l:List Rat) (N shift:Nat):List Rat:=(List.range N).map fun j:Nat=>cfZ l ((l.length:Int)-1-((j:Int)-(shift:Int)))
def rowsS (p q:List Rat) (m n:Nat):List (List Rat):=(List.range (m+n)).map fun i=>if i<n then rowS p (m+n) i else rowS q (m+n) (i-n)
theorem cf_map_range {N j:Nat} (f:Nat→Rat) (hj:j<N):cf ((List.range N).map f) j=f j:=by
 unfold cf;rw[List.getD_eq_getElem?_getD,List.getElem?_map,List.getElem?_range hj];rfl
theorem rowS_at {l:List Rat} {m n s j:Nat} (hl:l.length=m+1) (hs:s<n) (hj:j<m+n):cf (rowS l (m+n) s) j=rwP (m+n) (xs (n-1-s) l) j:=by
 rw[rowS,cf_map_range _ hj,rwP,if_pos hj,cf_xs,hl]
 by_cases h:m+s<j
 ·rw[if_pos (by omega),cfZ,if_neg (by omega)]
 ·rw[if_neg (by omega),cfZ,if_pos (by omega)];congr 1;omega
theorem rowsS_sy {p q:List Rat} {m n:Nat} (hp:p.length=m+1) (hq:q.length=n+1):dt (m+n) (enM (rowsS p q m n))=syl p q m n:=dt_congr _ fun i c hi hc=>by
 have e:(rowsS p q m n).getD i []=if i<n then rowS p (m+n) i else rowS q (m+n) (i-n):=by
  unfold rowsS;rw[List.getD_eq_getElem?_getD,List.getElem?_map,List.getElem?_range hi];rfl
 unfold enM sy mtx
 rw[e]
 by_cases h:i<n
 ·rw[if_pos h,if_pos h,rowS_at hp h hc]
 ·rw[if_neg h,if_neg h,Nat.add_comm m n,rowS_at hq (by omega) (by omega)]
theorem rowsS_sq (p q:List Rat) (m n:Nat):SqM (m+n) (rowsS p q m n):=by
 refine⟨by simp[rowsS],fun r hr => ?_⟩
 obtain⟨i,_,rfl⟩:=List.mem_map.1 hr
 split<;>simp[rowS]
end Go.Proofs.Ytdjbfgfbpimakaa.M
end

section
namespace Go.Proofs.Ytdjbfgfbpimakaa.M
open Go.RowKit
set_option linter.unusedVariables false
def prodA:List (List Rat × Nat)→Rat→Rat
 | [],_=>1
 | p::l,x=>evQ p.1 x^p.2*prodA l x
def prodB:List (List Rat × Nat)→Rat→Rat
 | [],_=>1
 | p::l,x=>evQ p.1 x*prodB l x
theorem Sz.der {k:Nat} {a:List Rat} (h:Sz k a) (hl:a.length≤256):Sz (k+8) (derQ a):=by
 obtain⟨K,h1,h2⟩:=h
 refine⟨K,pu h1 (by omega),fun i => ?_⟩
 rw[der_cf]
 by_cases hi:i+1<a.length
 ·have:=(h2 (i+1)).mul (Db.ofInt ((i+1:Nat):Int))
  rw[Rat.intCast_natCast,Nat.mul_one] at this
  refine this.mono (pm (Nat.le_refl _) ?_)
  simp only[Int.natAbs_natCast];omega
 ·rw[cf_ge (by omega),Rat.zero_mul];exact Db.zero h2.pos _
theorem Sz.back {k m:Nat} {a:List Rat} (na:Nf a) (h:Sz k (monQ a)) (hl:Bq m (Go.Proofs.Ytdjbfgfbpimakaa.M.ld a)):Sz (k+m) a:=by
 rw[←mon_back na];exact h.scl hl
def sB (e:Nat):Nat:=2*e+4021
def sC (e:Nat):Nat:=2*e+8057
structure Ys (P b1:List Rat) (e k:Nat) (r b c a:List Rat) (l:List (List Rat × Nat)):Prop where
 y:Yr r b c a
 lb:ld b=ld P
 pr:∀ x,evQ P x=prodA l x*(evQ b x*(1 / ld P))^k*evQ r x
 sq:∀ x,evQ b1 x=prodB l x*evQ b x
 ps:∀ p∈l,Nf p.1∧ld p.1=1∧2≤p.1.length∧1≤p.2∧p.2≤k∧p.2<P.length∧Dv p.1 P
 inc:l.Pairwise fun p q=>p.2<q.2
 kr:k+r.length≤P.length
 ll:l.length≤k
 dr:Dv r P
 sb:Sz (sB e) b
 sc:Sz (sC e) c
structure Pts (P:List Rat) (l:List (List Rat × Nat)):Prop where
 ps:∀ p∈l,Nf p.1∧ld p.1=1∧2≤p.1.length∧1≤p.2∧p.2<P.length∧Dv p.1 P
 inc:l.Pairwise fun p q=>p.2<q.2
 pr:∀ x,evQ P x=prodA l x*ld P
 fr:∀ B d,Nf B→(∀ x,evQ B x=prodB l x)→IsGcd B (derQ B) d→d.length≤1
end Go.Proofs.Ytdjbfgfbpimakaa.M
end
