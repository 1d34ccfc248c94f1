/- Polynomials: what comes out of two by Euclid's steps: there is one such with small cofactors (Siegel), so all are small but for a factor. -/
import Derived.Test.YtkidkimjdiichaaGreatRvNz
namespace Go.Proofs.YtkidkimjdiichaaGreat.M
set_option linter.unusedVariables false
theorem pigeon : ∀ (m n : Nat) (f : Nat → Nat),(∀ x,x < n → f x < m) → m < n → ∃ x y,x < y ∧ y < n ∧ f x = f y
 | 0,n,f,h,hn => absurd (h 0 hn) (by omega)
 | m + 1,n,f,h,hn => by
  obtain ⟨k,rfl⟩ : ∃ k,n = k + 1:=⟨n - 1,by omega⟩
  by_cases hv : ∃ x,x < k ∧ f x = f k
  ·obtain ⟨x,h1,h2⟩:=hv
   exact ⟨x,k,h1,by omega,h2⟩
  ·have hne : ∀ x,x < k → f x ≠ f k:=fun x hx e => hv ⟨x,hx,e⟩
   have hg : ∀ x,x < k → (if f x = m then f k else f x) < m:=fun x hx => by
    have h1:=h x (by omega)
    have h2:=h k (by omega)
    have h3:=hne x hx
    split <;> omega
   obtain ⟨x,y,h1,h2,h3⟩:=pigeon m k (fun x => if f x = m then f k else f x) hg (by omega)
   refine ⟨x,y,h1,by omega,?_⟩
   have h4:=hne x (by omega)
   have h5:=hne y h2
   split at h3 <;> split at h3 <;> omega
def sumZ : Nat → (Nat → Int) → Int
 | 0,_ => 0
 | n + 1,f => sumZ n f + f n
theorem sumZ_sub : ∀ (n : Nat) (f g : Nat → Int),sumZ n (fun i => f i - g i) = sumZ n f - sumZ n g
 | 0,_,_ => rfl
 | n + 1,f,g => by
  have h:=sumZ_sub n f g
  simp only [sumZ];omega
theorem sumZ_abs : ∀ (n : Nat) (f : Nat → Int) (H : Nat),(∀ i,i < n → (f i).natAbs ≤ H) → (sumZ n f).natAbs ≤ n * H
 | 0,_,_,_ => Nat.zero_le _
 | n + 1,f,H,h => by
  have h1:=sumZ_abs n f H fun i hi => h i (by omega)
  have h2:=h n (by omega)
  rw [sumZ,Nat.succ_mul];omega
theorem sumZ_ext : ∀ {n : Nat} {f g : Nat → Int},(∀ i,i < n → f i = g i) → sumZ n f = sumZ n g
 | 0,_,_,_ => rfl
 | n + 1,f,g,h => by rw [sumZ,sumZ,sumZ_ext fun i hi => h i (by omega),h n (by omega)]
def dg (C : Nat) : Nat → Nat → Nat
 | x,0 => x % C
 | x,j + 1 => dg C (x / C) j
theorem dg_lt {C : Nat} (hC : 0 < C) : ∀ (j x : Nat),dg C x j < C
 | 0,x => Nat.mod_lt _ hC
 | j + 1,x => dg_lt hC j (x / C)
theorem dg_ne {C : Nat} (hC : 0 < C) : ∀ (N x y : Nat),x < C ^ N → y < C ^ N → (∀ j,j < N → dg C x j = dg C y j) → x = y
 | 0,x,y,hx,hy,_ => by simp at hx hy;omega
 | N + 1,x,y,hx,hy,h => by
  have h0 : x % C = y % C:=h 0 (by omega)
  have h1:=dg_ne hC N (x / C) (y / C) (Nat.div_lt_of_lt_mul (by rw [Nat.mul_comm,← Nat.pow_succ];exact hx)) (Nat.div_lt_of_lt_mul (by rw [Nat.mul_comm,← Nat.pow_succ];exact hy)) fun j hj => h (j + 1) (by omega)
  rw [← Nat.div_add_mod x C,← Nat.div_add_mod y C,h0,h1]
def cod (R : Nat) : Nat → (Nat → Nat) → Nat
 | 0,_ => 0
 | k + 1,w => cod R k w * R + w k
theorem cod_lt {R : Nat} : ∀ (k : Nat) (w : Nat → Nat),(∀ i,i < k → w i < R) → cod R k w < R ^ k
 | 0,_,_ => by simp [cod]
 | k + 1,w,h => by
  have h1:=cod_lt k w fun i hi => h i (by omega)
  have h2:=h k (by omega)
  rw [cod,Nat.pow_succ]
  have : (cod R k w + 1) * R ≤ R ^ k * R:=Nat.mul_le_mul_right _ h1
  rw [Nat.succ_mul] at this
  omega
theorem cod_inj {R : Nat} : ∀ (k : Nat) (w v : Nat → Nat),(∀ i,i < k → w i < R) → (∀ i,i < k → v i < R) → cod R k w = cod R k v → ∀ i,i < k → w i = v i
 | 0,_,_,_,_,_,i,hi => absurd hi (by omega)
 | k + 1,w,v,hw,hv,h,i,hi => by
  have h1:=hw k (by omega)
  have h2:=hv k (by omega)
  rw [cod,cod] at h
  have e1 : w k = v k:=by
   have:=congrArg (· % R) h
   simp only [Nat.mul_comm _ R,Nat.mul_add_mod] at this
   rwa [Nat.mod_eq_of_lt h1,Nat.mod_eq_of_lt h2] at this
  have e2 : cod R k w = cod R k v:=by
   rw [e1] at h
   exact Nat.eq_of_mul_eq_mul_right (by omega : 0 < R) (by omega)
  by_cases e : i = k
  ·subst e;exact e1
  ·exact cod_inj k w v (fun i hi => hw i (by omega)) (fun i hi => hv i (by omega)) e2 i (by omega)
theorem siegel {M : Nat} (hM : 0 < M) (c : Nat → Nat → Int) {A : Nat} (hA : 0 < A) (hc : ∀ k j,(c k j).natAbs ≤ A) :
  ∃ z : Nat → Int,(∃ j,j < M + 1 ∧ z j ≠ 0) ∧ (∀ j,(z j).natAbs ≤ (2 * (M + 1) * A + 1) ^ M) ∧ ∀ k,k < M → sumZ (M + 1) (fun j => c k j * z j) = 0:=by
 obtain ⟨F,hF⟩ : ∃ F,F = 2 * (M + 1) * A + 1:=⟨_,rfl⟩
 obtain ⟨C,hC⟩ : ∃ C,C = F ^ M:=⟨_,rfl⟩
 have hF0 : 0 < F:=by omega
 have hC0 : 0 < C:=by rw [hC];exact Nat.pow_pos hF0
 obtain ⟨T,hT⟩ : ∃ T,T = (M + 1) * (A * (C - 1)):=⟨_,rfl⟩
 obtain ⟨R,hR⟩ : ∃ R,R = 2 * T + 1:=⟨_,rfl⟩
 have e : F * C = 2 * ((M + 1) * (A * C)) + C:=by rw [hF,Nat.add_mul,Nat.one_mul];congr 1;simp only [Nat.mul_assoc]
 have hRlt : R < F * C:=by
  have h1 : A * (C - 1) < A * C:=Nat.mul_lt_mul_of_pos_left (by omega) hA
  have h2 : T < (M + 1) * (A * C):=by rw [hT];exact Nat.mul_lt_mul_of_pos_left h1 (by omega)
  omega
 have hval : ∀ k x,(sumZ (M + 1) fun j => c k j * (dg C x j : Int)).natAbs ≤ T:=fun k x => by
  rw [hT]
  refine sumZ_abs _ _ _ fun j _ => ?_
  rw [Int.natAbs_mul]
  exact Nat.mul_le_mul (hc k j) (by have:=dg_lt hC0 j x;simp;omega)
 have hw : ∀ x k,((sumZ (M + 1) fun j => c k j * (dg C x j : Int)) + T).toNat < R:=fun x k => by have:=hval k x;omega
 have hF1 : (F * C) ^ M = C ^ (M + 1):=by rw [Nat.mul_pow,← hC,Nat.pow_succ,Nat.mul_comm]
 have hlt : R ^ M < C ^ (M + 1):=by rw [← hF1];exact Nat.pow_lt_pow_left hRlt (by omega)
 obtain ⟨x,y,h1,h2,h3⟩:=pigeon (R ^ M) (C ^ (M + 1)) (fun x => cod R M fun k => ((sumZ (M + 1) fun j => c k j * (dg C x j : Int)) + T).toNat) (fun x _ => cod_lt M _ fun k _ => hw x k) hlt
 refine ⟨fun j => (dg C x j : Int) - (dg C y j : Int),?_,fun j => ?_,fun k hk => ?_⟩
 ·refine Classical.byContradiction fun hno => ?_
  have:=dg_ne hC0 (M + 1) x y (by omega) h2 fun j hj => Classical.byContradiction fun hne => hno ⟨j,hj,by show (dg C x j : Int) - (dg C y j : Int) ≠ 0;omega⟩
  omega
 ·have g1:=dg_lt hC0 j x
  have g2:=dg_lt hC0 j y
  show ((dg C x j : Int) - (dg C y j : Int)).natAbs ≤ _
  rw [← hF,← hC]
  omega
 ·have h4:=cod_inj M _ _ (fun k _ => hw x k) (fun k _ => hw y k) h3 k hk
  have g1:=hval k x
  have g2:=hval k y
  have h5:=sumZ_sub (M + 1) (fun j => c k j * (dg C x j : Int)) (fun j => c k j * (dg C y j : Int))
  have h6 : (sumZ (M + 1) fun j => c k j * ((dg C x j : Int) - (dg C y j : Int))) = sumZ (M + 1) fun j => c k j * (dg C x j : Int) - c k j * (dg C y j : Int):=sumZ_ext fun j _ => Int.mul_sub ..
  rw [h6,h5]
  omega
structure Ch (P Q A B U0 V0 U1 V1 : List Rat) (δ : Rat) : Prop where
 a : ∀ x,evQ A x = evQ U0 x * evQ P x + evQ V0 x * evQ Q x
 b : ∀ x,evQ B x = evQ U1 x * evQ P x + evQ V1 x * evQ Q x
 d0 : δ ≠ 0
 det : ∀ x,evQ U0 x * evQ V1 x - evQ V0 x * evQ U1 x = δ
 lt : B.length < A.length
 lv : V1.length + A.length = P.length + 1
 lu : V0.length ≤ V1.length
 aq : A.length ≤ Q.length
 qp : Q.length ≤ P.length
 nA : Nf A
 nB : Nf B
 nU0 : Nf U0
 nV0 : Nf V0
 nU1 : Nf U1
 nV1 : Nf V1
theorem ev_0 {l : List Rat} (n : Nf l) (h : ∀ x,evQ l x = 0) : l = []:=ev_nf n nf_nil fun x => by rw [h];rfl
theorem len1 {l : List Rat} (h : l.length ≤ 1) (x : Rat) : evQ l x = cf l 0:=by
 match l,h with
 | [],_ => rfl
 | [a],_ => simp only [evQ,cf_cons];grind
theorem Ch.uniq {P Q A B U0 V0 U1 V1 : List Rat} {δ : Rat} (h : Ch P Q A B U0 V0 U1 V1 δ) (nP : Nf P) {u v w : List Rat} (nu : Nf u) (nv : Nf v) (nw : Nf w) (hw : ∀ x,evQ w x = evQ u x * evQ P x + evQ v x * evQ Q x) (hl : w.length < A.length) (hv : v.length ≤ V1.length) (hne : u ≠ [] ∨ v ≠ []) :
  ∃ c : Rat,c ≠ 0 ∧ (∀ x,evQ w x = c * evQ B x) ∧ (∀ x,evQ u x = c * evQ U1 x) ∧ ∀ x,evQ v x = c * evQ V1 x:=by
 have h1:=h.lt
 have h2:=h.lv
 have h3:=h.aq
 have h4:=h.qp
 have hP : P ≠ []:=fun e => by have:=congrArg List.length e;simp only [List.length_nil] at this;omega
 have hX : subQ (mulQ u V1) (mulQ v U1) = []:=by
  refine Classical.byContradiction fun hx => ?_
  have e : mulQ (subQ (mulQ u V1) (mulQ v U1)) P = subQ (mulQ V1 w) (mulQ v B):=ev_nf (nf_mul _ _) (nf_sub _ _) fun x => by
   rw [ev_mul,ev_sub,ev_sub,ev_mul,ev_mul,ev_mul,ev_mul,hw,h.b];grind
  have e1:=mul_len (nf_sub (mulQ u V1) (mulQ v U1)) nP hx hP
  have e2:=List.length_pos_iff.2 hx
  have e3:=len_le_of (nf_sub (mulQ V1 w) (mulQ v B)) (n:=P.length - 1) fun i hi => by
   rw [cf_sub,cf_ge (l:=mulQ V1 w) (by have:=mul_len_le V1 w;omega),cf_ge (l:=mulQ v B) (by have:=mul_len_le v B;omega)];grind
  rw [← e,e1] at e3
  have:=List.length_pos_iff.2 hP
  omega
 have hX' : ∀ x,evQ u x * evQ V1 x = evQ v x * evQ U1 x:=fun x => by
  have:=congrArg (fun l => evQ l x) hX
  simp only [ev_sub,ev_mul,evQ] at this
  grind
 have hd:=h.d0
 obtain ⟨α,hα⟩ : ∃ α,α = sclQ (subQ (mulQ U0 v) (mulQ V0 u)) (1 / δ):=⟨_,rfl⟩
 have nα : Nf α:=hα ▸ nf_scl _ _
 have e0 : ∀ x,evQ α x = (evQ U0 x * evQ v x - evQ V0 x * evQ u x) * (1 / δ):=fun x => by rw [hα,ev_scl,ev_sub,ev_mul,ev_mul]
 have ev : ∀ x,evQ α x * evQ V1 x = evQ v x:=fun x => by
  have g1:=h.det x
  have g2:=hX' x
  rw [e0]
  have g3 : (evQ U0 x * evQ v x - evQ V0 x * evQ u x) * evQ V1 x = evQ v x * δ:=by rw [← g1];grind
  grind
 have eu : ∀ x,evQ α x * evQ U1 x = evQ u x:=fun x => by
  have g1:=h.det x
  have g2:=hX' x
  rw [e0]
  have g3 : (evQ U0 x * evQ v x - evQ V0 x * evQ u x) * evQ U1 x = evQ u x * δ:=by rw [← g1];grind
  grind
 have hα0 : α ≠ []:=fun e => by
  have e1 : u = []:=ev_0 nu fun x => by rw [← eu,e];simp only [evQ];grind
  have e2 : v = []:=ev_0 nv fun x => by rw [← ev,e];simp only [evQ];grind
  rcases hne with k | k
  ·exact k e1
  ·exact k e2
 have hV : V1 ≠ []:=fun e => by rw [e] at h2;simp at h2;omega
 have hlen : α.length ≤ 1:=by
  have e1 : mulQ α V1 = v:=ev_nf (nf_mul _ _) nv fun x => by rw [ev_mul,ev]
  have e2:=mul_len nα h.nV1 hα0 hV
  rw [e1] at e2
  have:=List.length_pos_iff.2 hα0
  have:=List.length_pos_iff.2 hV
  omega
 have hc : cf α 0 ≠ 0:=by
  have g1:=ld_ne nα hα0
  unfold ld at g1
  rwa [show α.length - 1 = 0 by omega] at g1
 have ec:=fun x => len1 hlen x
 refine ⟨cf α 0,hc,fun x => ?_,fun x => ?_,fun x => ?_⟩
 ·rw [hw,← eu,← ev,h.b,ec];grind
 ·rw [← eu,ec]
 ·rw [← ev,ec]
theorem quo_len {p d q r : List Rat} (h : DivQ p d q r) (np : Nf p) (nd : Nf d) (hle : d.length ≤ p.length) (hd : d ≠ []) : q.length + d.length = p.length + 1:=by
 have hdl:=List.length_pos_iff.2 hd
 have hr:=h.lt
 have e : p = addQ (mulQ q d) r:=ev_nf np (nf_add _ _) fun x => by rw [ev_add,ev_mul,h.eq]
 have hq : q ≠ []:=fun e0 => by
  rw [e0,mul_nil_l] at e
  have:=add_len ([] : List Rat) r
  rw [← e] at this
  simp at this
  omega
 have h1:=mul_len h.nq nd hq hd
 have hql:=List.length_pos_iff.2 hq
 have h2:=add_len (mulQ q d) r
 rw [← e] at h2
 have h3 : (mulQ q d).length ≤ p.length:=by
  have e2 : mulQ q d = subQ p r:=ev_nf (nf_mul _ _) (nf_sub _ _) fun x => by rw [ev_sub,ev_mul,h.eq];grind
  rw [e2]
  have:=sub_len p r
  omega
 omega
theorem Ch.step {P Q A B U0 V0 U1 V1 : List Rat} {δ : Rat} (h : Ch P Q A B U0 V0 U1 V1 δ) (hB : B ≠ []) {k r : List Rat} (hd : DivQ A B k r) : Ch P Q B r U1 V1 (subQ U0 (mulQ k U1)) (subQ V0 (mulQ k V1)) (-δ):=by
 have h1:=h.lt
 have h2:=h.lv
 have h3:=h.lu
 have h4:=h.aq
 have h5:=h.qp
 have hBl:=List.length_pos_iff.2 hB
 have hkl:=quo_len hd h.nA h.nB (by omega) hB
 have hk : k ≠ []:=fun e => by rw [e] at hkl;simp at hkl;omega
 have hV : V1 ≠ []:=fun e => by rw [e] at h2;simp at h2;omega
 have hVl:=List.length_pos_iff.2 hV
 have hkV:=mul_len hd.nq h.nV1 hk hV
 have hlen : (subQ V0 (mulQ k V1)).length = (mulQ k V1).length:=by
  have g1:=sub_len V0 (mulQ k V1)
  have g2 : (mulQ k V1).length ≤ (subQ V0 (mulQ k V1)).length:=by
   refine Classical.byContradiction fun hc => ?_
   have hne : mulQ k V1 ≠ []:=fun e => by rw [e] at hkV;simp at hkV;omega
   have:=ld_ne (nf_mul k V1) hne
   unfold ld at this
   have e0:=cf_sub V0 (mulQ k V1) ((mulQ k V1).length - 1)
   rw [cf_ge (l:=subQ _ _) (by omega),cf_ge (l:=V0) (by omega)] at e0
   exact this (by grind)
  omega
 refine ⟨h.b,fun x => ?_,fun e => h.d0 (by grind),fun x => ?_,hd.lt,by omega,by omega,by omega,h.qp,h.nB,hd.nr,h.nU1,h.nV1,nf_sub _ _,nf_sub _ _⟩
 ·have:=hd.eq x
  rw [h.a,h.b] at this
  rw [ev_sub,ev_sub,ev_mul,ev_mul];grind
 ·have:=h.det x
  rw [ev_sub,ev_sub,ev_mul,ev_mul];grind
theorem nf_1 : Nf [1]:=.inr (by show (1 : Rat) ≠ 0;decide)
theorem ev_1 (x : Rat) : evQ [1] x = 1:=by simp only [evQ];grind
theorem Ch.start {P Q k r : List Rat} (nP : Nf P) (nQ : Nf Q) (hQ : Q ≠ []) (hle : Q.length ≤ P.length) (hd : DivQ P Q k r) : Ch P Q Q r [] [1] [1] (subQ [] k) (-1):=by
 have hQl:=List.length_pos_iff.2 hQ
 have hkl:=quo_len hd nP nQ hle hQ
 have hlen : (subQ [] k).length = k.length:=by
  have : ∀ i,cf (subQ [] k) i = - cf k i:=fun i => by rw [cf_sub,cf_nil];grind
  refine Nat.le_antisymm (len_le_of (nf_sub _ _) fun i hi => by rw [this,cf_ge hi];grind) (len_le_of hd.nq fun i hi => ?_)
  have e:=this i
  rw [cf_ge hi] at e
  grind
 refine ⟨fun x => ?_,fun x => ?_,by decide,fun x => ?_,hd.lt,by omega,by simp;omega,Nat.le_refl _,hle,nQ,hd.nr,nf_nil,nf_1,nf_1,nf_sub _ _⟩
 ·rw [ev_1,evQ_nil];grind
 ·have:=hd.eq x
  rw [ev_1,ev_sub,evQ_nil];grind
 ·rw [ev_1,evQ_nil];grind
theorem Ch.scl {P Q A B U0 V0 U1 V1 : List Rat} {δ c : Rat} (h : Ch P Q A B U0 V0 U1 V1 δ) (hc : c ≠ 0) : Ch P Q A (sclQ B c) U0 V0 (sclQ U1 c) (sclQ V1 c) (δ * c):=by
 have e1:=scl_len_eq h.nB hc
 have e2:=scl_len_eq h.nV1 hc
 have hd:=h.d0
 exact ⟨h.a,fun x => by rw [ev_scl,ev_scl,ev_scl,h.b];grind,fun e => (Rat.mul_eq_zero.1 e).elim hd hc,fun x => by rw [ev_scl,ev_scl,← h.det x];grind,by rw [e1];exact h.lt,by rw [e2];exact h.lv,by rw [e2];exact h.lu,h.aq,h.qp,h.nA,nf_scl _ _,h.nU0,h.nV0,nf_scl _ _,nf_scl _ _⟩
theorem cnv_sum (l m : List Rat) (k : Nat) {n : Nat} (hn : l.length ≤ n) : cnv l m k = sumQ n fun j => if j ≤ k then cf l j * cf m (k - j) else 0:=by
 have h1 : sumQ (n + (k + 1)) (fun j => if j ≤ k then cf l j * cf m (k - j) else 0) = sumQ n fun j => if j ≤ k then cf l j * cf m (k - j) else 0:=sumQ_le (by omega) fun i h1 _ => by
  rw [cf_ge (l:=l) (by omega)];split <;> grind
 have h2 : sumQ (n + (k + 1)) (fun j => if j ≤ k then cf l j * cf m (k - j) else 0) = sumQ (k + 1) fun j => if j ≤ k then cf l j * cf m (k - j) else 0:=sumQ_le (by omega) fun i h1 _ => if_neg (by omega)
 have h3 : sumQ (k + 1) (fun j => if j ≤ k then cf l j * cf m (k - j) else 0) = sumQ (k + 1) fun j => cf l j * cf m (k - j):=sumQ_ext fun i hi => if_pos (by omega)
 rw [← h1,h2,h3];rfl
theorem sumZ_rat : ∀ (n : Nat) (f : Nat → Int),((sumZ n f : Int) : Rat) = sumQ n fun i => ((f i : Int) : Rat)
 | 0,_ => rfl
 | n + 1,f => by rw [sumZ,sumQ,Rat.intCast_add,sumZ_rat n f]
theorem sumZ_add (n : Nat) (f : Nat → Int) : ∀ m,sumZ (n + m) f = sumZ n f + sumZ m fun i => f (n + i)
 | 0 => by simp [sumZ]
 | m + 1 => by rw [← Nat.add_assoc,sumZ,sumZ_add n f m,sumZ];omega
theorem Ch.small {P Q A B U0 V0 U1 V1 : List Rat} {δ : Rat} (h : Ch P Q A B U0 V0 U1 V1 δ) (nP : Nf P) (hB : B ≠ []) {Kp Kq H L C G : Nat} (hP : Lb Kp H P) (hQ : Lb Kq H Q) (hH : 0 < H) (hL : P.length ≤ L) (hC : (4 * L * H + 1) ^ (2 * L) ≤ C) (hG1 : 2 * L * (C * H) ≤ G) (hG2 : Kp * C ≤ G) (hG3 : Kq * C ≤ G) :
  ∃ E,0 < E ∧ E ≤ G ∧ Lb E G (sclQ B (1 / ld B)) ∧ Lb E G (sclQ U1 (1 / ld B)) ∧ Lb E G (sclQ V1 (1 / ld B)):=by
 have h1:=h.lt
 have h2:=h.lv
 have h4:=h.aq
 have h5:=h.qp
 obtain ⟨a,ha⟩ : ∃ a : Nat → Int,∀ t,cf P t * (Kp : Rat) = (a t : Rat) ∧ (a t).natAbs ≤ H:=⟨fun t => (hP t).2.choose,fun t => (hP t).2.choose_spec⟩
 obtain ⟨b,hb⟩ : ∃ b : Nat → Int,∀ t,cf Q t * (Kq : Rat) = (b t : Rat) ∧ (b t).natAbs ≤ H:=⟨fun t => (hQ t).2.choose,fun t => (hQ t).2.choose_spec⟩
 obtain ⟨nu,hnu⟩ : ∃ nu,nu = Q.length + 1 - A.length:=⟨_,rfl⟩
 obtain ⟨nv,hnv⟩ : ∃ nv,nv = P.length + 1 - A.length:=⟨_,rfl⟩
 obtain ⟨M,hM⟩ : ∃ M,M = nu + nv - 1:=⟨_,rfl⟩
 obtain ⟨d,hd⟩ : ∃ d,d = A.length - 1:=⟨_,rfl⟩
 obtain ⟨z,⟨j0,hj0,hz0⟩,hzb,hz⟩:=siegel (M:=M) (by omega) (fun k j => if j < nu then (if j ≤ k + d then a (k + d - j) else 0) else (if j - nu ≤ k + d then b (k + d - (j - nu)) else 0)) (A:=H) hH fun k j => by
  (repeat' split) <;> first | exact (ha _).2 | exact (hb _).2 | exact Nat.zero_le _
 have hzC : ∀ j,(z j).natAbs ≤ C:=fun j => by
  refine Nat.le_trans (hzb j) (Nat.le_trans ?_ hC)
  refine Nat.le_trans (Nat.pow_le_pow_left (Nat.add_le_add_right (Nat.mul_le_mul_right H (show 2 * (M + 1) ≤ 4 * L by omega)) 1) _) (Nat.pow_le_pow_right (by omega) (by omega))
 obtain ⟨u,hu⟩ : ∃ u,u = tab nu fun j => ((z j : Int) : Rat):=⟨_,rfl⟩
 obtain ⟨v,hv⟩ : ∃ v,v = tab nv fun j => ((z (nu + j) : Int) : Rat):=⟨_,rfl⟩
 have cu : ∀ j,j < nu → cf u j = ((z j : Int) : Rat):=fun j hj => by rw [hu,cf_tab,if_pos hj]
 have cv : ∀ j,j < nv → cf v j = ((z (nu + j) : Int) : Rat):=fun j hj => by rw [hv,cf_tab,if_pos hj]
 have lu : u.length = nu:=by rw [hu,tab_len]
 have lv : v.length = nv:=by rw [hv,tab_len]
 obtain ⟨P',hP'⟩ : ∃ P',P' = sclQ P (Kp : Rat):=⟨_,rfl⟩
 obtain ⟨Q',hQ'⟩ : ∃ Q',Q' = sclQ Q (Kq : Rat):=⟨_,rfl⟩
 have cP : ∀ t,cf P' t = ((a t : Int) : Rat):=fun t => by rw [hP',cf_scl,(ha t).1]
 have cQ : ∀ t,cf Q' t = ((b t : Int) : Rat):=fun t => by rw [hQ',cf_scl,(hb t).1]
 obtain ⟨w,hw⟩ : ∃ w,w = addQ (mulQ u P') (mulQ v Q'):=⟨_,rfl⟩
 have nw : Nf w:=hw ▸ nf_add _ _
 have cw : ∀ t,cf w t = sumQ nu (fun j => if j ≤ t then cf u j * cf P' (t - j) else 0) + sumQ nv fun j => if j ≤ t then cf v j * cf Q' (t - j) else 0:=fun t => by
  rw [hw,cf_add,cf_mul,cf_mul,cnv_sum u P' t (n:=nu) (by omega),cnv_sum v Q' t (n:=nv) (by omega)]
 have hwz : ∀ t,d ≤ t → cf w t = 0:=fun t ht => by
  by_cases hlt : t < d + M
  ·have h7:=hz (t - d) (by omega)
   rw [show M + 1 = nu + nv by omega,sumZ_add] at h7
   have h8:=congrArg (fun n : Int => (n : Rat)) h7
   simp only [Rat.intCast_add,sumZ_rat] at h8
   rw [cw]
   refine Eq.trans ?_ h8
   congr 1
   ·refine sumQ_ext fun j hj => ?_
    rw [if_pos hj,cu j hj,cP,show t - d + d = t by omega]
    split
    ·rw [Rat.intCast_mul];grind
    ·rw [Int.zero_mul];rfl
   ·refine sumQ_ext fun j hj => ?_
    rw [if_neg (show ¬ nu + j < nu by omega),cv j hj,cQ,show t - d + d = t by omega,show nu + j - nu = j by omega]
    split
    ·rw [Rat.intCast_mul];grind
    ·rw [Int.zero_mul];rfl
  ·have l1:=scl_len P (Kp : Rat)
   have l2:=scl_len Q (Kq : Rat)
   rw [← hP'] at l1
   rw [← hQ'] at l2
   rw [hw,cf_add,cf_mul,cf_mul,cnv_0 (a:=u) (b:=P') (n:=t) (by omega),cnv_0 (a:=v) (b:=Q') (n:=t) (by omega)];grind
 have hwl : w.length < A.length:=by
  have:=len_le_of nw hwz
  omega
 have hK : (Kp : Rat) ≠ 0 ∧ (Kq : Rat) ≠ 0:=by
  have:=hP.pos
  have:=hQ.pos
  exact ⟨by rw [ne_eq,Rat.natCast_eq_zero_iff];omega,by rw [ne_eq,Rat.natCast_eq_zero_iff];omega⟩
 obtain ⟨hKp,hKq⟩:=hK
 obtain ⟨c,c0,e1,e2,e3⟩:=h.uniq nP (u:=sclQ u (Kp : Rat)) (v:=sclQ v (Kq : Rat)) (nf_scl _ _) (nf_scl _ _) nw (fun x => by rw [hw,ev_add,ev_mul,ev_mul,hP',hQ',ev_scl,ev_scl,ev_scl,ev_scl];grind) hwl (by have:=scl_len v (Kq : Rat);omega) (by
  by_cases hj : j0 < nu
  ·left
   intro e
   have:=cf_scl u (Kp : Rat) j0
   rw [e,cf_nil,cu j0 hj] at this
   rcases Rat.mul_eq_zero.1 this.symm with k | k
   ·exact hz0 (Rat.intCast_eq_zero_iff.1 k)
   ·exact hKp k
  ·right
   intro e
   have:=cf_scl v (Kq : Rat) (j0 - nu)
   rw [e,cf_nil,cv (j0 - nu) (by omega),show nu + (j0 - nu) = j0 by omega] at this
   rcases Rat.mul_eq_zero.1 this.symm with k | k
   ·exact hz0 (Rat.intCast_eq_zero_iff.1 k)
   ·exact hKq k)
 have ew : w = sclQ B c:=ev_nf nw (nf_scl _ _) fun x => by rw [ev_scl,e1];grind
 have eu : ∀ i,cf u i * (Kp : Rat) = cf U1 i * c:=fun i => by rw [← cf_scl,← cf_scl];exact ev_ext (fun x => by rw [ev_scl (a:=U1),e2];grind) i
 have ev : ∀ i,cf v i * (Kq : Rat) = cf V1 i * c:=fun i => by rw [← cf_scl,← cf_scl];exact ev_ext (fun x => by rw [ev_scl (a:=V1),e3];grind) i
 have hld : ld w = ld B * c:=by
  unfold ld
  rw [ew,scl_len_eq h.nB c0,cf_scl]
 have hB0:=ld_ne h.nB hB
 have hw0 : ld w ≠ 0:=by rw [hld];exact fun e => (Rat.mul_eq_zero.1 e).elim hB0 c0
 have hCH : nu * (C * H) + nv * (C * H) ≤ G:=by
  rw [← Nat.add_mul]
  exact Nat.le_trans (Nat.mul_le_mul_right _ (by omega)) hG1
 have z1 : ∀ j,Db 1 C ((z j : Int) : Rat):=fun j => (Db.ofInt (z j)).mono (hzC j)
 have bw : ∀ t,Db 1 G (cf w t):=fun t => by
  rw [cw]
  refine Db.mono ((Db.sum (by omega) nu _ fun j hj => ?_).add (Db.sum (by omega) nv _ fun j hj => ?_)) hCH
  ·split
   ·rw [cu j hj,cP];exact (z1 j).mul ((Db.ofInt _).mono (ha _).2)
   ·exact Db.zero (by omega) _
  ·split
   ·rw [cv j hj,cQ];exact (z1 _).mul ((Db.ofInt _).mono (hb _).2)
   ·exact Db.zero (by omega) _
 have bK : ∀ (K : Nat) (x : Rat),K * C ≤ G → Db 1 C x → Db 1 G (x * (K : Rat)):=fun K x hk hx => by
  have:=hx.mul (Db.ofInt (K : Int))
  rw [Rat.intCast_natCast] at this
  refine this.mono ?_
  simp only [Int.natAbs_natCast]
  rw [Nat.mul_comm];exact hk
 have bu : ∀ i,Db 1 G (cf u i * (Kp : Rat)):=fun i => bK Kp _ hG2 (by
  rw [hu,cf_tab]
  split
  ·exact z1 i
  ·exact Db.zero (by omega) _)
 have bv : ∀ i,Db 1 G (cf v i * (Kq : Rat)):=fun i => bK Kq _ hG3 (by
  rw [hv,cf_tab]
  split
  ·exact z1 _
  ·exact Db.zero (by omega) _)
 obtain ⟨E,hE,hq⟩:=Db.quo (bw (w.length - 1)) hw0
 have hE0 : 0 < E:=(hq 0 (Db.zero (by omega) _)).1
 have key : ∀ x y : Rat,y * c = x → y * (1 / ld B) = x / ld w:=fun x y e => by rw [hld,← e];grind
 refine ⟨E,hE0,hE,fun i => ?_,fun i => ?_,fun i => ?_⟩
 ·rw [cf_scl,key (cf w i) _ (by rw [ew,cf_scl])];exact hq _ (bw i)
 ·rw [cf_scl,key _ _ (eu i).symm];exact hq _ (bu i)
 ·rw [cf_scl,key _ _ (ev i).symm];exact hq _ (bv i)
end Go.Proofs.YtkidkimjdiichaaGreat.M
