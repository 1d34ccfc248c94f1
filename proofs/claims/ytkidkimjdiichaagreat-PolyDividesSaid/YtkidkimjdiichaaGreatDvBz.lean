/- Polynomials: the greatest common divisor; how large things get on the way to it. Polynomials: the states of Euclid's loops. Polynomials: what stands at the end of Euclid's loop that keeps the factors. Polynomials: the greatest common divisor, in the program and in the reference. -/
import Derived.Test.YtkidkimjdiichaaGreatDvAz
import Derived.Test.YtkidkimjdiichaaGreatPoLy
import Derived.Test.YtkidkimjdiichaaGreatDvZz
section
namespace Go.Proofs.YtkidkimjdiichaaGreat.M
set_option linter.unusedVariables false
def Sz (k : Nat) (l : List Rat) : Prop:=∃ K,K ≤ 2 ^ k ∧ Lb K (2 ^ k) l
section
variable {k m n r : Nat} {l a b : List Rat}
theorem Sz.mono (h : Sz k l) (hk : k ≤ m) : Sz m l:=by
 obtain ⟨K,h1,h2⟩:=h
 exact ⟨K,pu h1 hk,h2.mono (Nat.pow_le_pow_right (by omega) hk)⟩
theorem Sz.bl (h : Sz k l) (hk : k < n) : Bl n l:=by
 obtain ⟨K,h1,h2⟩:=h
 exact Bl.ofLb h2 (p2 h1 hk) (Nat.pow_lt_pow_right (by omega) hk)
theorem Sz.nil (k : Nat) : Sz k []:=⟨1,Nat.one_le_two_pow,Lb.nil (by omega) _⟩
theorem Sz.scl {c : Rat} (h : Sz k l) (hc : Bq m c) : Sz (k + m) (sclQ l c):=by
 obtain ⟨K,h1,h2⟩:=h
 exact ⟨K * c.den,pm h1 (Nat.le_of_lt hc.2),fun i => by rw [cf_scl];exact ((h2 i).mul (Db.of_self c)).mono (pm (Nat.le_refl _) (Nat.le_of_lt hc.1))⟩
theorem Sz.mul (ha : Sz k a) (hb : Sz m b) (hr : a.length ≤ 2 ^ r) : Sz (r + (k + m)) (mulQ a b):=by
 obtain ⟨K,h1,h2⟩:=ha
 obtain ⟨M,h3,h4⟩:=hb
 exact ⟨K * M,pu (pm h1 h3) (by omega),(h2.mul h4).mono (pm hr (pm (Nat.le_refl _) (Nat.le_refl _)))⟩
theorem Sz.sub (ha : Sz k a) (hb : Sz m b) : Sz (k + m + 1) (subQ a b):=by
 obtain ⟨K,h1,h2⟩:=ha
 obtain ⟨M,h3,h4⟩:=hb
 refine ⟨K * M,pu (pm h1 h3) (by omega),fun i => ?_⟩
 rw [cf_sub]
 exact (((h2 i).up h4.pos).sub (by rw [Nat.mul_comm K M];exact (h4 i).up h2.pos)).mono (pa (pm (Nat.le_refl _) h3) (by rw [Nat.add_comm k m];exact pm (Nat.le_refl _) h1))
theorem Sz.add (ha : Sz k a) (hb : Sz m b) : Sz (k + m + 1) (addQ a b):=by
 obtain ⟨K,h1,h2⟩:=ha
 obtain ⟨M,h3,h4⟩:=hb
 refine ⟨K * M,pu (pm h1 h3) (by omega),fun i => ?_⟩
 rw [cf_add]
 exact (((h2 i).up h4.pos).add (by rw [Nat.mul_comm K M];exact (h4 i).up h2.pos)).mono (pa (pm (Nat.le_refl _) h3) (by rw [Nat.add_comm k m];exact pm (Nat.le_refl _) h1))
theorem Sz.mon (h : Sz k l) (nl : Nf l) : Sz k (monQ l):=by
 by_cases h0 : l = []
 ·subst h0;rw [mon_nil];exact Sz.nil _
 ·obtain ⟨K,h1,h2⟩:=h
  obtain ⟨E,e1,e2,e3⟩:=h2.top (ld_ne nl h0)
  refine ⟨E,e1,fun i => ?_⟩
  rw [monQ,cf_scl,show cf l i * (1 / ld l) = cf l i / ld l by grind]
  exact e3 i
theorem Sz.ld (h : Sz k l) : Bq (k + 1) (ld l):=h.bl (Nat.lt_succ_self k) _
end
theorem mon_back {l : List Rat} (nl : Nf l) : sclQ (monQ l) (ld l) = l:=nf_ext (nf_scl _ _) nl fun i => by
 rw [cf_scl,monQ,cf_scl]
 by_cases h0 : l = []
 ·subst h0;rw [cf_nil];grind
 ·have:=ld_ne nl h0;grind
theorem one_div_ne {c : Rat} (h : c ≠ 0) : 1 / c ≠ 0:=by grind
theorem mon_len_eq {l : List Rat} (nl : Nf l) : (monQ l).length = l.length:=by
 by_cases h0 : l = []
 ·subst h0;rfl
 ·exact scl_len_eq nl (one_div_ne (ld_ne nl h0))
theorem mon_ld {l : List Rat} (nl : Nf l) (h0 : l ≠ []) : ld (monQ l) = 1:=by
 have:=ld_ne nl h0
 have e : ld (monQ l) = ld l * (1 / ld l):=by
  unfold ld
  rw [mon_len_eq nl,monQ,cf_scl];rfl
 rw [e];grind
theorem mon_self {l : List Rat} (nl : Nf l) (h : l = [] ∨ ld l = 1) : monQ l = l:=by
 rcases h with rfl | h
 ·rfl
 ·rw [monQ,h]
  exact nf_ext (nf_scl _ _) nl fun i => by rw [cf_scl];grind
theorem selfLb (l : List Rat) : ∃ D H,Lb D H l:=by
 refine ⟨dens l,l.foldr (fun x a => a + x.num.natAbs * dens l) 0,Lb.of (dens_pos l) fun x hx => ?_⟩
 obtain ⟨E,h1,h2⟩:=dens_up hx
 have h3:=(Db.of_self x).up h1
 have h4 : x.num.natAbs * E ≤ x.num.natAbs * dens l:=Nat.mul_le_mul_left _ (by rw [h2];exact Nat.le_mul_of_pos_left _ x.den_pos)
 have h5 : ∀ (m : List Rat) (N : Nat),x ∈ m → x.num.natAbs * N ≤ m.foldr (fun x a => a + x.num.natAbs * N) 0:=by
  intro m N hm
  induction m with
  | nil => cases hm
  | cons y m ih =>
   rw [List.foldr_cons]
   rcases List.mem_cons.1 hm with rfl | hm
   ·omega
   ·have:=ih hm;omega
 rw [← h2] at h3
 have:=h5 l (dens l) hx
 exact h3.mono (by omega)
theorem dvSpec {d : List Rat} (nd : Nf d) (hd : d ≠ []) (p : List Rat) : DivQ p d (quoQ p d) (remQ p d):=by
 obtain ⟨D,H,hb⟩:=selfLb p
 obtain ⟨D',H',hb'⟩:=selfLb d
 obtain ⟨E,_,h2,h3⟩:=hb'.top (ld_ne nd hd)
 obtain ⟨q,r,h,_⟩:=div_ex nd hd h2 h3 p.length p D H (by have:=List.length_pos_iff.2 hd;omega) hb
 exact divQ_of h
theorem rem_scl {A B : List Rat} (nB : Nf B) (hB : B ≠ []) (a : Rat) : quoQ (sclQ A a) B = sclQ (quoQ A B) a ∧ remQ (sclQ A a) B = sclQ (remQ A B) a:=by
 have h:=dvSpec nB hB A
 have h2 : DivQ (sclQ A a) B (sclQ (quoQ A B) a) (sclQ (remQ A B) a):=⟨nf_scl _ _,nf_scl _ _,fun x => by rw [ev_scl,ev_scl,ev_scl,h.eq];grind,Nat.lt_of_le_of_lt (scl_len _ _) h.lt⟩
 obtain ⟨h3,h4⟩:=div_eq nB h2
 exact ⟨h3.symm,h4.symm⟩
theorem dv_sz {A B : List Rat} (nB : Nf B) (hB0 : B ≠ []) {k e b S : Nat} (hA : Sz k A) (hB : Sz e (monQ B)) (hb : Bq b (ld B)) (hS : A.length + 1 ≤ S + B.length) :
  Sz (k + (e + 1) * S) (remQ A B) ∧ Sz (k + (e + 1) * S + b) (quoQ A B) ∧ (quoQ A B).length ≤ S ∧ (remQ A B).length < B.length:=by
 obtain ⟨K,h1,h2⟩:=hA
 obtain ⟨E,h3,h4⟩:=hB
 have hE:=h4.pos
 have h0:=ld_ne nB hB0
 have heg : ∀ j,Db E (2 ^ e) (cf B j / ld B):=fun j => by
  have:=h4 j
  rw [monQ,cf_scl,show cf B j * (1 / ld B) = cf B j / ld B by grind] at this
  exact this
 obtain ⟨q,r,d,h5,h6,h7⟩:=div_ex nB hB0 hE heg S A K (2 ^ k) (by omega) h2
 obtain ⟨rfl,rfl⟩:=div_eq nB d
 have g1 : K * E ^ S ≤ 2 ^ (k + (e + 1) * S):=pm h1 (pp (pu h3 (by omega)) _)
 have g2 : 2 ^ k * (E + 2 ^ e) ^ S ≤ 2 ^ (k + (e + 1) * S):=pm (Nat.le_refl _) (pp (pa h3 (Nat.le_refl _)) _)
 refine ⟨⟨_,g1,h6.mono g2⟩,?_,h5,d.lt⟩
 have hi:=hb.inv
 refine ⟨K * E ^ S * (1 / ld B).den,pm g1 (Nat.le_of_lt hi.2),fun i => ?_⟩
 have h8:=((h7 i).mul (Db.of_self (1 / ld B))).mono (pm g2 (Nat.le_of_lt hi.1))
 rwa [show cf (quoQ A B) i * ld B * (1 / ld B) = cf (quoQ A B) i by grind] at h8
def Dv (a b : List Rat) : Prop:=∃ m,Nf m ∧ ∀ x,evQ b x = evQ m x * evQ a x
theorem Dv.co {g P Q w : List Rat} (h1 : Dv g P) (h2 : Dv g Q) (u v : List Rat) (hw : ∀ x,evQ w x = evQ u x * evQ P x + evQ v x * evQ Q x) : Dv g w:=by
 obtain ⟨s,ns,hs⟩:=h1
 obtain ⟨t,nt,ht⟩:=h2
 exact ⟨addQ (mulQ u s) (mulQ v t),nf_add _ _,fun x => by rw [hw,hs,ht,ev_add,ev_mul,ev_mul];grind⟩
structure IsGcd (P Q g : List Rat) : Prop where
 ng : Nf g
 mo : g = [] ∨ ld g = 1
 dp : Dv g P
 dq : Dv g Q
 co : ∃ u v,Nf u ∧ Nf v ∧ ∀ x,evQ g x = evQ u x * evQ P x + evQ v x * evQ Q x
theorem Dv.len {a b : List Rat} (h : Dv a b) (na : Nf a) (nb : Nf b) (hb : b ≠ []) : ∃ m,m ≠ [] ∧ Nf m ∧ b = mulQ m a ∧ a ≠ [] ∧ b.length + 1 = m.length + a.length:=by
 obtain ⟨m,nm,hm⟩:=h
 have e : b = mulQ m a:=ev_nf nb (nf_mul _ _) fun x => by rw [ev_mul,hm]
 have hm0 : m ≠ []:=fun e0 => hb (by rw [e,e0,mul_nil_l])
 have ha0 : a ≠ []:=fun e0 => hb (by rw [e,e0,mul_nil_r])
 have h1:=mul_len nm na hm0 ha0
 have:=List.length_pos_iff.2 hm0
 have:=List.length_pos_iff.2 ha0
 exact ⟨m,hm0,nm,e,ha0,by rw [e,h1];omega⟩
theorem IsGcd.unique {P Q g g' : List Rat} (h : IsGcd P Q g) (h' : IsGcd P Q g') : g = g':=by
 obtain ⟨u,v,_,_,hc⟩:=h.co
 obtain ⟨u',v',_,_,hc'⟩:=h'.co
 have d1 : Dv g g':=h.dp.co h.dq u' v' hc'
 have d2 : Dv g' g:=h'.dp.co h'.dq u v hc
 by_cases h0 : g' = []
 ·subst h0
  obtain ⟨m,_,hm⟩:=d2
  exact ev_0 h.ng fun x => by rw [hm,evQ_nil];grind
 ·obtain ⟨m,hm0,nm,e,ha0,hl⟩:=d1.len h.ng h'.ng h0
  obtain ⟨m2,hm2,_,_,_,hl2⟩:=d2.len h'.ng h.ng ha0
  have:=List.length_pos_iff.2 hm0
  have:=List.length_pos_iff.2 hm2
  have e1 : g' = sclQ g (cf m 0):=ev_nf h'.ng (nf_scl _ _) fun x => by rw [e,ev_mul,ev_scl,len1 (l:=m) (by omega)];grind
  have e2 : ld g' = ld g * cf m 0:=by
   have e3 : g'.length = g.length:=by omega
   have e4:=cf_scl g (cf m 0) (g.length - 1)
   rw [← e1] at e4
   unfold ld
   rw [e3];exact e4
  have k1:=h.mo.resolve_left ha0
  have k2:=h'.mo.resolve_left h0
  rw [k1,k2] at e2
  rw [e1]
  exact nf_ext h.ng (nf_scl _ _) fun i => by rw [cf_scl];grind
theorem IsGcd.step {A B k r g : List Rat} (hd : DivQ A B k r) (h : IsGcd B r g) : IsGcd A B g:=by
 obtain ⟨u,v,nu,nv,hc⟩:=h.co
 refine ⟨h.ng,h.mo,h.dp.co h.dq k [1] fun x => by rw [hd.eq,ev_1];grind,h.dp,v,subQ u (mulQ v k),nv,nf_sub _ _,fun x => ?_⟩
 rw [hc,ev_sub,ev_mul,hd.eq];grind
theorem IsGcd.scl {A B g : List Rat} {c : Rat} (hc : c ≠ 0) (h : IsGcd A (sclQ B c) g) : IsGcd A B g:=by
 obtain ⟨u,v,nu,nv,hco⟩:=h.co
 obtain ⟨m,nm,hm⟩:=h.dq
 refine ⟨h.ng,h.mo,h.dp,⟨sclQ m (1 / c),nf_scl _ _,fun x => ?_⟩,u,sclQ v c,nu,nf_scl _ _,fun x => ?_⟩
 ·have:=hm x
  rw [ev_scl] at this
  rw [ev_scl];grind
 ·rw [hco,ev_scl,ev_scl];grind
theorem IsGcd.mon {A B g : List Rat} (nB : Nf B) (h : IsGcd A (monQ B) g) : IsGcd A B g:=by
 by_cases h0 : B = []
 ·subst h0;exact h
 ·exact IsGcd.scl (one_div_ne (ld_ne nB h0)) h
theorem IsGcd.fin {A : List Rat} (nA : Nf A) : IsGcd A [] (monQ A):=by
 refine ⟨nf_mon _,?_,⟨trimQ [ld A],nf_trim _,fun x => ?_⟩,⟨[],nf_nil,fun x => by rw [evQ_nil];grind⟩,trimQ [1 / ld A],[],nf_trim _,nf_nil,fun x => ?_⟩
 ·by_cases h0 : A = []
  ·left;rw [h0];rfl
  ·right;exact mon_ld nA h0
 ·have:=congrArg (fun l => evQ l x) (mon_back nA)
  simp only [ev_scl] at this
  rw [ev_trim,← this];simp only [evQ];grind
 ·rw [monQ,ev_scl,ev_trim];simp only [evQ];grind
theorem gcd_ex : ∀ (n : Nat) (P Q : List Rat),Q.length ≤ n → Nf P → Nf Q → ∃ g,IsGcd P Q g
 | 0,P,Q,h,nP,nQ => by
  obtain rfl : Q = []:=List.length_eq_zero_iff.1 (by omega)
  exact ⟨_,IsGcd.fin nP⟩
 | n + 1,P,Q,h,nP,nQ => by
  by_cases h0 : Q = []
  ·subst h0;exact ⟨_,IsGcd.fin nP⟩
  ·have hd:=dvSpec nQ h0 P
   obtain ⟨g,hg⟩:=gcd_ex n Q (remQ P Q) (by have:=hd.lt;omega) nQ hd.nr
   exact ⟨g,hg.step hd⟩
def gS (e r L : Nat) : Nat:=1 + r + e + (e + r + 3) * (2 * L)
theorem Ch.sz {P Q A B U0 V0 U1 V1 : List Rat} {δ : Rat} (h : Ch P Q A B U0 V0 U1 V1 δ) (nP : Nf P) (hB : B ≠ []) {e r L : Nat} (hP : Sz e P) (hQ : Sz e Q) (hL : P.length ≤ L) (hr : L ≤ 2 ^ r) :
  Sz (gS e r L) (monQ B) ∧ Sz (gS e r L) (sclQ U1 (1 / ld B)) ∧ Sz (gS e r L) (sclQ V1 (1 / ld B)):=by
 obtain ⟨Kp,k1,hP⟩:=hP
 obtain ⟨Kq,k2,hQ⟩:=hQ
 have hC : (4 * L * 2 ^ e + 1) ^ (2 * L) ≤ 2 ^ ((e + r + 3) * (2 * L)):=by
  refine pp ?_ _
  have h1 : 4 * L * 2 ^ e ≤ 2 ^ (2 + r + e):=pm (by rw [Nat.pow_add];exact Nat.mul_le_mul (by omega) hr) (Nat.le_refl _)
  have h2:=pa h1 (Nat.one_le_two_pow (n:=2 + r + e))
  rwa [show 2 + r + e + 1 = e + r + 3 by omega] at h2
 obtain ⟨E,h0,h1,h2,h3,h4⟩:=h.small nP hB hP hQ (Nat.pow_pos (by omega)) hL hC (G:=2 ^ gS e r L) (by
  have h1 : 2 * L ≤ 2 ^ (1 + r):=by rw [Nat.pow_add];exact Nat.mul_le_mul (by omega) hr
  refine pu (pm h1 (pm (Nat.le_refl _) (Nat.le_refl _))) ?_
  unfold gS;omega) (pu (pm k1 (Nat.le_refl _)) (by unfold gS;omega)) (pu (pm k2 (Nat.le_refl _)) (by unfold gS;omega))
 exact ⟨⟨E,h1,h2⟩,⟨E,h1,h3⟩,⟨E,h1,h4⟩⟩
end Go.Proofs.YtkidkimjdiichaaGreat.M
end

section
namespace Go.Proofs.YtkidkimjdiichaaGreat.M
open Go.RowKit
set_option linter.unusedVariables false
theorem dv_con {A B : List Rat} (nA : Nf A) (nB : Nf B) (hB0 : B ≠ []) {k e b n S : Nat} (hA : Sz k A) (hB : Sz e (monQ B)) (hb : Bq b (ld B)) (hS : A.length + 1 ≤ S + B.length) (hS1 : S ≤ 1000) (hb10 : 10 ≤ b) (hn : k + (e + 1) * S + b < n) (hn2 : e + b < n) (hbig : n ≤ big)
  (h1 : A.length ≤ 1000000) (h2 : B.length ≤ 1000000) :
  Con Tryz.prog AN 25 [pI A,pI B] (.tup [pI (quoQ A B),pI (remQ A B),flt 0 0]) ∧ Con Tryz.prog AN 28 [LZ A,LZ B] (.tup [LZ (quoQ A B),LZ (remQ A B)]):=by
 by_cases hlen : B.length ≤ A.length
 ·obtain ⟨S0,hS0⟩ : ∃ S0,S0 = A.length + 1 - B.length:=⟨_,rfl⟩
  have hB':=hB
  obtain ⟨K,g1,g2⟩:=hA
  obtain ⟨E,g3,g4⟩:=hB
  have hBl:=List.length_pos_iff.2 hB0
  have h0:=ld_ne nB hB0
  have hm : (e + 1) * S0 ≤ (e + 1) * S:=Nat.mul_le_mul_left _ (by omega)
  have hD : DivB A B K (2 ^ k) E (2 ^ e) b n S0:=by
   refine ⟨g2,g4.pos,fun j => ?_,hb,?_,by omega,?_,?_,hbig⟩
   ·have:=g4 j
    rwa [monQ,cf_scl,show cf B j * (1 / ld B) = cf B j / ld B by grind] at this
   ·rw [← mon_back nB]
    exact (hB'.scl hb).bl hn2
   ·exact p2 (pm (pm g1 (pp (pu g3 (show e ≤ e + 1 by omega)) _)) (Nat.le_refl _)) (by omega)
   ·exact p2 (pm (pm (Nat.le_refl _) (pp (pa g3 (Nat.le_refl _)) _)) (Nat.le_refl _)) (by omega)
  refine ⟨div_con A B nB hB0 hD (by omega) h1 h2,pdiv_con A B nA nB hB0 hD ?_ (by omega) h1 h2 (by omega)⟩
  exact Nat.le_trans (show S0 + 2 ≤ 2 ^ 10 by omega) (Nat.pow_le_pow_right (by omega) hb10)
 ·obtain ⟨e1,e2⟩:=nil_div nA nB (by omega)
  exact ⟨divs_con A B nA nB (by omega) h2,pdivs_con A B nA nB (by omega) h2⟩
structure GI (P Q : List Rat) (e r L : Nat) (A B : List Rat) : Prop where
 nA : Nf A
 nB : Nf B
 lA : A.length ≤ L
 lB : B.length ≤ L
 sA : Sz (gS e r L) A
 sB : Sz (gS e r L) B
 dB : Bq (e + 1) (ld B)
 gc : ∀ g,IsGcd A B g → IsGcd P Q g
 ch : (A.length < B.length ∧ Sz e A ∧ Sz e B) ∨ ∃ T1 T2,Nf T1 ∧ Nf T2 ∧ Sz e T1 ∧ Sz e T2 ∧ T1.length ≤ L ∧ T2.length ≤ T1.length ∧ ((A = T1 ∧ B = T2) ∨ ∃ U0 V0 U1 V1 δ,Ch T1 T2 A B U0 V0 U1 V1 δ)
theorem gS_le (e r L : Nat) : e + 1 ≤ gS e r L:=by unfold gS;omega
theorem GI.start {P Q : List Rat} (nP : Nf P) (nQ : Nf Q) {e r L : Nat} (hP : Sz e P) (hQ : Sz e Q) (h1 : P.length ≤ L) (h2 : Q.length ≤ L) : GI P Q e r L P Q:=by
 have hg:=gS_le e r L
 refine ⟨nP,nQ,h1,h2,hP.mono (by omega),hQ.mono (by omega),hQ.ld,fun g h => h,?_⟩
 by_cases h : P.length < Q.length
 ·exact .inl ⟨h,hP,hQ⟩
 ·exact .inr ⟨P,Q,nP,nQ,hP,hQ,h1,by omega,.inl ⟨rfl,rfl⟩⟩
theorem bq_1 (m : Nat) (h : 0 < m) : Bq m 1:=⟨by simpa using Nat.one_lt_two_pow (by omega),by simpa using Nat.one_lt_two_pow (by omega)⟩
theorem ld_mon_bq {l : List Rat} (nl : Nf l) (m : Nat) (h : 0 < m) : Bq m (ld (monQ l)):=by
 by_cases h0 : l = []
 ·subst h0;exact Bq.zero m h
 ·rw [mon_ld nl h0];exact bq_1 m h
theorem Ch.mon {P Q A B U0 V0 U1 V1 : List Rat} {δ : Rat} (h : Ch P Q A B U0 V0 U1 V1 δ) : ∃ U1 V1 δ,Ch P Q A (monQ B) U0 V0 U1 V1 δ:=by
 by_cases h0 : B = []
 ·subst h0;exact ⟨_,_,_,h⟩
 ·exact ⟨_,_,_,h.scl (one_div_ne (ld_ne h.nB h0))⟩
theorem Ch.szm {P Q A B U0 V0 U1 V1 : List Rat} {δ : Rat} (h : Ch P Q A B U0 V0 U1 V1 δ) (nP : Nf P) {e r L : Nat} (hP : Sz e P) (hQ : Sz e Q) (hL : P.length ≤ L) (hr : L ≤ 2 ^ r) : Sz (gS e r L) (monQ B):=by
 by_cases h0 : B = []
 ·subst h0;exact Sz.nil _
 ·exact (h.sz nP h0 hP hQ hL hr).1
theorem GI.next {P Q A B : List Rat} {e r L : Nat} (h : GI P Q e r L A B) (hr : L ≤ 2 ^ r) (hB : B ≠ []) : GI P Q e r L B (monQ (remQ A B)):=by
 have hg:=gS_le e r L
 have hd:=dvSpec h.nB hB A
 have hlt:=hd.lt
 have hml:=mon_len_eq hd.nr
 have hlB:=h.lB
 have key : Sz (gS e r L) (monQ (remQ A B)) ∧ ((B.length < (monQ (remQ A B)).length ∧ Sz e B ∧ Sz e (monQ (remQ A B))) ∨ ∃ T1 T2,Nf T1 ∧ Nf T2 ∧ Sz e T1 ∧ Sz e T2 ∧ T1.length ≤ L ∧ T2.length ≤ T1.length ∧ ((B = T1 ∧ monQ (remQ A B) = T2) ∨ ∃ U0 V0 U1 V1 δ,Ch T1 T2 B (monQ (remQ A B)) U0 V0 U1 V1 δ)):=by
  rcases h.ch with ⟨k1,k2,k3⟩ | ⟨T1,T2,n1,n2,s1,s2,l1,l2,⟨e1,e2⟩ | ⟨U0,V0,U1,V1,δ,c⟩⟩
  ·have e2:=(nil_div h.nA h.nB k1).2
   have s:=k2.mon h.nA
   rw [e2]
   exact ⟨s.mono (by omega),.inr ⟨B,monQ A,h.nB,nf_mon _,k3,s,hlB,by have:=mon_len A;omega,.inl ⟨rfl,rfl⟩⟩⟩
  ·rw [e1,e2] at hd ⊢
   rw [e2] at hB
   have c:=Ch.start n1 n2 hB l2 hd
   obtain ⟨U1,V1,δ,c2⟩:=c.mon
   exact ⟨c.szm n1 s1 s2 l1 hr,.inr ⟨T1,T2,n1,n2,s1,s2,l1,l2,.inr ⟨_,_,_,_,_,c2⟩⟩⟩
  ·have c:=c.step hB hd
   obtain ⟨U1,V1,δ,c2⟩:=c.mon
   exact ⟨c.szm n1 s1 s2 l1 hr,.inr ⟨T1,T2,n1,n2,s1,s2,l1,l2,.inr ⟨_,_,_,_,_,c2⟩⟩⟩
 exact ⟨h.nB,nf_mon _,hlB,by omega,h.sB,key.1,ld_mon_bq hd.nr _ (by omega),fun g hg => h.gc g ((IsGcd.mon hd.nr hg).step hd),key.2⟩
def xS (e r L : Nat) : Nat:=(gS e r L + 1) * (4 * (L + 2))
structure BI (P Q : List Rat) (e r L : Nat) (A B U0 U1 : List Rat) : Prop where
 nA : Nf A
 nB : Nf B
 n0 : Nf U0
 n1 : Nf U1
 lA : A.length ≤ L
 lB : B.length ≤ L
 sA : Sz (gS e r L) (monQ A)
 sB : Sz (gS e r L) (monQ B)
 dA : Bq ((gS e r L + 1) * (4 * (L + 2 - A.length))) (ld A)
 dB : Bq ((gS e r L + 1) * (4 * (L + 2 - B.length))) (ld B)
 s0 : Sz (gS e r L + xS e r L) U0
 s1 : B ≠ [] → Sz (gS e r L + xS e r L) U1
 l0 : U0.length ≤ 1 + 2 * (L + 1 - A.length)
 l1 : U1.length ≤ 1 + 2 * (L + 1 - A.length)
 gc : ∀ g,IsGcd A B g → IsGcd P Q g
 co : ∃ V,Nf V ∧ ∀ x,evQ A x = evQ U0 x * evQ P x + evQ V x * evQ Q x
 ne : B ≠ [] ∨ A ≠ []
 ch : (A = P ∧ B = Q ∧ U0 = [1] ∧ U1 = []) ∨ (P.length < Q.length ∧ A = Q ∧ B = P ∧ U0 = [] ∧ U1 = [1]) ∨ (∃ V0 V1 δ,Ch P Q A B U0 V0 U1 V1 δ) ∨ (∃ V0 V1 δ,Ch Q P A B V0 U0 V1 U1 δ)
theorem scl_back {l : List Rat} {c : Rat} (nl : Nf l) (hc : c ≠ 0) : sclQ (sclQ l (1 / c)) c = l:=nf_ext (nf_scl _ _) nl fun i => by rw [cf_scl,cf_scl];grind
theorem sz_one (k : Nat) : Sz k [1]:=⟨1,Nat.one_le_two_pow,fun i => by
 rw [cf_cons]
 cases i with
 | zero => exact (Db.ofInt 1).mono Nat.one_le_two_pow
 | succ i => exact Db.zero (by omega) _⟩
theorem dS_le {c L a : Nat} : c * (4 * (L + 2 - a)) ≤ c * (4 * (L + 2)):=Nat.mul_le_mul_left _ (by omega)
theorem BI.start {P Q : List Rat} (nP : Nf P) (nQ : Nf Q) {e r L : Nat} (hP : Sz e P) (hQ : Sz e Q) (h1 : P.length ≤ L) (h2 : Q.length ≤ L) (hQ0 : Q ≠ []) : BI P Q e r L P Q [1] []:=by
 have hg:=gS_le e r L
 have hd : ∀ a,a ≤ L → e + 1 ≤ (gS e r L + 1) * (4 * (L + 2 - a)):=fun a ha => Nat.le_trans (show e + 1 ≤ (gS e r L + 1) * 1 by omega) (Nat.mul_le_mul_left _ (by omega))
 exact ⟨nP,nQ,nf_1,nf_nil,h1,h2,(hP.mon nP).mono (by omega),(hQ.mon nQ).mono (by omega),hP.ld.mono (hd _ h1),hQ.ld.mono (hd _ h2),sz_one _,fun _ => Sz.nil _,by simp,by simp,
  fun g h => h,⟨[],nf_nil,fun x => by rw [ev_1,evQ_nil];grind⟩,.inl hQ0,.inl ⟨rfl,rfl,rfl,rfl⟩⟩
theorem BI.dR {P Q A B U0 U1 : List Rat} {e r L : Nat} (h : BI P Q e r L A B U0 U1) (hB : B ≠ []) : Bq ((gS e r L + 1) * (4 * (L + 2 - (remQ A B).length))) (ld (remQ A B)):=by
 have hlt:=(dvSpec h.nB hB A).lt
 have hlA:=h.lA
 have hlB:=h.lB
 by_cases hlen : A.length < B.length
 ·rw [(nil_div h.nA h.nB hlen).2];exact h.dA
 ·have h1:=(rem_scl (A:=monQ A) h.nB hB (ld A)).2
  rw [mon_back h.nA] at h1
  obtain ⟨s1,_⟩:=dv_sz h.nB hB h.sA h.sB h.dB (S:=A.length + 1 - B.length) (by rw [mon_len_eq h.nA];omega)
  have h2 : ld (remQ A B) = cf (remQ (monQ A) B) ((remQ A B).length - 1) * ld A:=by
   have:=cf_scl (remQ (monQ A) B) (ld A) ((remQ A B).length - 1)
   rw [← h1] at this
   exact this
  rw [h2]
  refine Bq.mono ((s1.bl (Nat.lt_add_one _) _).mul h.dA) ?_
  rw [show gS e r L + (gS e r L + 1) * (A.length + 1 - B.length) + 1 = (gS e r L + 1) * (A.length + 2 - B.length) by rw [show A.length + 2 - B.length = (A.length + 1 - B.length) + 1 by omega,Nat.mul_succ];omega,← Nat.mul_add]
  exact Nat.mul_le_mul_left _ (by omega)
theorem sub_nil0 (l : List Rat) (nl : Nf l) : subQ l [] = l:=nf_ext (nf_sub _ _) nl fun i => by rw [cf_sub,cf_nil];grind
theorem BI.next {P Q A B U0 U1 : List Rat} (nP : Nf P) (nQ : Nf Q) {e r L : Nat} (hP : Sz e P) (hQ : Sz e Q) (hLP : P.length ≤ L) (hLQ : Q.length ≤ L) (h : BI P Q e r L A B U0 U1) (hr : L ≤ 2 ^ r) (hB : B ≠ []) : BI P Q e r L B (remQ A B) U1 (subQ U0 (mulQ (quoQ A B) U1)):=by
 have hg:=gS_le e r L
 have hd:=dvSpec h.nB hB A
 have hlt:=hd.lt
 have hlA:=h.lA
 have hlB:=h.lB
 have hl0:=h.l0
 have hl1:=h.l1
 have hdR:=h.dR hB
 obtain ⟨V,nV,hV⟩:=h.co
 have key : (P.length < Q.length ∧ B = Q ∧ remQ A B = P ∧ U1 = [] ∧ subQ U0 (mulQ (quoQ A B) U1) = [1]) ∨ (∃ V0 V1 δ,Ch P Q B (remQ A B) U1 V0 (subQ U0 (mulQ (quoQ A B) U1)) V1 δ) ∨ (∃ V0 V1 δ,Ch Q P B (remQ A B) V0 U1 V1 (subQ U0 (mulQ (quoQ A B) U1)) δ):=by
  rcases h.ch with ⟨e1,e2,e3,e4⟩ | ⟨k,e1,e2,e3,e4⟩ | ⟨V0,V1,δ,c⟩ | ⟨V0,V1,δ,c⟩
  ·rw [e3,e4,mul_nil_r,sub_nil0 _ nf_1]
   rw [e1,e2] at hd ⊢
   rw [e2] at hB
   by_cases hlen : P.length < Q.length
   ·exact .inl ⟨hlen,rfl,(nil_div nP nQ hlen).2,rfl,rfl⟩
   ·exact .inr (.inl ⟨_,_,_,Ch.start nP nQ hB (by omega) hd⟩)
  ·rw [e3,e4]
   rw [e1,e2] at hd ⊢
   rw [e2] at hB
   have e5 : mulQ (quoQ Q P) [1] = quoQ Q P:=ev_nf (nf_mul _ _) hd.nq fun x => by rw [ev_mul,ev_1];grind
   rw [e5]
   exact .inr (.inr ⟨_,_,_,Ch.start nQ nP hB (by omega) hd⟩)
  ·exact .inr (.inl ⟨_,_,_,c.step hB hd⟩)
  ·exact .inr (.inr ⟨_,_,_,c.step hB hd⟩)
 have hR0 : remQ A B ≠ [] → ld (remQ A B) ≠ 0:=ld_ne hd.nr
 have hX : (gS e r L + 1) * (4 * (L + 2 - (remQ A B).length)) ≤ xS e r L:=dS_le
 have up : ∀ U : List Rat,Nf U → remQ A B ≠ [] → Sz (gS e r L) (sclQ U (1 / ld (remQ A B))) → Sz (gS e r L + xS e r L) U:=fun U nU h0 hs => by
  rw [← scl_back nU (hR0 h0)]
  exact (hs.scl hdR).mono (by omega)
 have sR : Sz (gS e r L) (monQ (remQ A B)) ∧ (remQ A B ≠ [] → Sz (gS e r L + xS e r L) (subQ U0 (mulQ (quoQ A B) U1))):=by
  rcases key with ⟨k,e1,e2,e3,e4⟩ | ⟨V0,V1,δ,c⟩ | ⟨V0,V1,δ,c⟩
  ·rw [e2,e4];exact ⟨(hP.mon nP).mono (by omega),fun _ => sz_one _⟩
  ·exact ⟨c.szm nP hP hQ hLP hr,fun h0 => up _ (nf_sub _ _) h0 (c.sz nP h0 hP hQ hLP hr).2.1⟩
  ·exact ⟨c.szm nQ hQ hP hLQ hr,fun h0 => up _ (nf_sub _ _) h0 (c.sz nQ h0 hQ hP hLQ hr).2.2⟩
 have hlen : U1.length ≤ 1 + 2 * (L + 1 - B.length) ∧ (subQ U0 (mulQ (quoQ A B) U1)).length ≤ 1 + 2 * (L + 1 - B.length):=by
  by_cases hl : A.length < B.length
  ·rcases key with ⟨k,e1,e2,e3,e4⟩ | ⟨V0,V1,δ,c⟩ | ⟨V0,V1,δ,c⟩
   ·rw [e4,e3];simp
   ·rcases h.ch with ⟨e1,e2,e3,e4⟩ | ⟨k,e1,e2,e3,e4⟩ | ⟨_,_,_,c2⟩ | ⟨_,_,_,c2⟩
    ·rw [e3,e4,mul_nil_r,sub_nil0 _ nf_1];simp
    ·rw [e1,e2] at hl;omega
    ·have:=c2.lt;omega
    ·have:=c2.lt;omega
   ·rcases h.ch with ⟨e1,e2,e3,e4⟩ | ⟨k,e1,e2,e3,e4⟩ | ⟨_,_,_,c2⟩ | ⟨_,_,_,c2⟩
    ·rw [e3,e4,mul_nil_r,sub_nil0 _ nf_1];simp
    ·rw [e1,e2] at hl;omega
    ·have:=c2.lt;omega
    ·have:=c2.lt;omega
  ·have h2:=sub_len U0 (mulQ (quoQ A B) U1)
   have h3:=mul_len_le (quoQ A B) U1
   have h4:=quo_len hd h.nA h.nB (by omega) hB
   exact ⟨by omega,by omega⟩
 refine ⟨h.nB,hd.nr,h.n1,nf_sub _ _,hlB,by omega,h.sB,sR.1,h.dB,hdR,h.s1 hB,sR.2,hlen.1,hlen.2,fun g hg => h.gc g (hg.step hd),?_,.inr hB,?_⟩
 ·rcases key with ⟨k,e1,e2,e3,e4⟩ | ⟨V0,V1,δ,c⟩ | ⟨V0,V1,δ,c⟩
  ·rw [e1,e3];exact ⟨[1],nf_1,fun x => by rw [evQ_nil,ev_1];grind⟩
  ·exact ⟨V0,c.nV0,c.a⟩
  ·exact ⟨V0,c.nU0,fun x => by rw [c.a];grind⟩
 ·rcases key with k | k | k
  ·exact .inr (.inl k)
  ·exact .inr (.inr (.inl k))
  ·exact .inr (.inr (.inr k))
end Go.Proofs.YtkidkimjdiichaaGreat.M
end

section
namespace Go.Proofs.YtkidkimjdiichaaGreat.M
open Go.RowKit
set_option linter.unusedVariables false
theorem bez_end {P Q g u0 m u v : List Rat} (nP : Nf P) (nQ : Nf Q) (hQ : Q ≠ []) (hg : IsGcd P Q g) (n0 : Nf u0) (hc : ∃ V,Nf V ∧ ∀ x,evQ g x = evQ u0 x * evQ P x + evQ V x * evQ Q x)
  (hm : m = quoQ Q g) (hu : u = remQ u0 m) (hv : v = quoQ (subQ g (mulQ u P)) Q) :
  g ≠ [] ∧ m ≠ [] ∧ Nf m ∧ Nf u ∧ Nf v ∧ u.length < m.length ∧ m.length + g.length = Q.length + 1 ∧ addQ (mulQ u P) (mulQ v Q) = g:=by
 obtain ⟨m0,hm0,nm,e1,hg0,hl⟩:=hg.dq.len hg.ng nQ hQ
 have hd : DivQ Q g m0 []:=⟨nm,nf_nil,fun x => by rw [e1,ev_mul,evQ_nil];grind,by have:=List.length_pos_iff.2 hg0;simpa using this⟩
 have hmm : m = m0:=hm.trans (div_eq hg.ng hd).1.symm
 rw [hmm] at hu ⊢
 have hdu:=dvSpec nm hm0 u0
 rw [← hu] at hdu
 obtain ⟨s,ns,hs⟩:=hg.dp
 obtain ⟨V,nV,hV⟩:=hc
 have hQx : ∀ x,evQ Q x = evQ m0 x * evQ g x:=fun x => by rw [e1,ev_mul]
 have hdv : DivQ (subQ g (mulQ u P)) Q (addQ (mulQ (quoQ u0 m0) s) V) []:=⟨nf_add _ _,nf_nil,fun x => by
  have h1:=hdu.eq x
  have h2:=hV x
  have h3:=hs x
  have h4:=hQx x
  rw [ev_sub,ev_mul,ev_add,ev_mul,evQ_nil]
  have h5 : evQ m0 x * evQ P x = evQ s x * evQ Q x:=by rw [h3,h4];grind
  have h6 : evQ u0 x * evQ P x = evQ (quoQ u0 m0) x * (evQ m0 x * evQ P x) + evQ u x * evQ P x:=by rw [h1];grind
  rw [h5] at h6
  rw [h2,h6];grind,by have:=List.length_pos_iff.2 hQ;simpa using this⟩
 have e2:=(div_eq nQ hdv).1
 rw [← hv] at e2
 have hlt : u.length < m0.length:=hdu.lt
 refine ⟨hg0,hm0,nm,hdu.nr,by rw [← e2];exact nf_add _ _,hlt,by omega,ev_nf (nf_add _ _) hg.ng fun x => ?_⟩
 have h7:=hdv.eq x
 rw [e2,ev_sub,ev_mul,evQ_nil] at h7
 rw [ev_add,ev_mul,ev_mul];grind
structure S12 (e n : Nat) : Prop where
 e10 : 10 ≤ e
 nn : 40000 * (e + 8) < n
 big : n ≤ big
theorem gS12 (e : Nat) : gS e 4 12 = e + 5 + (e + 7) * 24:=by unfold gS;omega
theorem xS12 (e : Nat) : xS e 4 12 = (gS e 4 12 + 1) * 56:=by unfold xS;omega
theorem BI.ldA {P Q A B U0 U1 : List Rat} {e r L : Nat} (h : BI P Q e r L A B U0 U1) : Bq (xS e r L) (ld A):=h.dA.mono dS_le
theorem BI.ldB {P Q A B U0 U1 : List Rat} {e r L : Nat} (h : BI P Q e r L A B U0 U1) : Bq (xS e r L) (ld B):=h.dB.mono dS_le
theorem BI.szA {P Q A B U0 U1 : List Rat} {e r L : Nat} (h : BI P Q e r L A B U0 U1) : Sz (gS e r L + xS e r L) A:=by
 rw [← mon_back h.nA]
 exact h.sA.scl h.ldA
theorem samez_con (l : List Rat) (n : Nat) (nl : Nf l) (bl : Bl n l) (hn : n ≤ big) (hn1 : 1 < n) (h1 : l.length ≤ 1000000) : Con Tryz.prog AN 21 [pI l,pI l] (.bool true):=by
 have:=same_con l l nl nl n bl bl (fun i => by rw [show cf l i - cf l i = 0 by grind];exact Bq.zero n (by omega)) hn hn1 h1 h1
 rwa [decide_eq_true (rfl : l = l)] at this
theorem mulz_con {l m : List Rat} {k j n : Nat} (hl : Sz k l) (hm : Sz j m) (h1 : l.length ≤ 1000) (h2 : m.length ≤ 1000) (hn : k + j + 10 < n) (hb : n ≤ big) : Con Tryz.prog AN 23 [pI l,pI m] (pI (mulQ l m)):=by
 have b1:=hl.bl (n:=n) (by omega)
 have b2:=hm.bl (n:=n) (by omega)
 obtain ⟨K,g1,g2⟩:=hl
 obtain ⟨M,g3,g4⟩:=hm
 refine mul_con l m (K * M) (2 ^ k * 2 ^ j) n b1 b2 (fun i t => (g2 i).mul (g4 t)) (p2 (pm g1 g3) (by omega)) ?_ hb (by omega) (by omega)
 exact p2 (pm (show l.length + 1 ≤ 2 ^ 10 by omega) (pm (Nat.le_refl _) (Nat.le_refl _))) (by omega)
theorem subz_con {l m : List Rat} {k j n : Nat} (hl : Sz k l) (hm : Sz j m) (h1 : l.length ≤ 1000) (h2 : m.length ≤ 1000) (hn : k + j + 1 < n) (hb : n ≤ big) : Con Tryz.prog AN 19 [pI l,pI m] (pI (subQ l m)):=
 sub_con l m n (hl.bl (by omega)) (hm.bl (by omega)) (fun i => by rw [← cf_sub];exact (hl.sub hm).bl (by omega) i) hb (by omega) (by omega) (by omega)
theorem addz_con {l m : List Rat} {k j n : Nat} (hl : Sz k l) (hm : Sz j m) (h1 : l.length ≤ 1000) (h2 : m.length ≤ 1000) (hn : k + j + 1 < n) (hb : n ≤ big) : Con Tryz.prog AN 17 [pI l,pI m] (pI (addQ l m)):=
 add_con l m n (hl.bl (by omega)) (hm.bl (by omega)) (fun i => by rw [← cf_add];exact (hl.add hm).bl (by omega) i) hb (by omega) (by omega)
theorem sclz_con {l : List Rat} {x : Rat} {k j n : Nat} (hl : Sz k l) (hx : Bq j x) (h1 : l.length ≤ 1000) (hn : k + j < n) (hb : n ≤ big) : Con Tryz.prog AN 47 [pI l,qI x] (pI (sclQ l x)):=
 scale_con l x n (hl.bl (by omega)) (hx.mono (by omega)) (fun i => by rw [← cf_scl];exact (hl.scl hx).bl (by omega) i) hb (by omega)
end Go.Proofs.YtkidkimjdiichaaGreat.M
end

section
namespace Go.Proofs.YtkidkimjdiichaaGreat.M
open Go.RowKit
set_option linter.unusedSimpArgs false
set_option linter.unusedVariables false
set_option linter.defProp false
theorem GI.div {P Q A B : List Rat} {e r L n : Nat} (h : GI P Q e r L A B) (hB : B ≠ []) (hL : L ≤ 900) (hn : 2 * (gS e r L + (gS e r L + 1) * (L + 1)) + 2 * gS e r L + 60 < n) (hb : n ≤ big) :
  (Con Tryz.prog AN 25 [pI A,pI B] (.tup [pI (quoQ A B),pI (remQ A B),flt 0 0]) ∧ Con Tryz.prog AN 28 [LZ A,LZ B] (.tup [LZ (quoQ A B),LZ (remQ A B)])) ∧
  (Con Tryz.prog AN 38 [pI (remQ A B)] (pI (monQ (remQ A B))) ∧ Con Tryz.prog AN 39 [LZ (remQ A B)] (LZ (monQ (remQ A B)))) ∧ (monQ (remQ A B)).length < B.length:=by
 have hg:=gS_le e r L
 have lA:=h.lA
 have lB:=h.lB
 have hd:=dvSpec h.nB hB A
 have hlt:=hd.lt
 obtain ⟨s1,_⟩:=dv_sz h.nB hB h.sA (h.sB.mon h.nB) h.dB (S:=L + 1) (by omega)
 have bR : Bl (gS e r L + (gS e r L + 1) * (L + 1) + 10) (remQ A B):=s1.bl (by omega)
 exact ⟨dv_con h.nA h.nB hB h.sA (h.sB.mon h.nB) (h.dB.mono (show e + 1 ≤ gS e r L + 10 by omega)) (S:=L + 1) (by omega) (by omega) (by omega) (n:=n) (by omega) (by omega) hb (by omega) (by omega),
  ⟨monic_con _ _ n hd.nr bR (by omega) (by omega) hb (by omega),pmonic_con _ _ n hd.nr bR (by omega) (by omega) hb (by omega)⟩,by rw [mon_len_eq hd.nr];exact hlt⟩
theorem GI.out {P Q A : List Rat} {e r L n : Nat} (h : GI P Q e r L A []) (hL : L ≤ 900) (hn : 2 * (gS e r L + (gS e r L + 1) * (L + 1)) + 2 * gS e r L + 60 < n) (hb : n ≤ big) {g : List Rat} (hg : IsGcd P Q g) :
  Con Tryz.prog AN 38 [pI A] (pI g) ∧ Con Tryz.prog AN 39 [LZ A] (LZ g):=by
 have lA:=h.lA
 have e1 : monQ A = g:=(h.gc _ (IsGcd.fin h.nA)).unique hg
 rw [← e1]
 have bA : Bl (gS e r L + 10) A:=h.sA.bl (by omega)
 exact ⟨monic_con _ _ n h.nA bA (by omega) (by omega) hb (by omega),pmonic_con _ _ n h.nA bA (by omega) (by omega) hb (by omega)⟩
set_option maxHeartbeats 4000000 in
theorem gcd_con (P Q : List Rat) (nP : Nf P) (nQ : Nf Q) {e r L n : Nat} (hP : Sz e P) (hQ : Sz e Q) (h1 : P.length ≤ L) (h2 : Q.length ≤ L) (hr : L ≤ 2 ^ r) (hL : L ≤ 900) (hn : 2 * (gS e r L + (gS e r L + 1) * (L + 1)) + 2 * gS e r L + 60 < n) (hb : n ≤ big) {g : List Rat} (hg : IsGcd P Q g) :
  Con Tryz.prog AN 57 [pI P,pI Q] (pI g):=by
 refine fn57.con rfl (by simp) ?_
 simp only [c57,c57_22,c57_1,l57_0,init2,cw,csW,cops,reduceCtorEq,Nat.reduceEqDiff]
 refine keep [2,3,4] ?_
 simp only [c57_21,c57_16,csW,reduceCtorEq,Nat.reduceEqDiff,cw]
 refine loop_of (ι:=List Rat × List Rat) (fun x => GI P Q e r L x.1 x.2) (fun x => ⟨look [(2,.ptr 2 0 0),(3,.ptr 3 0 0),(4,.ptr 4 0 0)],
  lookM [(2,⟨25,1,.box (.p (pI x.1)),false⟩),(3,⟨25,1,.box (.p (pI x.2)),false⟩),(4,⟨25,1,.box zPoly,false⟩)]⟩) (fun x => x.2.length) (P,Q) (GI.start nP nQ hP hQ h1 h2) (Sub.toG [2,3,4] [5,6,7] (by rfl) (by rfl) (by rfl) (by rfl)) ?_
 rintro ⟨A,B⟩ hs
 replace hs : GI P Q e r L A B:=hs
 by_cases hB : B = []
 ·have hI : ¬ (0 : Int) < (B.length : Int):=by rw [hB];simp
  have ho:=(GI.out (hB ▸ hs) hL hn hb hg).1
  simp only [c57_14,c57_5,c57_3,l57_2,cw,csW,cops,csP,Nat.reduceEqDiff,hI]
  refine keep [2,3,4,11] ?_
  simp only [c57_4,csW,Nat.reduceEqDiff,cw]
  refine keep [2,4] ?_
  simp only [c57_20,c57_19,l57_17,csW,Nat.reduceEqDiff,cw,cops,csP]
  refine ⟨_,ho,?_⟩
  simp only [l57_18,cops,csW,Nat.reduceEqDiff,csP]
  refine keep [4] ?_
  simp only [Ends,resD,resL,resV,csW,Nat.reduceEqDiff,csP]
 ·have hI : (0 : Int) < (B.length : Int):=by have:=List.length_pos_iff.2 hB;omega
  obtain ⟨⟨d1,d2⟩,⟨m1,m2⟩,hlt⟩:=hs.div hB hL hn hb
  simp only [c57_14,c57_5,c57_3,l57_2,cw,csW,cops,csP,Nat.reduceEqDiff,hI]
  refine keep [2,3,4,11] ?_
  simp only [c57_4,csW,Nat.reduceEqDiff,cw]
  refine keep [2,3,4] ?_
  simp only [c57_13,c57_12,c57_8,l57_6,csW,Nat.reduceEqDiff,cw,cops,csP]
  refine ⟨_,d1,?_⟩
  simp only [l57_7,csP,cops,csW,Nat.reduceEqDiff,Nat.reduceAdd]
  refine keep [2,3,4,6] ?_
  simp only [c57_11,l57_9,csW,Nat.reduceEqDiff,cw,cops,csP]
  refine ⟨_,m1,?_⟩
  simp only [l57_10,cops,csW,csP,Nat.reduceEqDiff]
  exact ⟨(B,monQ (remQ A B)),hs.next hr hB,(Sub.toG [2,3,4] [5,6,7] (by rfl) (by rfl) (by rfl) (by rfl)),hlt⟩
set_option maxHeartbeats 4000000 in
theorem pgcd_con (P Q : List Rat) (nP : Nf P) (nQ : Nf Q) {e r L n : Nat} (hP : Sz e P) (hQ : Sz e Q) (h1 : P.length ≤ L) (h2 : Q.length ≤ L) (hr : L ≤ 2 ^ r) (hL : L ≤ 900) (hn : 2 * (gS e r L + (gS e r L + 1) * (L + 1)) + 2 * gS e r L + 60 < n) (hb : n ≤ big) {g : List Rat} (hg : IsGcd P Q g) :
  Con Tryz.prog AN 55 [LZ P,LZ Q] (LZ g):=by
 refine fn55.con rfl (by simp) ?_
 simp only [c55,c55_22,c55_1,l55_0,init2,cw,csW,cops,reduceCtorEq,Nat.reduceEqDiff]
 refine keep [0,1] ?_
 simp only [c55_21,c55_16,csW,reduceCtorEq,Nat.reduceEqDiff,cw]
 refine loop_of (ι:=List Rat × List Rat) (fun x => GI P Q e r L x.1 x.2) (fun x => ⟨look [(0,.p (LZ x.1)),(1,.p (LZ x.2))],lookM []⟩) (fun x => x.2.length) (P,Q) (GI.start nP nQ hP hQ h1 h2) (Sub.rf _) ?_
 rintro ⟨A,B⟩ hs
 replace hs : GI P Q e r L A B:=hs
 by_cases hB : B = []
 ·have hI : ¬ (0 : Int) < (B.length : Int):=by rw [hB];simp
  have ho:=(GI.out (hB ▸ hs) hL hn hb hg).2
  simp only [c55_14,c55_5,c55_3,l55_2,cw,csW,cops,reduceCtorEq,Nat.reduceEqDiff,hI]
  refine keep [0,1,9] ?_
  simp only [c55_4,csW,reduceCtorEq,Nat.reduceEqDiff,cw]
  refine keep [0] ?_
  simp only [c55_20,c55_19,l55_17,csW,reduceCtorEq,cw,cops,Nat.reduceEqDiff]
  refine ⟨_,ho,?_⟩
  simp only [l55_18,cops,csW,reduceCtorEq,Nat.reduceEqDiff]
  refine keep [4] ?_
  simp only [Ends,resD,resL,resV,csW,reduceCtorEq,Nat.reduceEqDiff]
 ·have hI : (0 : Int) < (B.length : Int):=by have:=List.length_pos_iff.2 hB;omega
  obtain ⟨⟨d1,d2⟩,⟨m1,m2⟩,hlt⟩:=hs.div hB hL hn hb
  simp only [c55_14,c55_5,c55_3,l55_2,cw,csW,cops,reduceCtorEq,Nat.reduceEqDiff,hI]
  refine keep [0,1,9] ?_
  simp only [c55_4,csW,reduceCtorEq,Nat.reduceEqDiff,cw]
  refine keep [0,1] ?_
  simp only [c55_13,c55_12,c55_8,l55_6,csW,reduceCtorEq,Nat.reduceEqDiff,cw,cops]
  refine ⟨_,d2,?_⟩
  simp only [l55_7,cops,csW,reduceCtorEq,Nat.reduceEqDiff]
  refine keep [1,6] ?_
  simp only [c55_11,l55_9,csW,reduceCtorEq,Nat.reduceEqDiff,cw,cops]
  refine ⟨_,m2,?_⟩
  simp only [l55_10,cops,csW,Nat.reduceEqDiff,reduceCtorEq]
  exact ⟨(B,monQ (remQ A B)),hs.next hr hB,(Sub.toG [0,1] [] (by rfl) (by rfl) (by rfl) (by rfl)),hlt⟩
end Go.Proofs.YtkidkimjdiichaaGreat.M
end
