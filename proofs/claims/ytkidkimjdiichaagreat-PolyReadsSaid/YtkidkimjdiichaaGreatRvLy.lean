/- Polynomials: what all coefficients have in common: plain laws. -/
import Derived.Test.YtkidkimjdiichaaGreatRvNy
namespace Go.Proofs.YtkidkimjdiichaaGreat.M
set_option linter.unusedSimpArgs false
set_option linter.unusedVariables false
def gN (l : List Rat) : Nat → Nat
 | 0 => 0
 | n + 1 => Nat.gcd (gN l n) (cf l n).num.natAbs
def lN (l : List Rat) : Nat → Nat
 | 0 => 1
 | n + 1 => lN l n * ((cf l n).den / Nat.gcd (lN l n) (cf l n).den)
def gP (l : List Rat) (L : Nat) : Nat → Nat
 | 0 => 0
 | n + 1 => Nat.gcd (gP l L n) ((cf l n).num.natAbs * (L / (cf l n).den))
theorem lN_pos (l : List Rat) : ∀ n,0 < lN l n
 | 0 => by simp [lN]
 | n + 1 => Nat.mul_pos (lN_pos l n) (Nat.div_pos (Nat.gcd_le_right _ (cf l n).den_pos) (Nat.gcd_pos_of_pos_right _ (cf l n).den_pos))
theorem lN_dvd (l : List Rat) (n : Nat) : lN l n ∣ lN l (n + 1):=⟨_,rfl⟩
theorem lN_up (l : List Rat) {i n : Nat} (h : i ≤ n) : lN l i ∣ lN l n:=by
 induction n with
 | zero => rw [show i = 0 by omega];exact Nat.dvd_refl _
 | succ n ih =>
  by_cases e : i = n + 1
  ·rw [e];exact Nat.dvd_refl _
  ·exact Nat.dvd_trans (ih (by omega)) (lN_dvd l n)
theorem pair {G M a b : Nat} (hM : 0 < M) (hb : 0 < b) (h1 : Nat.Coprime G M) (h2 : Nat.Coprime a b) :
  b ∣ M * (b / Nat.gcd M b) ∧ Nat.Coprime (Nat.gcd G a) (M * (b / Nat.gcd M b)) ∧ ∀ L,M * (b / Nat.gcd M b) ∣ L → Nat.gcd (G * (L / M)) (a * (L / b)) = Nat.gcd G a * (L / (M * (b / Nat.gcd M b))):=by
 obtain ⟨M1,b1,hc,e1,e2⟩:=Nat.exists_coprime M b
 have he : 0 < Nat.gcd M b:=Nat.gcd_pos_of_pos_left _ hM
 generalize Nat.gcd M b = e at e1 e2 he
 subst e1 e2
 rw [Nat.mul_div_cancel _ he]
 have h3 : Nat.Coprime G M1:=h1.coprime_dvd_right ⟨e,rfl⟩
 have h4 : Nat.Coprime a b1:=h2.coprime_dvd_right ⟨e,rfl⟩
 have hM1 : 0 < M1:=Nat.pos_of_mul_pos_right hM
 have hb1 : 0 < b1:=Nat.pos_of_mul_pos_right hb
 refine ⟨⟨M1,by simp only [Nat.mul_comm,Nat.mul_left_comm]⟩,?_,?_⟩
 ·exact Nat.Coprime.mul_right (h1.coprime_dvd_left (Nat.gcd_dvd_left G a)) (h4.coprime_dvd_left (Nat.gcd_dvd_right G a))
 ·rintro L ⟨m,rfl⟩
  have e1 : M1 * e * b1 * m / (M1 * e) = b1 * m:=by rw [Nat.mul_assoc (M1 * e),Nat.mul_div_cancel_left _ hM]
  have e2 : M1 * e * b1 * m / (b1 * e) = M1 * m:=by rw [show M1 * e * b1 * m = b1 * e * (M1 * m) by simp only [Nat.mul_comm,Nat.mul_left_comm],Nat.mul_div_cancel_left _ hb]
  have e3 : M1 * e * b1 * m / (M1 * e * b1) = m:=Nat.mul_div_cancel_left _ (Nat.mul_pos hM hb1)
  rw [e1,e2,e3,← Nat.mul_assoc,← Nat.mul_assoc,Nat.gcd_mul_right]
  congr 1
  have h5 : Nat.Coprime M1 (G * b1):=Nat.Coprime.mul_right h3.symm hc
  rw [Nat.Coprime.gcd_mul_right_cancel_right a h5,Nat.Coprime.gcd_mul_right_cancel G h4.symm]
theorem den_dvd (l : List Rat) (n : Nat) : (cf l n).den ∣ lN l (n + 1):=
 (pair (G:=1) (a:=(cf l n).num.natAbs) (lN_pos l n) (cf l n).den_pos (Nat.coprime_one_left _) (cf l n).reduced).1
theorem cont (l : List Rat) : ∀ n,Nat.Coprime (gN l n) (lN l n) ∧ ∀ L,lN l n ∣ L → gP l L n = gN l n * (L / lN l n)
 | 0 => ⟨by simp [gN,lN],fun L _ => by simp [gP,gN]⟩
 | n + 1 => by
  obtain ⟨h1,h2⟩:=cont l n
  obtain ⟨-,p2,p3⟩:=pair (lN_pos l n) (cf l n).den_pos h1 (cf l n).reduced
  exact ⟨p2,fun L hL => by rw [gP,h2 L (Nat.dvd_trans (lN_dvd l n) hL)];exact p3 L hL⟩
theorem gP_all (l : List Rat) (n : Nat) : gP l (lN l n) n = gN l n:=by
 rw [(cont l n).2 _ (Nat.dvd_refl _),Nat.div_self (lN_pos l n),Nat.mul_one]
theorem gN_lt {l : List Rat} {m : Nat} (h : Bl m l) : ∀ n,gN l n < 2 ^ m
 | 0 => Nat.pow_pos (by omega)
 | n + 1 => by
  rw [gN]
  by_cases e : (cf l n).num.natAbs = 0
  ·rw [e,Nat.gcd_zero_right];exact gN_lt h n
  ·exact Nat.lt_of_le_of_lt (Nat.gcd_le_right _ (by omega)) (h n).1
theorem lN_le {l : List Rat} {m : Nat} (h : Bl m l) : ∀ n,lN l n ≤ 2 ^ (m * n)
 | 0 => by simp [lN]
 | n + 1 => by
  rw [lN,Nat.mul_succ,Nat.pow_add]
  exact Nat.mul_le_mul (lN_le h n) (Nat.le_trans (Nat.div_le_self _ _) (Nat.le_of_lt (h n).2))
theorem gP_le {l : List Rat} {m : Nat} (h : Bl m l) {i n : Nat} (hi : i ≤ n) : gP l (lN l n) i ≤ 2 ^ m * 2 ^ (m * n):=by
 rw [(cont l i).2 _ (lN_up l hi)]
 exact Nat.mul_le_mul (Nat.le_of_lt (gN_lt h i)) (Nat.le_trans (Nat.div_le_self _ _) (lN_le h n))
theorem gN_ne {l : List Rat} (nl : Nf l) (h0 : l ≠ []) : gN l l.length ≠ 0:=by
 have h1:=ld_ne nl h0
 obtain ⟨n,hn⟩ : ∃ n,l.length = n + 1:=⟨l.length - 1,by have:=List.length_pos_iff.2 h0;omega⟩
 rw [hn,gN]
 intro e
 have:=(Nat.gcd_eq_zero_iff.1 e).2
 have e2 : ld l = cf l n:=by unfold ld;rw [hn];rfl
 rw [e2] at h1
 exact h1 (Rat.num_eq_zero.1 (by omega))
theorem num_den (x : Rat) : x * ((x.den : Nat) : Rat) = ((x.num : Int) : Rat):=by
 have:=Rat.mkRat_self x
 rw [Rat.mkRat_eq_div] at this
 have hd : ((x.den : Nat) : Rat) ≠ 0:=by rw [ne_eq,Rat.natCast_eq_zero_iff];exact x.den_nz
 have h2:=Rat.div_mul_cancel (a:=(x.num : Rat)) hd
 rw [this] at h2
 exact h2
theorem num_up {x : Rat} {L : Nat} (h : x.den ∣ L) : x * (((L : Nat) : Int) : Rat) = ((x.num * ((L / x.den : Nat) : Int) : Int) : Rat):=by
 obtain ⟨m,rfl⟩:=h
 rw [Nat.mul_div_cancel_left m x.den_pos,Rat.intCast_natCast,Rat.natCast_mul,Rat.intCast_mul,Rat.intCast_natCast,← num_den,Rat.mul_assoc]
theorem num_up_num {x : Rat} {L : Nat} (h : x.den ∣ L) : (x * (((L : Nat) : Int) : Rat)).num = x.num * ((L / x.den : Nat) : Int):=by rw [num_up h];rfl
theorem sgn_up {x : Rat} {L : Nat} (h : x.den ∣ L) (hL : 0 < L) : sgnQ (x * (((L : Nat) : Int) : Rat)) = sgnQ x:=by
 have h1 : 0 < L / x.den:=Nat.div_pos (Nat.le_of_dvd hL h) x.den_pos
 unfold sgnQ
 rw [num_up_num h]
 generalize x.num = a
 generalize L / x.den = b at h1
 have hb : (0 : Int) < (b : Int):=by omega
 unfold sgnZ
 rcases Int.lt_trichotomy a 0 with h2 | h2 | h2
 ·have:=Int.mul_neg_of_neg_of_pos h2 hb
  (repeat' split) <;> omega
 ·subst h2;simp
 ·have:=Int.mul_pos h2 hb
  (repeat' split) <;> omega
def kQ (l : List Rat) : Rat:=if sgnQ (ld l) < 0 then -(Rat.divInt (gN l l.length) (lN l l.length)) else Rat.divInt (gN l l.length) (lN l l.length)
def primQ (l : List Rat) : List Rat:=sclQ l (1 / kQ l)
theorem kQ_nil : kQ [] = 0:=rfl
theorem prim_nil : primQ [] = []:=rfl
theorem nf_prim (l : List Rat) : Nf (primQ l):=nf_scl _ _
theorem lN_rat (l : List Rat) (n : Nat) : (((lN l n : Nat) : Int) : Rat) ≠ 0:=by
 rw [Rat.intCast_natCast,ne_eq,Rat.natCast_eq_zero_iff];have:=lN_pos l n;omega
theorem gN_rat {l : List Rat} (nl : Nf l) (h0 : l ≠ []) : (((gN l l.length : Nat) : Int) : Rat) ≠ 0:=by
 rw [Rat.intCast_natCast,ne_eq,Rat.natCast_eq_zero_iff];exact gN_ne nl h0
theorem kQ_ne {l : List Rat} (nl : Nf l) (h0 : l ≠ []) : kQ l ≠ 0:=by
 have h1:=gN_rat nl h0
 have h2:=lN_rat l l.length
 unfold kQ
 rw [Rat.divInt_eq_div]
 split <;> grind
theorem prim_back {l : List Rat} (nl : Nf l) : sclQ (primQ l) (kQ l) = l:=by
 by_cases h0 : l = []
 ·subst h0;rfl
 ·have h1:=kQ_ne nl h0
  refine nf_ext (nf_scl _ _) nl fun i => ?_
  rw [cf_scl,primQ,cf_scl];grind
def gS (l : List Rat) : Int:=if sgnQ (ld l) < 0 then -(gN l l.length : Int) else (gN l l.length : Int)
theorem prim_ref {l : List Rat} (nl : Nf l) (h0 : l ≠ []) : sclQ (sclQ l (((lN l l.length : Nat) : Int) : Rat)) (Rat.divInt 1 (gS l)) = primQ l:=by
 have h1:=gN_rat nl h0
 have h2:=lN_rat l l.length
 refine nf_ext (nf_scl _ _) (nf_prim l) fun i => ?_
 rw [cf_scl,cf_scl,primQ,cf_scl]
 have : (((lN l l.length : Nat) : Int) : Rat) * Rat.divInt 1 (gS l) = 1 / kQ l:=by
  unfold gS kQ
  simp only [Rat.divInt_eq_div]
  split
  ·rw [Rat.intCast_neg];have e : ((1 : Int) : Rat) = 1:=rfl;rw [e];grind
  ·have e : ((1 : Int) : Rat) = 1:=rfl;rw [e];grind
 rw [Rat.mul_assoc,this]
theorem gS_ne {l : List Rat} (nl : Nf l) (h0 : l ≠ []) : gS l ≠ 0:=by
 have:=gN_ne nl h0
 unfold gS;split <;> omega
end Go.Proofs.YtkidkimjdiichaaGreat.M
