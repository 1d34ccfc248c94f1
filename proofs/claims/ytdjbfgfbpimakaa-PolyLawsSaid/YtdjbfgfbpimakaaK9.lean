/- Polynomials: texts; reading. Contracts of numbers: greatest divisors, quotients; fractions' parts. Polynomials: what all coefficients have in common: plain laws. -/
import Derived.Test.YtdjbfgfbpimakaaPoBx
import Derived.Test.YtdjbfgfbpimakaaK5
section
namespace Go.Proofs.Ytdjbfgfbpimakaa.M
open Go.RowKit
set_option linter.unusedSimpArgs false
set_option linter.unusedVariables false
set_option linter.defProp false
abbrev LS (T:Nat) (l:List (List UInt8)):D:=.list T 1 (l.map D.str)
theorem getD_s {l:List (List UInt8)} {i:Nat} (h:i<l.length):(l.map D.str).getD i default = .str (l.getD i []):=by simp[h]
theorem set_s (l:List (List UInt8)) (i:Nat) (x:List UInt8):(l.map D.str).set i (.str x)=(l.set i x).map D.str:=List.map_set.symm
theorem rep_s (n:Nat) (x:List UInt8):List.replicate n (D.str x)=(List.replicate n x).map D.str:=List.map_replicate.symm
theorem app_s (l:List (List UInt8)) (x:List UInt8):l.map D.str++[.str x]=(l++[x]).map D.str:=by simp
theorem take_s (l:List (List UInt8)) (n:Nat):(l.map D.str).take n=(l.take n).map D.str:=List.map_take.symm
def tabS (n:Nat) (f:Nat→List UInt8):List (List UInt8):=(List.range n).map f
theorem tabS_len (n:Nat) (f:Nat→List UInt8):(tabS n f).length=n:=by simp[tabS]
def partS (N:Nat) (f:Nat→List UInt8) (i:Nat):List (List UInt8):=tabS N fun j=>if j<i then f j else []
theorem partS_len (N:Nat) (f:Nat→List UInt8) (i:Nat):(partS N f i).length=N:=tabS_len _ _
theorem rep1_s (x:List UInt8):List.replicate 1 x=[x]:=rfl
theorem set0_s (x z:List UInt8) (l:List (List UInt8)):(z::l).set 0 x=x::l:=rfl
def csS:=And.intro @rep1_s (And.intro @set0_s (And.intro @set_s (And.intro @rep_s (And.intro @app_s (And.intro @take_s (And.intro @tabS_len (@partS_len)))))))
def csP:=And.intro csM (And.intro csQ (And.intro csS (And.intro @part_len (@tab_len))))
end Go.Proofs.Ytdjbfgfbpimakaa.M
end

section
namespace Go.Proofs.Ytdjbfgfbpimakaa.M
open Go.RowKit
set_option linter.unusedSimpArgs false
set_option linter.unusedVariables false
set_option linter.defProp false
theorem scl_tab {l:List Rat} {k:Rat} (nl:Nf l) (hk:k≠0):sclQ l k=tab l.length fun i=>cf l i*k:=by
 unfold sclQ
 refine trim_nf ?_
 rcases nl with rfl | nl
 ·exact nf_nil
 ·right
  rw[tab_len,cf_tab]
  split
  ·exact fun e=>(Rat.mul_eq_zero.1 e).elim nl hk
  ·rename_i h
   exact absurd (cf_ge (l:=l) (by omega)) nl
theorem scl_len_eq {l:List Rat} {k:Rat} (nl:Nf l) (hk:k≠0):(sclQ l k).length=l.length:=by rw[scl_tab nl hk,tab_len]
theorem cGcd (a b:Int) (n:Nat) (ba:Bt a n) (bb:Bt b n) (hn:n≤4147200000000):Con Try.prog AN 67 [encI a,encI b] (encI (Int.gcd a b)):=con2 fun base w v0 v1 hav h0 h1=>by
 obtain⟨x,rfl,hx⟩:=encI_V h0 (fsm9 ba hn)
 obtain⟨y,rfl,hy⟩:=encI_V h1 (fsm9 bb hn)
 exact (gcd_any x y a b w hx hy).mono fun e w' ⟨x,h1,h2,h3⟩=>⟨_,h1,fun _ hav=>V_encI h2 hav,h3⟩
theorem cDivI (a b:Int) (n:Nat) (ba:Bt a n) (bb:Bt b n) (hn:n≤4147200000000) (hb:b≠0):Con Try.prog AN 68 [encI a,encI b] (.tup [encI (a / b),encI (a % b),flt 0 0]):=con2 fun base w v0 v1 hav h0 h1=>by
 obtain⟨x,rfl,hx⟩:=encI_V h0 (fsm9 ba hn)
 obtain⟨y,rfl,hy⟩:=encI_V h1 (fsm9 bb hn)
 exact (div_any x y a b w hx hy hb).mono fun e w' ⟨p,q,h1,h2,h3,h4⟩=>⟨_,h1,fun _ hav=>tup3_V (V_encI h2 hav) (V_encI h3 hav) (V_flt _ _),h4⟩
theorem Bq.mul {n m:Nat} {x y:Rat} (hx:Bq n x) (hy:Bq m y):Bq (n+m) (x*y):=by
 refine ((Db.of_self x).mul (Db.of_self y)).Bq ?_ ?_
 ·rw[Nat.pow_add];exact Nat.mul_lt_mul'' hx.2 hy.2
 ·rw[Nat.pow_add];exact Nat.mul_lt_mul'' hx.1 hy.1
theorem Bq.inv {n:Nat} {x:Rat} (h:Bq n x):Bq n (1 / x):=by
 have h4:=h.1
 have h5:=h.2
 have e:1 / x=x⁻¹:=by rw[Rat.div_def,Rat.one_mul]
 rw[e]
 have hp:0<2^n:=Nat.pow_pos (by omega)
 constructor
 ·rw[Rat.num_inv,Int.natAbs_mul]
  rcases Int.lt_trichotomy x.num 0 with h6 | h6 | h6
  ·rw[Int.sign_eq_neg_one_of_neg h6];simp;omega
  ·rw[h6];simp;exact hp
  ·rw[Int.sign_eq_one_of_pos h6];simp;omega
 ·rw[Rat.den_inv]
  split
  ·exact Nat.lt_of_le_of_lt x.den_pos h5
  ·exact h4
end Go.Proofs.Ytdjbfgfbpimakaa.M
end

section
namespace Go.Proofs.Ytdjbfgfbpimakaa.M
set_option linter.unusedSimpArgs false
set_option linter.unusedVariables false
def gN (l:List Rat):Nat→Nat
 | 0=>0
 | n+1=>Nat.gcd (gN l n) (cf l n).num.natAbs
def lN (l:List Rat):Nat→Nat
 | 0=>1
 | n+1=>lN l n*((cf l n).den / Nat.gcd (lN l n) (cf l n).den)
def gP (l:List Rat) (L:Nat):Nat→Nat
 | 0=>0
 | n+1=>Nat.gcd (gP l L n) ((cf l n).num.natAbs*(L / (cf l n).den))
theorem lN_pos (l:List Rat):∀ n,0<lN l n
 | 0=>by simp[lN]
 | n+1=>Nat.mul_pos (lN_pos l n) (Nat.div_pos (Nat.gcd_le_right _ (cf l n).den_pos) (Nat.gcd_pos_of_pos_right _ (cf l n).den_pos))
theorem lN_dvd (l:List Rat) (n:Nat):lN l n∣lN l (n+1):=⟨_,rfl⟩
theorem lN_up (l:List Rat) {i n:Nat} (h:i≤n):lN l i∣lN l n:=by
 induction n with
 | zero=>rw[show i=0 by omega];exact Nat.dvd_refl _
 | succ n ih =>
  by_cases e:i=n+1
  ·rw[e];exact Nat.dvd_refl _
  ·exact Nat.dvd_trans (ih (by omega)) (lN_dvd l n)
theorem pair {G M a b:Nat} (hM:0<M) (hb:0<b) (h1:Nat.Coprime G M) (h2:Nat.Coprime a b) :
  b∣M*(b / Nat.gcd M b)∧Nat.Coprime (Nat.gcd G a) (M*(b / Nat.gcd M b))∧∀ L,M*(b / Nat.gcd M b)∣L→Nat.gcd (G*(L / M)) (a*(L / b))=Nat.gcd G a*(L / (M*(b / Nat.gcd M b))):=by
 obtain⟨M1,b1,hc,e1,e2⟩:=Nat.exists_coprime M b
 have he:0<Nat.gcd M b:=Nat.gcd_pos_of_pos_left _ hM
 generalize Nat.gcd M b=e at e1 e2 he
 subst e1 e2
 rw[Nat.mul_div_cancel _ he]
 have h3:Nat.Coprime G M1:=h1.coprime_dvd_right ⟨e,rfl⟩
 have h4:Nat.Coprime a b1:=h2.coprime_dvd_right ⟨e,rfl⟩
 have hM1:0<M1:=Nat.pos_of_mul_pos_right hM
 have hb1:0<b1:=Nat.pos_of_mul_pos_right hb
 refine⟨⟨M1,by simp only[Nat.mul_comm,Nat.mul_left_comm]⟩,?_,?_⟩
 ·exact Nat.Coprime.mul_right (h1.coprime_dvd_left (Nat.gcd_dvd_left G a)) (h4.coprime_dvd_left (Nat.gcd_dvd_right G a))
 ·rintro L ⟨m,rfl⟩
  have e1:M1*e*b1*m / (M1*e)=b1*m:=by rw[Nat.mul_assoc (M1*e),Nat.mul_div_cancel_left _ hM]
  have e2:M1*e*b1*m / (b1*e)=M1*m:=by rw[show M1*e*b1*m=b1*e*(M1*m) by simp only[Nat.mul_comm,Nat.mul_left_comm],Nat.mul_div_cancel_left _ hb]
  have e3:M1*e*b1*m / (M1*e*b1)=m:=Nat.mul_div_cancel_left _ (Nat.mul_pos hM hb1)
  rw[e1,e2,e3,←Nat.mul_assoc,←Nat.mul_assoc,Nat.gcd_mul_right]
  congr 1
  have h5:Nat.Coprime M1 (G*b1):=Nat.Coprime.mul_right h3.symm hc
  rw[Nat.Coprime.gcd_mul_right_cancel_right a h5,Nat.Coprime.gcd_mul_right_cancel G h4.symm]
theorem den_dvd (l:List Rat) (n:Nat):(cf l n).den∣lN l (n+1):=
 (pair (G:=1) (a:=(cf l n).num.natAbs) (lN_pos l n) (cf l n).den_pos (Nat.coprime_one_left _) (cf l n).reduced).1
theorem cont (l:List Rat):∀ n,Nat.Coprime (gN l n) (lN l n)∧∀ L,lN l n∣L→gP l L n=gN l n*(L / lN l n)
 | 0=>⟨by simp[gN,lN],fun L _=>by simp[gP,gN]⟩
 | n+1=>by
  obtain⟨h1,h2⟩:=cont l n
  obtain⟨-,p2,p3⟩:=pair (lN_pos l n) (cf l n).den_pos h1 (cf l n).reduced
  exact⟨p2,fun L hL=>by rw[gP,h2 L (Nat.dvd_trans (lN_dvd l n) hL)];exact p3 L hL⟩
theorem gP_all (l:List Rat) (n:Nat):gP l (lN l n) n=gN l n:=by
 rw[(cont l n).2 _ (Nat.dvd_refl _),Nat.div_self (lN_pos l n),Nat.mul_one]
theorem gN_lt {l:List Rat} {m:Nat} (h:Bl m l):∀ n,gN l n<2^m
 | 0=>Nat.pow_pos (by omega)
 | n+1=>by
  rw[gN]
  by_cases e:(cf l n).num.natAbs=0
  ·rw[e,Nat.gcd_zero_right];exact gN_lt h n
  ·exact Nat.lt_of_le_of_lt (Nat.gcd_le_right _ (by omega)) (h n).1
theorem lN_le {l:List Rat} {m:Nat} (h:Bl m l):∀ n,lN l n≤2^(m*n)
 | 0=>by simp[lN]
 | n+1=>by
  rw[lN,Nat.mul_succ,Nat.pow_add]
  exact Nat.mul_le_mul (lN_le h n) (Nat.le_trans (Nat.div_le_self _ _) (Nat.le_of_lt (h n).2))
theorem gP_le {l:List Rat} {m:Nat} (h:Bl m l) {i n:Nat} (hi:i≤n):gP l (lN l n) i≤2^m*2^(m*n):=by
 rw[(cont l i).2 _ (lN_up l hi)]
 exact Nat.mul_le_mul (Nat.le_of_lt (gN_lt h i)) (Nat.le_trans (Nat.div_le_self _ _) (lN_le h n))
theorem gN_ne {l:List Rat} (nl:Nf l) (h0:l≠[]):gN l l.length≠0:=by
 have h1:=ld_ne nl h0
 obtain⟨n,hn⟩:∃ n,l.length=n+1:=⟨l.length-1,by have:=List.length_pos_iff.2 h0;omega⟩
 rw[hn,gN]
 intro e
 have:=(Nat.gcd_eq_zero_iff.1 e).2
 have e2:ld l=cf l n:=by unfold ld;rw[hn];rfl
 rw[e2] at h1
 exact h1 (Rat.num_eq_zero.1 (by omega))
theorem num_den (x:Rat):x*((x.den:Nat):Rat)=((x.num:Int):Rat):=by
 have:=Rat.mkRat_self x
 rw[Rat.mkRat_eq_div] at this
 have hd:((x.den:Nat):Rat)≠0:=by rw[ne_eq,Rat.natCast_eq_zero_iff];exact x.den_nz
 have h2:=Rat.div_mul_cancel (a:=(x.num:Rat)) hd
 rw[this] at h2
 exact h2
theorem num_up {x:Rat} {L:Nat} (h:x.den∣L):x*(((L:Nat):Int):Rat)=((x.num*((L / x.den:Nat):Int):Int):Rat):=by
 obtain⟨m,rfl⟩:=h
 rw[Nat.mul_div_cancel_left m x.den_pos,Rat.intCast_natCast,Rat.natCast_mul,Rat.intCast_mul,Rat.intCast_natCast,←num_den,Rat.mul_assoc]
def kQ (l:List Rat):Rat:=if sgnQ (ld l)<0 then -(Rat.divInt (gN l l.length) (lN l l.length)) else Rat.divInt (gN l l.length) (lN l l.length)
def primQ (l:List Rat):List Rat:=sclQ l (1 / kQ l)
theorem kQ_nil:kQ []=0:=rfl
theorem prim_nil:primQ []=[]:=rfl
theorem nf_prim (l:List Rat):Nf (primQ l):=nf_scl _ _
theorem lN_rat (l:List Rat) (n:Nat):(((lN l n:Nat):Int):Rat)≠0:=by
 rw[Rat.intCast_natCast,ne_eq,Rat.natCast_eq_zero_iff];have:=lN_pos l n;omega
theorem gN_rat {l:List Rat} (nl:Nf l) (h0:l≠[]):(((gN l l.length:Nat):Int):Rat)≠0:=by
 rw[Rat.intCast_natCast,ne_eq,Rat.natCast_eq_zero_iff];exact gN_ne nl h0
theorem kQ_ne {l:List Rat} (nl:Nf l) (h0:l≠[]):kQ l≠0:=by
 have h1:=gN_rat nl h0
 have h2:=lN_rat l l.length
 unfold kQ
 rw[Rat.divInt_eq_div]
 split<;>grind
theorem prim_back {l:List Rat} (nl:Nf l):sclQ (primQ l) (kQ l)=l:=by
 by_cases h0:l=[]
 ·subst h0;rfl
 ·have h1:=kQ_ne nl h0
  refine nf_ext (nf_scl _ _) nl fun i => ?_
  rw[cf_scl,primQ,cf_scl];grind
end Go.Proofs.Ytdjbfgfbpimakaa.M
end
