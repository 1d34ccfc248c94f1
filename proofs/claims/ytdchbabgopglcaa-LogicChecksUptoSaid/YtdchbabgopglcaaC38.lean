/- Lemmas. -/
import Derived.Test.YtdchbabgopglcaaC21
import Derived.Test.YtdchbabgopglcaaC18
import Derived.Test.YtdchbabgopglcaaC37
import Derived.Test.YtdchbabgopglcaaC1
set_option linter.unusedSimpArgs false
set_option linter.unusedVariables false
namespace Go.Proofs.Ytdchbabgopglcaa.M
open Go.RowKit
theorem QM {a b:Int} (h:b≠0):0<frD a b:=by
 have hg:=qx (a:=a) h;have hd:(Int.gcd a b:Int)*(b / (Int.gcd a b:Int))=b:=Int.mul_ediv_cancel' (Int.gcd_dvd_right ..);have hne:b / (Int.gcd a b:Int)≠0:=by
  intro e;rw[e,Int.mul_zero] at hd;exact h hd.symm
 unfold frD;split<;>omega
theorem QN (t:List UInt8):0<(bp t).2.1∧Bt (bp t).1 4000∧Bt (bp t).2.1 4000:=by
 unfold bp;split
 ·split
  ·rename_i h2;split
   ·rename_i h3;split
    ·exact⟨QM (jx h2.1 h2.2 h3.2),iN (cp _),iO (cp _)⟩
    ·exact⟨Int.zero_lt_one,fw _,gg⟩
   ·exact⟨Int.zero_lt_one,fw _,gg⟩
  ·exact⟨Int.zero_lt_one,fw _,gg⟩
 ·split
  ·split
   ·exact⟨Int.zero_lt_one,cp _,gg⟩
   ·exact⟨Int.zero_lt_one,fw _,gg⟩
  ·exact⟨Int.zero_lt_one,fw _,gg⟩
theorem kF {a b:Int} (h:b≠0):(0:Int)<Int.gcd a b:=by
 have:Int.gcd a b≠0:=fun e=>h (Int.gcd_eq_zero_iff.1 e).2
 omega
theorem jg {a b:Int} (h:b≠0):b / (Int.gcd a b:Int)<0↔b<0:=by
 have hg:=kF (a:=a) h;constructor
 ·intro hh;rcases Int.lt_or_le b 0 with h1 | h1
  ·exact h1
  ·have:=Int.ediv_nonneg h1 (Int.le_of_lt hg);omega
 ·intro hh;exact Int.ediv_neg_of_neg_of_pos hh hg
theorem ye {a b:Int} (h:b≠0):frN a b=(Rat.divInt a b).num:=by
 have hg:=kF (a:=a) h;have hd:(Int.gcd a b:Int)∣a:=Int.gcd_dvd_left ..;unfold frN;rw[Rat.num_divInt,Int.gcd_comm b a];by_cases hb:b<0
 ·rw[if_pos ((jg h).2 hb),Int.sign_eq_neg_one_of_neg hb,Int.neg_mul,Int.one_mul,Int.neg_ediv_of_dvd hd]
 ·rw[if_neg (fun e=>hb ((jg h).1 e)),Int.sign_eq_one_of_pos (by omega),Int.one_mul]
theorem yf {a b:Int} (h:b≠0):frD a b=((Rat.divInt a b).den:Int):=by
 have hg:=kF (a:=a) h;have hd:(Int.gcd a b:Int)∣b:=Int.gcd_dvd_right ..;unfold frD;rw[Rat.den_divInt,if_neg h,Int.gcd_comm b a];by_cases hb:b<0
 ·rw[if_pos ((jg h).2 hb),←Int.neg_ediv_of_dvd hd,Int.natCast_ediv];congr 1;omega
 ·rw[if_neg (fun e=>hb ((jg h).1 e)),Int.natCast_ediv];congr 1;omega
theorem Bq.of {n:Nat}{x:Rat} (h1:Bt x.num n) (h2:Bt (x.den:Int) n):Bq n x:=⟨h1,by unfold Bt at h2;simpa using h2⟩
def qI (x:Rat):D:=cT x.num x.den
def qZ (x:Rat):D:=cB x.num x.den
section
variable (x y:Rat) (n:Nat) (hx:Bq n x) (hy:Bq n y) (hn:n≤2048000000000)
include hx hy hn
end
section
variable (x:Rat) (n:Nat) (hx:Bq n x) (hn:n≤2048000000000)
include hx hn
end
theorem yg {a b:Int} (h:b≠0):∃x:Rat,frN a b=x.num∧frD a b=(x.den:Int):=⟨Rat.divInt a b,ye h,yf h⟩
theorem hH (t:List UInt8):∃x:Rat,(bp t).1=x.num∧(bp t).2.1=(x.den:Int)∧Bq 4000 x:=by
 have key:∃x:Rat,(bp t).1=x.num∧(bp t).2.1=(x.den:Int):=by
  unfold bp;split
  ·split
   ·rename_i h2;split
    ·rename_i h3;split
     ·exact yg (jx h2.1 h2.2 h3.2)
     ·exact⟨0,rfl,rfl⟩
    ·exact⟨0,rfl,rfl⟩
   ·exact⟨0,rfl,rfl⟩
  ·split
   ·split
    ·exact⟨(parseZ t:Rat),rfl,rfl⟩
    ·exact⟨0,rfl,rfl⟩
   ·exact⟨0,rfl,rfl⟩
 obtain⟨x,h1,h2⟩:=key;obtain⟨_,b1,b2⟩:=QN t;exact⟨x,h1,h2,Bq.of (h1 ▸ b1) (h2 ▸ b2)⟩
noncomputable def qR (t:List UInt8):Rat:=(hH t).choose
def cR (t:List UInt8):Int:=(bp t).2.2.1
def aR (t:List UInt8):Int:=(bp t).2.2.2
theorem yh (t:List UInt8) (hs:t.length≤9223372036854775807):Con Try.prog AN 29 [.str t] (.tup [qI (qR t),flt (cR t) (aR t)]):=by
 have h:=F1 t hs;have e:cT (bp t).1 (bp t).2.1=qI (qR t):=congr (congrArg cT (hH t).choose_spec.1) (hH t).choose_spec.2.1;rw[e] at h;exact h
theorem yi (t:List UInt8) (hs:t.length≤9223372036854775807):Con Try.prog AN 30 [.str t] (.tup [qZ (qR t),flt (cR t) (aR t)]):=by
 have h:=OS t hs;have e:cB (bp t).1 (bp t).2.1=qZ (qR t):=congr (congrArg cB (hH t).choose_spec.1) (hH t).choose_spec.2.1;rw[e] at h;exact h
end Go.Proofs.Ytdchbabgopglcaa.M
