/- Polynomials: texts; reading. Contracts of numbers: greatest divisors, quotients; fractions' parts. -/
import Derived.Test.YtdjbfgfbpimakaaPoBx
import Derived.Test.YtdjbfgfbpimakaaK5
section
namespace Go.Proofs.Ytdjbfgfbpimakaa.M
open Go.RowKit
set_option linter.unusedSimpArgs false
set_option linter.unusedVariables false
set_option linter.defProp false
abbrev LS (T:Nat) (l:List (List UInt8)):D:=.list T 1 (l.map D.str)
theorem getD_s {l:List (List UInt8)} {i:Nat} (h:i<l.length):(l.map D.str).getD i default = .str (l.getD i []):=by simp[h]
theorem set_s (l:List (List UInt8)) (i:Nat) (x:List UInt8):(l.map D.str).set i (.str x)=(l.set i x).map D.str:=List.map_set.symm
theorem rep_s (n:Nat) (x:List UInt8):List.replicate n (D.str x)=(List.replicate n x).map D.str:=List.map_replicate.symm
theorem app_s (l:List (List UInt8)) (x:List UInt8):l.map D.str++[.str x]=(l++[x]).map D.str:=by simp
theorem take_s (l:List (List UInt8)) (n:Nat):(l.map D.str).take n=(l.take n).map D.str:=List.map_take.symm
def tabS (n:Nat) (f:Nat→List UInt8):List (List UInt8):=(List.range n).map f
theorem tabS_len (n:Nat) (f:Nat→List UInt8):(tabS n f).length=n:=by simp[tabS]
def partS (N:Nat) (f:Nat→List UInt8) (i:Nat):List (List UInt8):=tabS N fun j=>if j<i then f j else []
theorem partS_len (N:Nat) (f:Nat→List UInt8) (i:Nat):(partS N f i).length=N:=tabS_len _ _
theorem rep1_s (x:List UInt8):List.replicate 1 x=[x]:=rfl
theorem set0_s (x z:List UInt8) (l:List (List UInt8)):(z::l).set 0 x=x::l:=rfl
def csS:=And.intro @rep1_s (And.intro @set0_s (And.intro @set_s (And.intro @rep_s (And.intro @app_s (And.intro @take_s (And.intro @tabS_len (@partS_len)))))))
def csP:=And.intro csM (And.intro csQ (And.intro csS (And.intro @part_len (@tab_len))))
end Go.Proofs.Ytdjbfgfbpimakaa.M
end

section
namespace Go.Proofs.Ytdjbfgfbpimakaa.M
open Go.RowKit
set_option linter.unusedSimpArgs false
set_option linter.unusedVariables false
set_option linter.defProp false
theorem scl_tab {l:List Rat} {k:Rat} (nl:Nf l) (hk:k≠0):sclQ l k=tab l.length fun i=>cf l i*k:=by
 unfold sclQ
 refine trim_nf ?_
 rcases nl with rfl | nl
 ·exact nf_nil
 ·right
  rw[tab_len,cf_tab]
  split
  ·exact fun e=>(Rat.mul_eq_zero.1 e).elim nl hk
  ·rename_i h
   exact absurd (cf_ge (l:=l) (by omega)) nl
theorem scl_len_eq {l:List Rat} {k:Rat} (nl:Nf l) (hk:k≠0):(sclQ l k).length=l.length:=by rw[scl_tab nl hk,tab_len]
theorem Bq.mul {n m:Nat} {x y:Rat} (hx:Bq n x) (hy:Bq m y):Bq (n+m) (x*y):=by
 refine ((Db.of_self x).mul (Db.of_self y)).Bq ?_ ?_
 ·rw[Nat.pow_add];exact Nat.mul_lt_mul'' hx.2 hy.2
 ·rw[Nat.pow_add];exact Nat.mul_lt_mul'' hx.1 hy.1
theorem Bq.inv {n:Nat} {x:Rat} (h:Bq n x):Bq n (1 / x):=by
 have h4:=h.1
 have h5:=h.2
 have e:1 / x=x⁻¹:=by rw[Rat.div_def,Rat.one_mul]
 rw[e]
 have hp:0<2^n:=Nat.pow_pos (by omega)
 constructor
 ·rw[Rat.num_inv,Int.natAbs_mul]
  rcases Int.lt_trichotomy x.num 0 with h6 | h6 | h6
  ·rw[Int.sign_eq_neg_one_of_neg h6];simp;omega
  ·rw[h6];simp;exact hp
  ·rw[Int.sign_eq_one_of_pos h6];simp;omega
 ·rw[Rat.den_inv]
  split
  ·exact Nat.lt_of_le_of_lt x.den_pos h5
  ·exact h4
end Go.Proofs.Ytdjbfgfbpimakaa.M
end
