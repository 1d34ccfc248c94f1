/- Polynomials: the resultant walked. -/
import Derived.Test.YtdjbfgfbpimakaaK12
import Derived.Test.YtdjbfgfbpimakaaK11
namespace Go.Proofs.Ytdjbfgfbpimakaa.M
open Go.RowKit
set_option linter.unusedSimpArgs false
set_option linter.unusedVariables false
set_option linter.defProp false
def rD (e r L:Nat):Nat:=(gS e r L+1)*(4*(L+2))
theorem pow_lt (b:Nat):∀ s:Nat,∀ a:Nat,a<2^b→a^s<2^(b*s+1)
 | 0,a,h=>by rw[Nat.pow_zero,Nat.mul_zero];decide
 | s+1,a,h=>by
  have ih:=pow_lt b s a h
  rw[Nat.pow_succ,show b*(s+1)+1=(b*s+1)+b by rw[Nat.mul_succ];omega,Nat.pow_add]
  exact Nat.mul_lt_mul'' ih h
theorem pow_lt1 {b a s:Nat} (h:a<2^b) (hs:1≤s):a^s<2^(b*s):=by
 obtain⟨s,rfl⟩:∃ t,s=t+1:=⟨s-1,by omega⟩
 induction s with
 | zero=>rw[Nat.zero_add,Nat.pow_one,Nat.mul_one];exact h
 | succ s ih =>
  rw[Nat.pow_succ,Nat.mul_succ,Nat.pow_add 2]
  exact Nat.mul_lt_mul'' (ih (by omega)) h
theorem rat_pow_parts (x:Rat):∀ s:Nat,(x^s).num.natAbs≤x.num.natAbs^s∧(x^s).den≤x.den^s:=fun s=>by
 rw[Rat.num_pow,Rat.den_pow,Int.natAbs_pow]
 exact⟨Nat.le_refl _,Nat.le_refl _⟩
theorem Bq.pow {b:Nat} {x:Rat} (h:Bq b x) (s:Nat):Bq (b*s+1) (x^s):=
 ⟨Nat.lt_of_le_of_lt (rat_pow_parts x s).1 (pow_lt _ _ _ h.1),Nat.lt_of_le_of_lt (rat_pow_parts x s).2 (pow_lt _ _ _ h.2)⟩
theorem Bq.pow1 {b:Nat} {x:Rat} (h:Bq b x) {s:Nat} (hs:1≤s):Bq (b*s) (x^s):=
 ⟨Nat.lt_of_le_of_lt (rat_pow_parts x s).1 (pow_lt1 h.1 hs),Nat.lt_of_le_of_lt (rat_pow_parts x s).2 (pow_lt1 h.2 hs)⟩
structure RI (P Q:List Rat) (e r L dd:Nat) (A B:List Rat) (out:Rat):Prop where
 bi:∃ U0 U1,BI P Q e r L A B U0 U1
 a0:A≠[]
 b0:B≠[]
 ev:out*resQ A B=resQ P Q
 ob:Bq (1+dd*(2*L-A.length-B.length)) out
 hD:dd=rD e r L
theorem sg_bq {n:Nat} {x:Rat} (h:Bq n x) (a:Nat):Bq n (sg a*x):=by
 unfold sg
 split
 ·rw[show (-1:Rat)*x = -x by grind];exact h.neg
 ·rw[show (1:Rat)*x=x by grind];exact h
theorem sg_neg {a:Nat} (h:a % 2=1) (x:Rat):sg a*x = -x:=by unfold sg;rw[if_pos h];grind
theorem sg_pos {a:Nat} (h:¬ a % 2=1) (x:Rat):sg a*x=x:=by unfold sg;rw[if_neg h];grind
theorem RI.zero {P Q A B:List Rat} {e r L dd:Nat} {out:Rat} (h:RI P Q e r L dd A B out) (hle:B.length≤A.length) (h2:¬ B.length=1) (hR:remQ A B=[]):resQ P Q=0:=by
 obtain⟨U0,U1,b⟩:=h.bi
 have hd:=dvSpec b.nB h.b0 A
 have hl:=List.length_pos_iff.2 h.b0
 rw[hR] at hd
 rw[←h.ev,res_zero hd b.nB (by omega) hle];grind
structure ResS (P Q:List Rat) (e r L n:Nat):Prop where
 nP:Nf P
 nQ:Nf Q
 hP:Sz e P
 hQ:Sz e Q
 l1:P.length≤L
 l2:Q.length≤L
 hr:L≤2^r
 hL:L≤900
 L1:1≤L
 hn:2+rD e r L*(3*L+3)<n
 nb:n≤big
theorem tmod2 {a b:Nat}:Int.tmod ((a:Int)*(b:Int)) 2=(((a*b) % 2:Nat):Int):=by
 rw[←Int.natCast_mul];rfl
theorem par1 {a b:Nat} (h:a*b % 2=1):Int.tmod ((a:Int)*(b:Int)) 2=1:=by rw[tmod2,h];rfl
theorem par0 {a b:Nat} (h:¬ a*b % 2=1):¬ Int.tmod ((a:Int)*(b:Int)) 2=1:=by rw[tmod2];omega
theorem prII {a b L:Nat} (ha:a≤L) (hb:b≤L) (hL:L≤900):0≤(a:Int)*(b:Int)∧(a:Int)*(b:Int)≤810000:=by
 have h1:a*b≤900*900:=Nat.mul_le_mul (by omega) (by omega)
 have h2:(a:Int)*(b:Int)=((a*b:Nat):Int):=(Int.natCast_mul a b).symm
 omega
end Go.Proofs.Ytdjbfgfbpimakaa.M
