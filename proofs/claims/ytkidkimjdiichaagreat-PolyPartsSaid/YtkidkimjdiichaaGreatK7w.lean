/- NumFracs: the law's walk, in the small machine's words. Fractions as rationals: what the program and the reference reckon with them. -/
import Derived.Test.YtkidkimjdiichaaGreatFrMw
import Derived.Test.YtkidkimjdiichaaGreatK1w
section
namespace Go.Proofs.YtkidkimjdiichaaGreat.M
open Go.RowKit
set_option linter.unusedSimpArgs false
set_option linter.unusedVariables false
theorem frD_pos {a b:Int} (h:b≠0):0<frD a b:=by
 have hg:=gcd_ne0 (a:=a) h
 have hd:(Int.gcd a b:Int)*(b / (Int.gcd a b:Int))=b:=Int.mul_ediv_cancel' (Int.gcd_dvd_right ..)
 have hne:b / (Int.gcd a b:Int)≠0:=by
  intro e
  rw[e,Int.mul_zero] at hd
  exact h hd.symm
 unfold frD
 split<;>omega
theorem fracR_ok (t:List UInt8):0<(fracR t).2.1∧Bt (fracR t).1 4000∧Bt (fracR t).2.1 4000:=by
 unfold fracR
 split
 ·split
  ·rename_i h2
   split
   ·rename_i h3
    split
    ·exact⟨frD_pos (tail_ne h2.1 h2.2 h3.2),frN_bt (parseZ_bt _),frD_bt (parseZ_bt _)⟩
    ·exact⟨Int.zero_lt_one,bt_zero _,bt_one⟩
   ·exact⟨Int.zero_lt_one,bt_zero _,bt_one⟩
  ·exact⟨Int.zero_lt_one,bt_zero _,bt_one⟩
 ·split
  ·split
   ·exact⟨Int.zero_lt_one,parseZ_bt _,bt_one⟩
   ·exact⟨Int.zero_lt_one,bt_zero _,bt_one⟩
  ·exact⟨Int.zero_lt_one,bt_zero _,bt_one⟩
end Go.Proofs.YtkidkimjdiichaaGreat.M
end
section
namespace Go.Proofs.YtkidkimjdiichaaGreat.M
open Go.RowKit
set_option linter.unusedVariables false
set_option linter.unusedSimpArgs false
theorem gcd_pos' {a b:Int} (h:b≠0):(0:Int)<Int.gcd a b:=by
 have:Int.gcd a b≠0:=fun e=>h (Int.gcd_eq_zero_iff.1 e).2
 omega
theorem div_neg_iff {a b:Int} (h:b≠0):b / (Int.gcd a b:Int)<0↔b<0:=by
 have hg:=gcd_pos' (a:=a) h
 constructor
 ·intro hh
  rcases Int.lt_or_le b 0 with h1 | h1
  ·exact h1
  ·have:=Int.ediv_nonneg h1 (Int.le_of_lt hg);omega
 ·intro hh;exact Int.ediv_neg_of_neg_of_pos hh hg
theorem frN_rat {a b:Int} (h:b≠0):frN a b=(Rat.divInt a b).num:=by
 have hg:=gcd_pos' (a:=a) h
 have hd:(Int.gcd a b:Int)∣a:=Int.gcd_dvd_left ..
 unfold frN
 rw[Rat.num_divInt,Int.gcd_comm b a]
 by_cases hb:b<0
 ·rw[if_pos ((div_neg_iff h).2 hb),Int.sign_eq_neg_one_of_neg hb,Int.neg_mul,Int.one_mul,Int.neg_ediv_of_dvd hd]
 ·rw[if_neg (fun e=>hb ((div_neg_iff h).1 e)),Int.sign_eq_one_of_pos (by omega),Int.one_mul]
theorem frD_rat {a b:Int} (h:b≠0):frD a b=((Rat.divInt a b).den:Int):=by
 have hg:=gcd_pos' (a:=a) h
 have hd:(Int.gcd a b:Int)∣b:=Int.gcd_dvd_right ..
 unfold frD
 rw[Rat.den_divInt,if_neg h,Int.gcd_comm b a]
 by_cases hb:b<0
 ·rw[if_pos ((div_neg_iff h).2 hb),←Int.neg_ediv_of_dvd hd,Int.natCast_ediv]
  congr 1;omega
 ·rw[if_neg (fun e=>hb ((div_neg_iff h).1 e)),Int.natCast_ediv]
  congr 1;omega
theorem add_rat (x y:Rat):Rat.divInt (x.num*y.den+y.num*x.den) ((x.den:Int)*y.den)=x+y:=by
 rw[Rat.add_def',←Rat.divInt_ofNat,Int.natCast_mul]
theorem sub_rat (x y:Rat):Rat.divInt (x.num*y.den + -y.num*x.den) ((x.den:Int)*y.den)=x-y:=by
 rw[Rat.sub_eq_add_neg,Rat.add_def',←Rat.divInt_ofNat,Int.natCast_mul,Rat.neg_num,Rat.neg_den]
theorem mul_rat (x y:Rat):Rat.divInt (x.num*y.num) ((x.den:Int)*y.den)=x*y:=by
 rw[Rat.mul_def',←Rat.divInt_ofNat,Int.natCast_mul]
theorem div_rat (x y:Rat):Rat.divInt (x.num*y.den) ((x.den:Int)*y.num)=x / y:=by
 rw[Rat.div_def,Rat.inv_def,←Rat.divInt_mul_divInt,Rat.num_divInt_den]
theorem num_ne {x:Rat} (h:x≠0):x.num≠0:=fun e=>h (Rat.num_eq_zero.1 e)
theorem den_pos' (x:Rat):(0:Int)<x.den:=by have:=x.den_pos;omega
theorem Bq.n {n:Nat} {x:Rat} (h:Bq n x):Bt x.num n:=h.1
theorem Bq.d {n:Nat} {x:Rat} (h:Bq n x):Bt (x.den:Int) n:=by have:=h.2;unfold Bt;simpa using this
theorem Bq.of {n:Nat} {x:Rat} (h1:Bt x.num n) (h2:Bt (x.den:Int) n):Bq n x:=⟨h1,by unfold Bt at h2;simpa using h2⟩
def qI (x:Rat):D:=encFI x.num x.den
def qZ (x:Rat):D:=encFZ x.num x.den
theorem qI_of {a b:Int} (h:b≠0):encFI (frN a b) (frD a b)=qI (Rat.divInt a b):=by rw[frN_rat h,frD_rat h];rfl
theorem qZ_of {a b:Int} (h:b≠0):encFZ (frN a b) (frD a b)=qZ (Rat.divInt a b):=by rw[frN_rat h,frD_rat h];rfl
theorem mul_ne {x y:Rat}:((x.den:Int)*y.den)≠0:=Int.ne_of_gt (Int.mul_pos (den_pos' x) (den_pos' y))
theorem muln_ne {x y:Rat} (h:y≠0):((x.den:Int)*y.num)≠0:=fun e=>by
 rcases Int.mul_eq_zero.1 e with h1 | h1
 ·have:=den_pos' x;omega
 ·exact num_ne h h1
def sgnQ (x:Rat):Int:=sgnZ x.num
theorem sgnQ_0 {x:Rat}:sgnQ x=0↔x=0:=by
 unfold sgnQ sgnZ
 rw[←Rat.num_eq_zero]
 (repeat' split)<;>omega
section
variable (x y:Rat) (n:Nat) (hx:Bq n x) (hy:Bq n y) (hn:n≤2048000000000)
include hx hy hn
theorem qAdd:Con Tryz.prog AN 106 [qI x,qI y] (qI (x+y)):=by
 have h:=cAdd x.num x.den y.num y.den n hx.n hx.d hy.n hy.d hn (den_pos' x) (den_pos' y)
 rw[qI_of mul_ne,add_rat] at h;exact h
theorem qSub:Con Tryz.prog AN 113 [qI x,qI y] (qI (x-y)):=by
 have h:=cSub x.num x.den y.num y.den n hx.n hx.d hy.n hy.d hn (den_pos' x) (den_pos' y)
 rw[qI_of mul_ne,sub_rat] at h;exact h
theorem qMul:Con Tryz.prog AN 111 [qI x,qI y] (qI (x*y)):=by
 have h:=cMul x.num x.den y.num y.den n hx.n hx.d hy.n hy.d hn (den_pos' x) (den_pos' y)
 rw[qI_of mul_ne,mul_rat] at h;exact h
theorem qQuo (h0:y≠0):Con Tryz.prog AN 112 [qI x,qI y] (.tup [qI (x / y),flt 0 0]):=by
 have h:=cQuo x.num x.den y.num y.den n hx.n hx.d hy.n hy.d hn (den_pos' x) (num_ne h0)
 rw[qI_of (muln_ne h0),div_rat] at h;exact h
theorem zAdd:Con Tryz.prog AN 107 [qZ x,qZ y] (qZ (x+y)):=by
 have h:=cAddZ x.num x.den y.num y.den n hx.n hx.d hy.n hy.d hn (den_pos' x) (den_pos' y)
 rw[qZ_of mul_ne,add_rat] at h;exact h
theorem zMul:Con Tryz.prog AN 79 [qZ x,qZ y] (qZ (x*y)):=by
 have h:=cMulZ x.num x.den y.num y.den n hx.n hx.d hy.n hy.d hn (den_pos' x) (den_pos' y)
 rw[qZ_of mul_ne,mul_rat] at h;exact h
theorem zQuo (h0:y≠0):Con Tryz.prog AN 114 [qZ x,qZ y] (.tup [qZ (x / y),flt 0 0]):=by
 have h:=cQuoZ x.num x.den y.num y.den n hx.n hx.d hy.n hy.d hn (den_pos' x) (num_ne h0)
 rw[qZ_of (muln_ne h0),div_rat] at h;exact h
end
section
variable (x:Rat) (n:Nat) (hx:Bq n x) (hn:n≤2048000000000)
include hx hn
theorem qNeg:Con Tryz.prog AN 134 [qI x] (qI (-x)):=cNeg x.num x.den n hx.n hx.d hn
theorem qSign:Con Tryz.prog AN 50 [qI x] (.int .i64 (sgnQ x)):=cSign x.num x.den n hx.n hx.d hn
theorem zSign:Con Tryz.prog AN 86 [qZ x] (.int .i64 (sgnQ x)):=cSignZ x.num x.den n hx.n hx.d hn
theorem qText:Con Tryz.prog AN 33 [qI x] (.str (frText x.num x.den)):=cText x.num x.den n hx.n hx.d hn
theorem zText:Con Tryz.prog AN 34 [qZ x] (.str (frText x.num x.den)):=cTextZ x.num x.den n hx.n hx.d hn
end
theorem qWhole (z:Int) (n:Nat) (hz:Bt z n) (hn:n≤2048000000000):Con Tryz.prog AN 109 [encI z] (qI (z:Rat)):=cWhole z n hz hn
theorem gcd_fr {a b:Int} (h:b≠0):∃ x:Rat,frN a b=x.num∧frD a b=(x.den:Int):=⟨Rat.divInt a b,frN_rat h,frD_rat h⟩
theorem fracR_rat (t:List UInt8):∃ x:Rat,(fracR t).1=x.num∧(fracR t).2.1=(x.den:Int)∧Bq 4000 x:=by
 have key:∃ x:Rat,(fracR t).1=x.num∧(fracR t).2.1=(x.den:Int):=by
  unfold fracR
  split
  ·split
   ·rename_i h2
    split
    ·rename_i h3
     split
     ·exact gcd_fr (tail_ne h2.1 h2.2 h3.2)
     ·exact⟨0,rfl,rfl⟩
    ·exact⟨0,rfl,rfl⟩
   ·exact⟨0,rfl,rfl⟩
  ·split
   ·split
    ·exact⟨(parseZ t:Rat),rfl,rfl⟩
    ·exact⟨0,rfl,rfl⟩
   ·exact⟨0,rfl,rfl⟩
 obtain⟨x,h1,h2⟩:=key
 obtain⟨_,b1,b2⟩:=fracR_ok t
 exact⟨x,h1,h2,Bq.of (h1 ▸ b1) (h2 ▸ b2)⟩
noncomputable def qR (t:List UInt8):Rat:=(fracR_rat t).choose
def cR (t:List UInt8):Int:=(fracR t).2.2.1
def aR (t:List UInt8):Int:=(fracR t).2.2.2
theorem qR_bq (t:List UInt8):Bq 4000 (qR t):=(fracR_rat t).choose_spec.2.2
theorem qParse (t:List UInt8) (hs:t.length≤9223372036854775807):Con Tryz.prog AN 42 [.str t] (.tup [qI (qR t),flt (cR t) (aR t)]):=by
 have h:=cParse t hs
 have e:encFI (fracR t).1 (fracR t).2.1=qI (qR t):=congr (congrArg encFI (fracR_rat t).choose_spec.1) (fracR_rat t).choose_spec.2.1
 rw[e] at h
 exact h
theorem zParse (t:List UInt8) (hs:t.length≤9223372036854775807):Con Tryz.prog AN 43 [.str t] (.tup [qZ (qR t),flt (cR t) (aR t)]):=by
 have h:=cFParse t hs
 have e:encFZ (fracR t).1 (fracR t).2.1=qZ (qR t):=congr (congrArg encFZ (fracR_rat t).choose_spec.1) (fracR_rat t).choose_spec.2.1
 rw[e] at h
 exact h
theorem one_qI (x:Rat):(qI x).one=false:=rfl
theorem one_qZ (x:Rat):(qZ x).one=false:=rfl
theorem isAgg_qI (x:Rat):(qI x).isAgg=true:=rfl
theorem isAgg_qZ (x:Rat):(qZ x).isAgg=true:=rfl
theorem cells_qI (x:Rat):(qI x).cells=[hI x.num,lI x.num,hI ((x.den:Int)-1),lI ((x.den:Int)-1)]:=rfl
theorem cells_qZ (x:Rat):(qZ x).cells=[hZ x.num,lZ x.num,hZ (x.den:Int),lZ (x.den:Int)]:=rfl
theorem fold_qI (x:Rat):D.agg [hI x.num,lI x.num,hI ((x.den:Int)-1),lI ((x.den:Int)-1)]=qI x:=rfl
theorem fold_qZ (x:Rat):D.agg [hZ x.num,lZ x.num,hZ (x.den:Int),lZ (x.den:Int)]=qZ x:=rfl
theorem qI_0:D.agg [.bool false,.list 247 1 [],.bool false,.list 247 1 []]=qI 0:=by
 have e:digs 4294967296 0=[]:=by rw[digs];simp
 unfold qI encFI
 rw[show ((0:Rat).num).natAbs=0 from rfl,show (((0:Rat).den:Int)-1).natAbs=0 from rfl,e]
 rfl
end Go.Proofs.YtkidkimjdiichaaGreat.M
end
