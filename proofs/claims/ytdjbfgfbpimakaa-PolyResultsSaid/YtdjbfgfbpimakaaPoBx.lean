/- Polynomials of the program and of the reference: sums, multiples, differences. -/
import Derived.Test.YtdjbfgfbpimakaaPoAx
namespace Go.Proofs.Ytdjbfgfbpimakaa.M
open Go.RowKit
set_option linter.unusedSimpArgs false
set_option linter.unusedVariables false
set_option linter.defProp false
def part (N:Nat) (f:Nat→Rat) (i:Nat):List Rat:=tab N fun j=>if j<i then f j else 0
theorem part_len (N:Nat) (f:Nat→Rat) (i:Nat):(part N f i).length=N:=tab_len _ _
theorem tab_succ (N:Nat) (f:Nat→Rat):tab N f++[f N]=tab (N+1) f:=by simp[tab,List.range_succ]
abbrev zPoly:AV:=.p (.agg [.list 39 4 []])
theorem cOf (n:Int) (hn:-9223372036854775808≤n∧n≤9223372036854775807):Con Try.prog AN 38 [.int .i64 n] (encI n):=con1 fun base w v1 hav h1=>by
 cases int_V h1
 exact (of_any n w hn).mono fun e w' ⟨x,h1,h2,h3⟩=>⟨_,h1,fun _ hav=>V_encI h2 hav,h3⟩
theorem bq_one {n:Nat} (hn:1<n):Bq n 1:=by
 have h1:(1:Nat)<2^n:=Nat.one_lt_two_pow (by omega)
 exact⟨h1,h1⟩
theorem Bq.neg {n:Nat} {x:Rat} (h:Bq n x):Bq n (-x):=⟨by rw[Rat.neg_num,Int.natAbs_neg];exact h.1,by rw[Rat.neg_den];exact h.2⟩
theorem scl_len (l:List Rat) (x:Rat):(sclQ l x).length≤l.length:=by unfold sclQ;exact Nat.le_trans (trim_len _) (by rw[tab_len];omega)
theorem add_len (l m:List Rat):(addQ l m).length≤max l.length m.length:=by unfold addQ;exact Nat.le_trans (trim_len _) (by rw[tab_len];omega)
theorem sub_len (l m:List Rat):(subQ l m).length≤max l.length m.length:=by unfold subQ;exact Nat.le_trans (trim_len _) (by rw[tab_len];omega)
end Go.Proofs.Ytdjbfgfbpimakaa.M
