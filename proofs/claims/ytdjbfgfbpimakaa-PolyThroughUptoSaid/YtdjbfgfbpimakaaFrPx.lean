/- A fraction's text: plain laws. -/
import Derived.Test.YtdjbfgfbpimakaaFrFx
namespace Go.Proofs.Ytdjbfgfbpimakaa
theorem tail_ok {u:List UInt8} (h:(numLen false u).2=true) (hl:u.length≤(numLen false u).1):numOk u=true∧u≠[48]:=by
 by_cases h48:((u.drop 0).head? == some 48)=true
 ·rw[numLen_zero (sg:=false) rfl h48] at h
  simp at h
 ·have h48':((u.drop 0).head? == some 48)=false:=by simpa using h48
  have hr:=numLen_run (sg:=false) (t:=u) (f:=0) rfl h48' rfl
  rw[hr] at h hl
  rw[List.drop_zero] at h hl h48'
  simp only[decide_eq_true_eq,Nat.zero_add] at h hl
  have hall:=digRun_all (l:=u) hl
  have hneg:isNeg u=false:=by
   match u,h with
   | [],h=>rfl
   | c::v,h =>
    have:=hall 0 (by simp)
    rw[byt_cons_zero] at this
    simp only[isNeg,List.head?_cons]
    rw[beq_eq_false_iff_ne]
    intro e
    injection e with e
    subst e
    simp at this
  refine⟨?_,fun e=>by subst e;simp at h48'⟩
  have hr2:=numLen_run (sg:=true) (t:=u) (f:=0) (by rw[hneg];rfl) (by rw[List.drop_zero];exact h48') rfl
  unfold numOk
  rw[hr2]
  simp
  omega
end Go.Proofs.Ytdjbfgfbpimakaa
