/- A fraction's text: plain laws. -/
import Derived.Test.YtdjbfgfbpimakaaFrFx
namespace Go.Proofs.Ytdjbfgfbpimakaa
theorem digRun_take {u:List UInt8}:digRun (u.take (digRun u))=digRun u:=by
 unfold digRun
 induction u with
 | nil=>rfl
 | cons c t ih =>
  by_cases h:isDig c=true
  ·rw[List.takeWhile_cons_of_pos h,List.length_cons,List.take_succ_cons,List.takeWhile_cons_of_pos h,List.length_cons,ih]
  ·rw[List.takeWhile_cons_of_neg h];rfl
theorem head_ok {t:List UInt8} (h:(numLen true t).2=true):numOk (t.take (numLen true t).1)=true:=by
 obtain⟨f,hf⟩:∃ f,f=(if true&&isNeg t then 1 else 0):=⟨_,rfl⟩
 by_cases h48:((t.drop f).head? == some 48)=true
 ·rw[numLen_zero hf.symm h48] at h ⊢
  by_cases hf1:f=1
  ·subst hf1;simp at h
  ·have hf0:f=0:=by rw[hf] at hf1 ⊢;split at hf1<;>simp_all
   subst hf0
   rw[List.drop_zero] at h48
   match t,h48 with
   | [],h48=>simp at h48
   | c::u,h48 =>
    have hc:c=48:=by simpa using h48
    subst hc
    simp
    decide
 ·have h48':((t.drop f).head? == some 48)=false:=by simpa using h48
  have hr:=numLen_run (sg:=true) hf.symm h48' rfl
  rw[hr] at h ⊢
  simp only[decide_eq_true_eq] at h
  have hd:0<digRun (t.drop f):=by omega
  obtain⟨d,hdd⟩:∃ d,d=digRun (t.drop f):=⟨_,rfl⟩
  rw[←hdd] at hd ⊢
  have hneg:isNeg (t.take (f+d))=isNeg t:=by
   unfold isNeg
   match t with
   | []=>simp
   | c::u =>
    obtain⟨k,hk⟩:∃ k,f+d=k+1:=⟨f+d-1,by omega⟩
    rw[hk];rfl
  have hdr:(t.take (f+d)).drop f=(t.drop f).take d:=by
   rw[List.drop_take]
   congr 1
   omega
  have h482:(((t.take (f+d)).drop f).head? == some 48)=false:=by
   rw[hdr]
   obtain⟨k,hk⟩:∃ k,d=k+1:=⟨d-1,by omega⟩
   rw[hk]
   cases hu:t.drop f with
   | nil=>rfl
   | cons c u=>rw[hu] at h48';exact h48'
  have hrun:digRun ((t.take (f+d)).drop f)=d:=by rw[hdr,hdd,digRun_take]
  have hr2:=numLen_run (sg:=true) (t:=t.take (f+d)) (f:=f) (by rw[hneg];exact hf.symm) h482 rfl
  rw[hrun] at hr2
  unfold numOk
  rw[hr2]
  simp
  omega
theorem tail_ok {u:List UInt8} (h:(numLen false u).2=true) (hl:u.length≤(numLen false u).1):numOk u=true∧u≠[48]:=by
 by_cases h48:((u.drop 0).head? == some 48)=true
 ·rw[numLen_zero (sg:=false) rfl h48] at h
  simp at h
 ·have h48':((u.drop 0).head? == some 48)=false:=by simpa using h48
  have hr:=numLen_run (sg:=false) (t:=u) (f:=0) rfl h48' rfl
  rw[hr] at h hl
  rw[List.drop_zero] at h hl h48'
  simp only[decide_eq_true_eq,Nat.zero_add] at h hl
  have hall:=digRun_all (l:=u) hl
  have hneg:isNeg u=false:=by
   match u,h with
   | [],h=>rfl
   | c::v,h =>
    have:=hall 0 (by simp)
    rw[byt_cons_zero] at this
    simp only[isNeg,List.head?_cons]
    rw[beq_eq_false_iff_ne]
    intro e
    injection e with e
    subst e
    simp at this
  refine⟨?_,fun e=>by subst e;simp at h48'⟩
  have hr2:=numLen_run (sg:=true) (t:=u) (f:=0) (by rw[hneg];rfl) (by rw[List.drop_zero];exact h48') rfl
  unfold numOk
  rw[hr2]
  simp
  omega
end Go.Proofs.Ytdjbfgfbpimakaa
