/- Reading a number's text: number. -/
import Derived.Test.YtdjbfgfbpimakaaK1
namespace Go.Proofs.Ytdjbfgfbpimakaa
open Go.RowKit
def isDig (c:UInt8):Bool:=decide (48≤c.toNat)&&decide (c.toNat≤57)
def digRun (t:List UInt8):Nat:=(t.takeWhile isDig).length
def isNeg (t:List UInt8):Bool:=t.head? == some 45
def body (t:List UInt8):List UInt8:=if isNeg t then t.tail else t
theorem body_neg {t:List UInt8} (h:isNeg t=true):body t=t.tail:=by simp[body,h]
theorem body_pos {t:List UInt8} (h:isNeg t=false):body t=t:=by simp[body,h]
def numLen (signed:Bool) (t:List UInt8):Nat × Bool:=
 let f:=if signed&&isNeg t then 1 else 0
 if (t.drop f).head? == some 48 then (if !signed||f == 1 then (f,false) else (1,true))
 else (f+digRun (t.drop f),decide (0<digRun (t.drop f)))
theorem byt_cons_zero (c:UInt8) (t:List UInt8):byt (c::t) 0=c.toNat:=rfl
theorem byt_cons_succ (c:UInt8) (t:List UInt8) (i:Nat):byt (c::t) (i+1)=byt t i:=by simp[byt]
theorem byt_drop (t:List UInt8) (f i:Nat):byt (t.drop f) i=byt t (f+i):=by simp[byt,List.getElem?_drop]
theorem byt_lt {t:List UInt8} {i:Nat} (h:i<t.length):byt t i=t[i].toNat:=by simp[byt,h]
theorem digRun_stop {l:List UInt8} {m:Nat} (hm:m≤l.length) (h:∀ j,j<m→48≤byt l j∧byt l j≤57) (hs:m=l.length∨¬ (48≤byt l m∧byt l m≤57)):digRun l=m:=by
 induction l generalizing m with
 | nil=>simp at hm;subst hm;rfl
 | cons c t ih =>
  match m with
  | 0 =>
   rcases hs with hs | hs
   ·simp at hs
   ·rw[byt_cons_zero] at hs
    have:isDig c=false:=by unfold isDig;simpa using hs
    simp[digRun,this]
  | m+1 =>
   have h0:=h 0 (by omega)
   rw[byt_cons_zero] at h0
   have hd:isDig c=true:=by unfold isDig;simpa using h0
   have:=ih (m:=m) (by simpa using hm) (fun j hj=>by have:=h (j+1) (by omega);rwa[byt_cons_succ] at this) (by
    rcases hs with hs | hs
    ·left;simpa using hs
    ·right;rwa[byt_cons_succ] at hs)
   simp only[digRun] at this ⊢
   simp[hd,this]
theorem digRun_drop {t:List UInt8} {f k:Nat} (hf:f≤k) (hk:k≤t.length) (h:∀ j,f≤j→j<k→48≤byt t j∧byt t j≤57) (hs:k=t.length∨¬ (48≤byt t k∧byt t k≤57)):f+digRun (t.drop f)=k:=by
 rw[digRun_stop (l:=t.drop f) (m:=k-f) (by simp;omega) (fun j hj=>by rw[byt_drop];exact h _ (by omega) (by omega)) (by
  rcases hs with hs | hs
  ·left;simp;omega
  ·right;rw[byt_drop,show f+(k-f)=k by omega];exact hs)]
 omega
theorem head_beq (t:List UInt8) (c:UInt8) (h:1≤t.length):(t.take 1 == [c])=(t.head? == some c):=by
 match t,h with
 | x::r,_=>simp
set_option maxHeartbeats 400000 in
theorem hasPre (t:List UInt8) (c:UInt8) (w:World) (hs:t.length≤9223372036854775807) :
  Calls Try.prog 88 #[.string (bs t),.string ⟨#[c]⟩] w (fun e w'=>e = .returned (.bool (t.head? == some c))∧w=w'):=by
 by_cases h0:1≤t.length
 ·have H:=hd_ (head_beq t c h0)
  go_enter Try.func88,Try.ntmps88
  go_wp2
  go_ret
  exact⟨ret_b (by rw[←H.out]),rfl⟩
 ·have H:Hd ((t.head? == some c)=false):=hd_ (by
   have:t=[]:=List.eq_nil_of_length_eq_zero (by omega)
   subst this;rfl)
  go_enter Try.func88,Try.ntmps88
  go_wp2
  go_ret
  exact⟨ret_b H.out.symm,rfl⟩
set_option maxHeartbeats 400000 in
theorem trimPre (t:List UInt8) (w:World) (hs:t.length≤9223372036854775807) :
  Calls Try.prog 57 #[.string (bs t),.string ⟨#[45]⟩] w (fun e w'=>e = .returned (.string (bs (body t)))∧w=w'):=by
 by_cases h0:1≤t.length
 ·by_cases hn:isNeg t=true
  ·have h:(t.take 1 == [45])=true:=(head_beq t 45 h0).trans hn
   replace hn:=hd_ hn
   go_enter Try.func57,Try.ntmps57
   go_wp2
   go_ret
   exact⟨ret_s (by rw[body_neg hn.out]),rfl⟩
  ·have h:(t.take 1 == [45])=false:=(head_beq t 45 h0).trans (by simpa[isNeg] using hn)
   have hn:=hd_ (Bool.eq_false_iff.2 hn)
   go_enter Try.func57,Try.ntmps57
   go_wp2
   go_ret
   exact⟨ret_s (by rw[body_pos hn.out]),rfl⟩
 ·have h0':t=[]:=List.eq_nil_of_length_eq_zero (by omega)
  subst h0'
  go_enter Try.func57,Try.ntmps57
  go_wp2
  go_ret
  exact⟨rfl,rfl⟩
theorem ret2_ib {k:IntKind} {a b:Int} {p q:Bool} (h:a=b) (h':p=q):Ending.returned (.tuple #[.int k a,.bool p]) = .returned (.tuple #[.int k b,.bool q]):=by rw[h,h']
theorem numLen_zero {sg:Bool} {t:List UInt8} {f:Nat} (hf:(if sg&&isNeg t then 1 else 0)=f) (h:((t.drop f).head? == some 48)=true):numLen sg t=if !sg||f == 1 then (f,false) else (1,true):=by
 subst hf;simp only[numLen];rw[if_pos h]
theorem numLen_run {sg:Bool} {t:List UInt8} {f k:Nat} (hf:(if sg&&isNeg t then 1 else 0)=f) (h:((t.drop f).head? == some 48)=false) (hk:f+digRun (t.drop f)=k):numLen sg t=(k,decide (f<k)):=by
 subst hf;subst hk;simp only[numLen];rw[if_neg (by rw[h];simp)];simp
set_option maxHeartbeats 400000 in
theorem number_neg (t:List UInt8) (w:World) (hs:t.length≤9223372036854775807) (hn:isNeg t=true) :
  Calls Try.prog 56 #[.string (bs t),.bool true] w (fun e w'=>e = .returned (.tuple #[.int .i64 (numLen true t).1,.bool (numLen true t).2])∧Ext w w'):=by
 have hf:(if true&&isNeg t then 1 else 0)=1:=by simp[hn]
 have hl:1≤t.length:=by
  rcases Nat.eq_zero_or_pos t.length with h | h
  ·rw[List.eq_nil_of_length_eq_zero h] at hn;cases hn
  ·exact h
 have hn':(t.head? == some 45)=true:=hn
 clear hn
 by_cases h48:((t.drop 1).head? == some 48)=true
 ·have H:=hd_ (numLen_zero hf h48)
  have h48':(t[1]? == some 48)=true:=by simpa using h48
  replace hf:=hd_ hf
  clear h48
  go_enter Try.func56,Try.ntmps56
  go_wp2_with (go_at_call 88;((with_reducible refine (hasPre _ _ _ (by first | exact hs | (simp;omega))).mono ?_);rintro e w' ⟨rfl,rfl⟩))
  go_ret2
  exact⟨by rw[H.out];rfl,Ext.rf _⟩
 ·have h48:((t.drop 1).head? == some 48)=false:=by simpa using h48
  have H:Hd (∀ k:Nat,(1:Nat)+digRun (t.drop 1)=k→numLen true t=(k,decide (1<k))):=hd_ (fun k hk=>numLen_run hf h48 hk)
  have h48':(t[1]? == some 48)=false:=by simpa using h48
  replace hf:=hd_ hf
  clear h48
  go_enter Try.func56,Try.ntmps56
  go_wp2_with (go_at_call 88;((with_reducible refine (hasPre _ _ _ (by first | exact hs | (simp;omega))).mono ?_);rintro e w' ⟨rfl,rfl⟩))
  go_loop [7] (fun i => ∃ k:Nat,i = .int .i64 k∧1≤k∧k≤t.length∧∀ j,1≤j→j<k→48≤byt t j∧byt t j≤57) (fun n=>t.length-(intOf n).toNat)
  case atStart=>exact⟨1,rfl,Nat.le_refl _,by omega,fun j h1 h2=>by omega⟩
  case round =>
   obtain⟨k,rfl,hk1,hk2,hall⟩:=hrel
   replace hall:=hd_ hall
   by_cases hlt:k<t.length
   ·by_cases hd:48≤byt t k∧byt t k≤57
    ·obtain⟨hd1,hd2⟩:=hd
     go_wp2
     go_round
     case rel=>exact⟨k+1,by go_num,by omega,by omega,fun j h1 h2=>if e:j=k then by subst e;exact⟨hd1,hd2⟩ else hall.out j h1 (by omega)⟩
     case measure=>first | (simp[intOf];done) | (simp[intOf];omega)
    ·have HK:=hd_ (H.out k (digRun_drop hk1 hk2 hall.out (.inr hd)))
     by_cases hd1:48≤byt t k
     ·have hd2:¬ byt t k≤57:=fun h=>hd ⟨hd1,h⟩
      clear hd
      go_wp2
      go_ret2
      exact⟨ret2_ib (by rw[HK.out]) (by rw[HK.out];try exact decide_eq_decide.2 (by omega)),Ext.rf _⟩
     ·clear hd
      go_wp2
      go_ret2
      exact⟨ret2_ib (by rw[HK.out]) (by rw[HK.out];try exact decide_eq_decide.2 (by omega)),Ext.rf _⟩
   ·have HK:=hd_ (H.out k (digRun_drop hk1 hk2 hall.out (.inl (by omega))))
    go_wp2
    go_ret2
    exact⟨ret2_ib (by rw[HK.out]) (by rw[HK.out];try exact decide_eq_decide.2 (by omega)),Ext.rf _⟩
set_option maxHeartbeats 400000 in
theorem number_pos (t:List UInt8) (w:World) (hs:t.length≤9223372036854775807) (hn:isNeg t=false) :
  Calls Try.prog 56 #[.string (bs t),.bool true] w (fun e w'=>e = .returned (.tuple #[.int .i64 (numLen true t).1,.bool (numLen true t).2])∧Ext w w'):=by
 have hf:(if true&&isNeg t then 1 else 0)=0:=by simp[hn]
 have hn':(t.head? == some 45)=false:=hn
 clear hn
 by_cases h48:((t.drop 0).head? == some 48)=true
 ·have H:=hd_ (numLen_zero hf h48)
  have h48':(t.head? == some 48)=true:=by simpa using h48
  replace hf:=hd_ hf
  clear h48
  go_enter Try.func56,Try.ntmps56
  go_wp2_with (go_at_call 88;((with_reducible refine (hasPre _ _ _ (by first | exact hs | (simp;omega))).mono ?_);rintro e w' ⟨rfl,rfl⟩))
  go_ret2
  exact⟨by rw[H.out];rfl,Ext.rf _⟩
 ·have h48:((t.drop 0).head? == some 48)=false:=by simpa using h48
  have H:Hd (∀ k:Nat,(0:Nat)+digRun (t.drop 0)=k→numLen true t=(k,decide (0<k))):=hd_ (fun k hk=>numLen_run hf h48 hk)
  have h48':(t.head? == some 48)=false:=by simpa using h48
  replace hf:=hd_ hf
  clear h48
  go_enter Try.func56,Try.ntmps56
  go_wp2_with (go_at_call 88;((with_reducible refine (hasPre _ _ _ (by first | exact hs | (simp;omega))).mono ?_);rintro e w' ⟨rfl,rfl⟩))
  go_loop [7] (fun i => ∃ k:Nat,i = .int .i64 k∧0≤k∧k≤t.length∧∀ j,0≤j→j<k→48≤byt t j∧byt t j≤57) (fun n=>t.length-(intOf n).toNat)
  case atStart=>exact⟨0,rfl,Nat.le_refl _,by omega,fun j h1 h2=>by omega⟩
  case round =>
   obtain⟨k,rfl,hk1,hk2,hall⟩:=hrel
   replace hall:=hd_ hall
   by_cases hlt:k<t.length
   ·by_cases hd:48≤byt t k∧byt t k≤57
    ·obtain⟨hd1,hd2⟩:=hd
     go_wp2
     go_round
     case rel=>exact⟨k+1,by go_num,by omega,by omega,fun j h1 h2=>if e:j=k then by subst e;exact⟨hd1,hd2⟩ else hall.out j h1 (by omega)⟩
     case measure=>first | (simp[intOf];done) | (simp[intOf];omega)
    ·have HK:=hd_ (H.out k (digRun_drop hk1 hk2 hall.out (.inr hd)))
     by_cases hd1:48≤byt t k
     ·have hd2:¬ byt t k≤57:=fun h=>hd ⟨hd1,h⟩
      clear hd
      go_wp2
      go_ret2
      exact⟨ret2_ib (by rw[HK.out]) (by rw[HK.out];try exact decide_eq_decide.2 (by omega)),Ext.rf _⟩
     ·clear hd
      go_wp2
      go_ret2
      exact⟨ret2_ib (by rw[HK.out]) (by rw[HK.out];try exact decide_eq_decide.2 (by omega)),Ext.rf _⟩
   ·have HK:=hd_ (H.out k (digRun_drop hk1 hk2 hall.out (.inl (by omega))))
    go_wp2
    go_ret2
    exact⟨ret2_ib (by rw[HK.out]) (by rw[HK.out];try exact decide_eq_decide.2 (by omega)),Ext.rf _⟩
set_option maxHeartbeats 400000 in
theorem number_uns (t:List UInt8) (w:World) (hs:t.length≤9223372036854775807)  :
  Calls Try.prog 56 #[.string (bs t),.bool false] w (fun e w'=>e = .returned (.tuple #[.int .i64 (numLen false t).1,.bool (numLen false t).2])∧Ext w w'):=by
 have hf:(if false&&isNeg t then 1 else 0)=0:=by simp[isNeg]
 skip
 by_cases h48:((t.drop 0).head? == some 48)=true
 ·have H:=hd_ (numLen_zero hf h48)
  have h48':(t.head? == some 48)=true:=by simpa using h48
  replace hf:=hd_ hf
  clear h48
  go_enter Try.func56,Try.ntmps56
  go_wp2_with (go_at_call 88;((with_reducible refine (hasPre _ _ _ (by first | exact hs | (simp;omega))).mono ?_);rintro e w' ⟨rfl,rfl⟩))
  go_ret2
  exact⟨by rw[H.out];rfl,Ext.rf _⟩
 ·have h48:((t.drop 0).head? == some 48)=false:=by simpa using h48
  have H:Hd (∀ k:Nat,(0:Nat)+digRun (t.drop 0)=k→numLen false t=(k,decide (0<k))):=hd_ (fun k hk=>numLen_run hf h48 hk)
  have h48':(t.head? == some 48)=false:=by simpa using h48
  replace hf:=hd_ hf
  clear h48
  go_enter Try.func56,Try.ntmps56
  go_wp2_with (go_at_call 88;((with_reducible refine (hasPre _ _ _ (by first | exact hs | (simp;omega))).mono ?_);rintro e w' ⟨rfl,rfl⟩))
  go_loop [7] (fun i => ∃ k:Nat,i = .int .i64 k∧0≤k∧k≤t.length∧∀ j,0≤j→j<k→48≤byt t j∧byt t j≤57) (fun n=>t.length-(intOf n).toNat)
  case atStart=>exact⟨0,rfl,Nat.le_refl _,by omega,fun j h1 h2=>by omega⟩
  case round =>
   obtain⟨k,rfl,hk1,hk2,hall⟩:=hrel
   replace hall:=hd_ hall
   by_cases hlt:k<t.length
   ·by_cases hd:48≤byt t k∧byt t k≤57
    ·obtain⟨hd1,hd2⟩:=hd
     go_wp2
     go_round
     case rel=>exact⟨k+1,by go_num,by omega,by omega,fun j h1 h2=>if e:j=k then by subst e;exact⟨hd1,hd2⟩ else hall.out j h1 (by omega)⟩
     case measure=>first | (simp[intOf];done) | (simp[intOf];omega)
    ·have HK:=hd_ (H.out k (digRun_drop hk1 hk2 hall.out (.inr hd)))
     by_cases hd1:48≤byt t k
     ·have hd2:¬ byt t k≤57:=fun h=>hd ⟨hd1,h⟩
      clear hd
      go_wp2
      go_ret2
      exact⟨ret2_ib (by rw[HK.out]) (by rw[HK.out];try exact decide_eq_decide.2 (by omega)),Ext.rf _⟩
     ·clear hd
      go_wp2
      go_ret2
      exact⟨ret2_ib (by rw[HK.out]) (by rw[HK.out];try exact decide_eq_decide.2 (by omega)),Ext.rf _⟩
   ·have HK:=hd_ (H.out k (digRun_drop hk1 hk2 hall.out (.inl (by omega))))
    go_wp2
    go_ret2
    exact⟨ret2_ib (by rw[HK.out]) (by rw[HK.out];try exact decide_eq_decide.2 (by omega)),Ext.rf _⟩
theorem number_any (t:List UInt8) (sg:Bool) (w:World) (hs:t.length≤9223372036854775807) :
  Calls Try.prog 56 #[.string (bs t),.bool sg] w (fun e w'=>e = .returned (.tuple #[.int .i64 (numLen sg t).1,.bool (numLen sg t).2])∧Ext w w'):=by
 cases sg
 ·exact number_uns t w hs
 ·cases hn:isNeg t
  ·exact number_pos t w hs hn
  ·exact number_neg t w hs hn
theorem digRun_le (t:List UInt8):digRun t≤t.length:=(List.takeWhile_sublist _).length_le
theorem numLen_le (sg:Bool) (t:List UInt8):(numLen sg t).1≤t.length:=by
 have hneg:isNeg t=true→1≤t.length:=by
  intro hn
  rcases Nat.eq_zero_or_pos t.length with h | h
  ·rw[List.eq_nil_of_length_eq_zero h] at hn;cases hn
  ·exact h
 have hf:(if sg&&isNeg t then 1 else 0)≤t.length:=by
  split
  ·rename_i h;simp at h;exact hneg h.2
  ·omega
 simp only[numLen]
 generalize (if sg&&isNeg t then 1 else 0)=f at *
 split
 ·rename_i h
  split
  ·exact hf
  ·have:t.drop f≠[]:=by intro e;rw[e] at h;simp at h
   have:0<(t.drop f).length:=List.length_pos_iff.2 this
   simp at this
   show 1≤t.length
   omega
 ·have:=digRun_le (t.drop f)
  simp at this
  show f+digRun (t.drop f)≤t.length
  omega
end Go.Proofs.Ytdjbfgfbpimakaa
