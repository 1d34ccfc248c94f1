/- Polynomials modulo a number, in plain Lean: lists of residues without noughts at the end; products, remainders. The small machine: a matrix: a box whose cells are slices of the call's own, so many as there are rows (their objects bear the numbers from 1000000 on). -/
import Derived.Test.YtlnhembcfhfpkaaK3
section
namespace Go.Proofs.Ytlnhembcfhfpkaa.M
open Go.RowKit
set_option linter.unusedSimpArgs false
set_option linter.unusedVariables false
abbrev I (n:Int):D:=.int .i64 n
abbrev L (l:List Int):D:=.list 3 1 (l.map (D.int .i64))
abbrev LT (T:Nat) (l:List Int):D:=.list T 1 (l.map (D.int .i64))
def trim (l:List Int):List Int:=(l.reverse.dropWhile (· == 0)).reverse
theorem trim_take {l:List Int} {k:Nat} (h:k<l.length):trim (l.take (k+1))=if l.getD k 0=0 then trim (l.take k) else l.take (k+1):=by
 have e:l.take (k+1)=l.take k++[l.getD k 0]:=by
  rw[List.take_succ_eq_append_getElem h];simp[h]
 rw[e]
 unfold trim
 rw[List.reverse_append,List.reverse_singleton,List.singleton_append]
 by_cases hz:l.getD k 0=0
 ·rw[if_pos hz,List.dropWhile_cons_of_pos (by simpa using hz)]
 ·rw[if_neg hz,List.dropWhile_cons_of_neg (by simpa using hz)];simp
theorem trim_app (l:List Int) (x:Int):trim (l++[x])=if x=0 then trim l else l++[x]:=by
 unfold trim
 rw[List.reverse_append,List.reverse_singleton,List.singleton_append]
 by_cases hz:x=0
 ·rw[if_pos hz,List.dropWhile_cons_of_pos (by simpa using hz)]
 ·rw[if_neg hz,List.dropWhile_cons_of_neg (by simpa using hz)];simp
theorem snoc_cases (l:List Int):l=[]∨∃ k x,l=k++[x]:=by
 rcases List.eq_nil_or_concat l with h | ⟨k,x,h⟩
 ·exact .inl h
 ·exact .inr ⟨k,x,by simpa using h⟩
theorem snoc_ind {P:List Int→Prop} (h0:P []) (h1:∀ k x,P k→P (k++[x])):∀ l,P l:=by
 have:∀ n (l:List Int),l.length=n→P l:=by
  intro n
  induction n with
  | zero=>intro l hl;rw[List.eq_nil_of_length_eq_zero hl];exact h0
  | succ n ih =>
   intro l hl
   rcases snoc_cases l with rfl | ⟨k,x,rfl⟩
   ·simp at hl
   ·exact h1 k x (ih k (by simpa using hl))
 exact fun l=>this _ l rfl
theorem trim_len (l:List Int):(trim l).length≤l.length:=by
 refine snoc_ind (P:=fun l=>(trim l).length≤l.length) (by simp[trim]) (fun k x ih => ?_) l
 rw[trim_app]
 split
 ·simp;omega
 ·simp
theorem trim_getD (l:List Int) (i:Nat):(trim l).getD i 0=l.getD i 0:=by
 refine snoc_ind (P:=fun l=>(trim l).getD i 0=l.getD i 0) (by simp[trim]) (fun k x ih => ?_) l
 rw[trim_app]
 split
 ·rename_i h
  subst h
  rw[ih]
  simp only[List.getD_eq_getElem?_getD]
  by_cases hi:i<k.length
  ·rw[List.getElem?_append_left hi]
  ·rw[List.getElem?_eq_none (by omega),List.getElem?_append_right (by omega)]
   cases h:i-k.length with
   | zero=>simp
   | succ n=>simp
 ·rfl
def Td (l:List Int):Prop:=trim l=l
theorem td_trim (l:List Int):Td (trim l):=by
 unfold Td
 refine snoc_ind (P:=fun l=>trim (trim l)=trim l) rfl (fun k x ih => ?_) l
 rw[trim_app]
 split
 ·exact ih
 ·rename_i h;rw[trim_app,if_neg h]
theorem td_last {l:List Int} (h:Td l) (hl:l≠[]):l.getD (l.length-1) 0≠0:=by
 rcases snoc_cases l with rfl | ⟨k,x,rfl⟩
 ·exact absurd rfl hl
 ·unfold Td at h
  rw[trim_app] at h
  split at h
  ·have:=trim_len k
   rw[h] at this
   simp at this
   omega
  ·rename_i hx
   simpa[List.getD_eq_getElem?_getD] using hx
theorem td_of_last {l:List Int} (h:l≠[]→l.getD (l.length-1) 0≠0):Td l:=by
 rcases snoc_cases l with rfl | ⟨k,x,rfl⟩
 ·rfl
 ·have:=h (by simp)
  unfold Td
  rw[trim_app,if_neg]
  simpa[List.getD_eq_getElem?_getD] using this
theorem td_ext {l m:List Int} (hl:Td l) (hm:Td m) (h:∀ i,l.getD i 0=m.getD i 0):l=m:=by
 have key:∀ {l m:List Int},Td l→(∀ i,l.getD i 0=m.getD i 0)→l.length≤m.length:=by
  intro l m hl h
  rcases Nat.lt_or_ge m.length l.length with hlt | hge
  ·have h1:=td_last hl (by rintro rfl;simp at hlt)
   rw[h] at h1
   exact absurd (by rw[List.getD_eq_getElem?_getD,List.getElem?_eq_none (by omega)];rfl) h1
  ·exact hge
 have hlen:l.length=m.length:=Nat.le_antisymm (key hl h) (key hm fun i=>(h i).symm)
 refine List.ext_getElem hlen fun i h1 h2 => ?_
 have:=h i
 simpa[List.getD_eq_getElem?_getD,h1,h2] using this
theorem trim_ext {l m:List Int} (h:∀ i,l.getD i 0=m.getD i 0):trim l=trim m:=
 td_ext (td_trim l) (td_trim m) fun i=>by rw[trim_getD,trim_getD,h]
theorem trim_len_of {l:List Int} {n:Nat} (h:∀ i,n≤i→l.getD i 0=0):(trim l).length≤n:=by
 rcases Nat.lt_or_ge n (trim l).length with hlt | hge
 ·have h1:=td_last (td_trim l) (by intro e;rw[e] at hlt;simp at hlt)
  rw[trim_getD] at h1
  exact absurd (h _ (by omega)) h1
 ·exact hge
def Rg (p:Int) (l:List Int):Prop:=∀ i,0≤l.getD i 0∧l.getD i 0<p
theorem Rg.trim {p:Int} {l:List Int} (h:Rg p l):Rg p (trim l):=fun i=>by rw[trim_getD];exact h i
theorem rg_nil {p:Int} (hp:0<p):Rg p []:=fun i=>by simp[hp]
theorem tm {a:Int} (h:0≤a) (p:Int):a.tmod p=a % p:=Int.tmod_eq_emod_of_nonneg h
theorem md {a p:Int} (hp:0<p):0≤a % p∧a % p<p:=⟨Int.emod_nonneg _ (by omega),Int.emod_lt_of_pos _ hp⟩
theorem em_self {a p:Int} (h:0≤a∧a<p):a % p=a:=Int.emod_eq_of_lt h.1 h.2
theorem getD_range_map (f:Nat→Int) (n i:Nat):((List.range n).map f).getD i 0=if i<n then f i else 0:=by
 rw[List.getD_eq_getElem?_getD]
 by_cases h:i<n
 ·simp[h]
 ·rw[List.getElem?_eq_none (by simpa using h)];simp[h]
def S (f g:List Int) (k:Nat):Nat→Int
 | 0=>0
 | a+1=>S f g k a+(if a≤k then f.getD a 0*g.getD (k-a) 0 else 0)
theorem S_stop {f g:List Int} {k:Nat}:∀ {n m:Nat},n≤m→(f.length≤n∨k<n)→S f g k m=S f g k n
 | n,0,h,_=>by
  have e:n=0:=by omega
  rw[e]
 | n,m+1,h,hs=>by
  by_cases e:n=m+1
  ·rw[e]
  ·have ih:=S_stop (f:=f) (g:=g) (k:=k) (show n≤m by omega) hs
   simp only[S,ih]
   split
   ·have:f.getD m 0=0:=by rw[List.getD_eq_getElem?_getD,List.getElem?_eq_none (by omega)];rfl
    rw[this];omega
   ·omega
theorem S_all {f g:List Int} {k:Nat}:S f g k f.length=S f g k (k+1):=by
 rcases Nat.le_total f.length (k+1) with h | h
 ·exact (S_stop h (.inl (Nat.le_refl _))).symm
 ·exact S_stop h (.inr (by omega))
theorem S_zero {f g:List Int} {k:Nat} (h:f.length+g.length≤k+1) (hg:0<f.length∧0<g.length∨f.length=0∨g.length=0):∀ n,S f g k n=0
 | 0=>rfl
 | a+1=>by
  simp only[S,S_zero h hg a]
  split
  ·by_cases ha:a<f.length
   ·have:g.getD (k-a) 0=0:=by rw[List.getD_eq_getElem?_getD,List.getElem?_eq_none (by omega)];rfl
    rw[this];omega
   ·have:f.getD a 0=0:=by rw[List.getD_eq_getElem?_getD,List.getElem?_eq_none (by omega)];rfl
    rw[this];omega
  ·omega
def cv (f g:List Int) (p:Int) (n:Nat):List Int:=(List.range n).map fun k=>S f g k (k+1) % p
theorem cv_getD (f g:List Int) (p:Int) (n i:Nat):(cv f g p n).getD i 0=if i<n then S f g i (i+1) % p else 0:=getD_range_map _ _ _
def mulP (f g:List Int) (p:Int):List Int:=trim (cv f g p (f.length+g.length))
theorem mulP_getD (f g:List Int) (p:Int) (i:Nat):(mulP f g p).getD i 0=S f g i (i+1) % p:=by
 unfold mulP
 rw[trim_getD,cv_getD]
 split
 ·rfl
 ·rename_i h
  rw[S_zero (by omega) (by omega)];rfl
theorem mulP_rg {p:Int} (hp:0<p) (f g:List Int):Rg p (mulP f g p):=fun i=>by rw[mulP_getD];exact md hp
theorem mulP_td (f g:List Int) (p:Int):Td (mulP f g p):=td_trim _
theorem S_nil {f g:List Int} {k:Nat} (h:f.length=0∨g.length=0):∀ n,S f g k n=0
 | 0=>rfl
 | a+1=>by
  simp only[S,S_nil h a]
  have:f.getD a 0*g.getD (k-a) 0=0:=by
   rcases h with h | h
   ·rw[List.eq_nil_of_length_eq_zero h];simp
   ·rw[List.eq_nil_of_length_eq_zero h];simp
  rw[this];simp
theorem mulP_nil {f g:List Int} (p:Int) (h:f.length=0∨g.length=0):mulP f g p=[]:=by
 refine td_ext (mulP_td _ _ _) rfl fun i => ?_
 rw[mulP_getD,S_nil h];simp
theorem mulP_of {f g:List Int} {p:Int} {n:Nat} (h:f.length+g.length≤n+1) (h0:0<f.length) (h1:0<g.length):trim (cv f g p n)=mulP f g p:=by
 unfold mulP
 refine trim_ext fun i => ?_
 rw[cv_getD,cv_getD]
 by_cases h2:i<n<;>by_cases h3:i<f.length+g.length
 ·rw[if_pos h2,if_pos h3]
 ·rw[if_pos h2,if_neg h3,S_zero (by omega) (by omega)];rfl
 ·rw[if_neg h2,if_pos h3,S_zero (by omega) (by omega)];rfl
 ·rw[if_neg h2,if_neg h3]
theorem mulP_len {f g:List Int} {p:Int}:(mulP f g p).length≤f.length+g.length:=Nat.le_trans (trim_len _) (by simp[cv])
def mw (f g:List Int) (p:Int) (n i j:Nat):List Int:=(List.range n).map fun k=>(S f g k i+(if i≤k∧k-i<j then f.getD i 0*g.getD (k-i) 0 else 0)) % p
theorem mw_len (f g:List Int) (p:Int) (n i j:Nat):(mw f g p n i j).length=n:=by simp[mw]
theorem mw_0 (f g:List Int) (p:Int) (n:Nat):mw f g p n 0 0=List.replicate n 0:=by
 apply List.ext_getElem<;>simp[mw,S]
theorem mw_next (f g:List Int) (p:Int) (n i:Nat):mw f g p n i g.length=mw f g p n (i+1) 0:=by
 unfold mw
 refine List.map_congr_left fun k _ => ?_
 simp only[S,Nat.not_lt_zero,and_false,if_false,Int.add_zero]
 by_cases h:i≤k
 ·rw[if_pos h]
  by_cases h2:k-i<g.length
  ·rw[if_pos ⟨h,h2⟩]
  ·rw[if_neg (fun hh=>h2 hh.2)]
   have:g.getD (k-i) 0=0:=by rw[List.getD_eq_getElem?_getD,List.getElem?_eq_none (by omega)];rfl
   rw[this,Int.mul_zero]
 ·rw[if_neg h,if_neg (fun hh=>h hh.1)]
theorem mw_end (f g:List Int) (p:Int) (n:Nat):mw f g p n f.length 0=cv f g p n:=by
 unfold mw cv
 refine List.map_congr_left fun k _ => ?_
 simp only[Nat.not_lt_zero,and_false,if_false,Int.add_zero]
 rw[S_all]
theorem mw_getD {f g:List Int} {p:Int} {n i j k:Nat} (h:k<n):(mw f g p n i j).getD k 0=(S f g k i+(if i≤k∧k-i<j then f.getD i 0*g.getD (k-i) 0 else 0)) % p:=by
 unfold mw;rw[getD_range_map,if_pos h]
theorem mw_set {f g:List Int} {p:Int} {n i j:Nat} (hp:0<p) (hf:Rg p f) (hg:Rg p g) (h:i+j<n):(mw f g p n i j).set (i+j) (((mw f g p n i j).getD (i+j) 0+f.getD i 0*g.getD j 0).tmod p)=mw f g p n i (j+1):=by
 have h0:0≤(mw f g p n i j).getD (i+j) 0:=by rw[mw_getD h];exact (md hp).1
 rw[tm (by have:=Int.mul_nonneg (hf i).1 (hg j).1;omega),mw_getD h,if_neg (by omega),Int.add_zero,Int.emod_add_emod]
 apply List.ext_getElem
 ·simp[mw]
 ·intro k h1 h2
  rw[List.getElem_set]
  simp only[mw,List.getElem_map,List.getElem_range]
  by_cases e:i+j=k
  ·subst e
   rw[if_pos rfl,if_pos (by omega),Nat.add_sub_cancel_left]
  ·rw[if_neg e]
   by_cases h3:i≤k∧k-i<j
   ·rw[if_pos h3,if_pos (by omega)]
   ·rw[if_neg h3,if_neg (by omega)]
def rw_ (r g:List Int) (p k:Int) (i j:Nat):List Int:=(List.range r.length).map fun t=>if i≤t∧t-i<j then (r.getD t 0+(p-k)*g.getD (t-i) 0) % p else r.getD t 0
theorem rw_len (r g:List Int) (p k:Int) (i j:Nat):(rw_ r g p k i j).length=r.length:=by simp[rw_]
theorem rw_0 (r g:List Int) (p k:Int) (i:Nat):rw_ r g p k i 0=r:=by
 apply List.ext_getElem
 ·simp[rw_]
 ·intro t h1 h2;simp[rw_,h2]
theorem rw_getD {r g:List Int} {p k:Int} {i j t:Nat}:(rw_ r g p k i j).getD t 0=if t<r.length then (if i≤t∧t-i<j then (r.getD t 0+(p-k)*g.getD (t-i) 0) % p else r.getD t 0) else 0:=getD_range_map _ _ _
theorem rw_rg {r g:List Int} {p k:Int} (hp:0<p) (hr:Rg p r) (i j:Nat):Rg p (rw_ r g p k i j):=fun t=>by
 rw[rw_getD]
 split
 ·split
  ·exact md hp
  ·exact hr t
 ·omega
theorem rw_set {r g:List Int} {p k:Int} {i j:Nat} (hr:Rg p r) (hg:Rg p g) (hk:0≤k∧k<p) (h:i+j<r.length):(rw_ r g p k i j).set (i+j) (((rw_ r g p k i j).getD (i+j) 0+(p-k)*g.getD j 0).tmod p)=rw_ r g p k i (j+1):=by
 have h0:(rw_ r g p k i j).getD (i+j) 0=r.getD (i+j) 0:=by rw[rw_getD,if_pos h,if_neg (by omega)]
 rw[h0,tm (by have:=Int.mul_nonneg (show 0≤p-k by omega) (hg j).1;have:=(hr (i+j)).1;omega)]
 apply List.ext_getElem
 ·simp[rw_]
 ·intro t h1 h2
  rw[List.getElem_set]
  simp only[rw_,List.getElem_map,List.getElem_range]
  by_cases e:i+j=t
  ·subst e
   rw[if_pos rfl,if_pos (by omega),Nat.add_sub_cancel_left]
  ·rw[if_neg e]
   by_cases h3:i≤t∧t-i<j
   ·rw[if_pos h3,if_pos (by omega)]
   ·rw[if_neg h3,if_neg (by omega)]
def kd (r g:List Int) (p u:Int) (i:Nat):Int:=(r.getD (i+(g.length-1)) 0*u) % p
def red (r g:List Int) (p u:Int) (i:Nat):List Int:=rw_ r g p (kd r g p u i) i g.length
def dv (f g:List Int) (p u:Int) (N:Nat):Nat→List Int
 | 0=>f
 | c+1=>red (dv f g p u N c) g p u (N-1-c)
def dq (f g:List Int) (p u:Int) (N c:Nat):List Int:=(List.range N).map fun j=>if N-c≤j then kd (dv f g p u N (N-1-j)) g p u j else 0
theorem dv_len (f g:List Int) (p u:Int) (N:Nat):∀ c,(dv f g p u N c).length=f.length
 | 0=>rfl
 | c+1=>by simp only[dv,red,rw_len,dv_len f g p u N c]
theorem dv_rg {f g:List Int} {p u:Int} (hp:0<p) (hf:Rg p f) (N:Nat):∀ c,Rg p (dv f g p u N c)
 | 0=>hf
 | c+1=>rw_rg hp (dv_rg hp hf N c) _ _
theorem kd_rg {r g:List Int} {p u:Int} (hp:0<p) (i:Nat):0≤kd r g p u i∧kd r g p u i<p:=md hp
theorem dq_len (f g:List Int) (p u:Int) (N c:Nat):(dq f g p u N c).length=N:=by simp[dq]
theorem dq_0 (f g:List Int) (p u:Int) (N:Nat):dq f g p u N 0=List.replicate N 0:=by
 apply List.ext_getElem
 ·simp[dq]
 ·intro j h1 h2
  simp only[dq,List.getElem_map,List.getElem_range,List.getElem_replicate]
  rw[if_neg (by simp[dq] at h1;omega)]
theorem dq_set {f g:List Int} {p u:Int} {N c:Nat} (h:c<N):(dq f g p u N c).set (N-1-c) (kd (dv f g p u N c) g p u (N-1-c))=dq f g p u N (c+1):=by
 apply List.ext_getElem
 ·simp[dq]
 ·intro j h1 h2
  simp[dq] at h1
  rw[List.getElem_set]
  simp only[dq,List.getElem_map,List.getElem_range]
  by_cases e:N-1-c=j
  ·subst e
   rw[if_pos rfl,if_pos (by omega),show N-1-(N-1-c)=c by omega]
  ·rw[if_neg e]
   by_cases h3:N-c≤j
   ·rw[if_pos h3,if_pos (by omega)]
   ·rw[if_neg h3,if_neg (by omega)]
theorem dq_rg {f g:List Int} {p u:Int} (hp:0<p) (N c:Nat):Rg p (dq f g p u N c):=fun i=>by
 unfold dq
 rw[getD_range_map]
 split
 ·split
  ·exact md hp
  ·omega
 ·omega
def quoP (f g:List Int) (p u:Int):List Int:=if f.length<g.length then [] else trim (dq f g p u (f.length-g.length+1) (f.length-g.length+1))
def remP (f g:List Int) (p u:Int):List Int:=if f.length<g.length then f else trim (dv f g p u (f.length-g.length+1) (f.length-g.length+1))
theorem quoP_rg {f g:List Int} {p u:Int} (hp:0<p):Rg p (quoP f g p u):=by
 unfold quoP
 split
 ·exact rg_nil hp
 ·exact (dq_rg hp _ _).trim
theorem quoP_td {f g:List Int} {p u:Int}:Td (quoP f g p u):=by
 unfold quoP
 split
 ·rfl
 ·exact td_trim _
theorem remP_rg {f g:List Int} {p u:Int} (hp:0<p) (hf:Rg p f):Rg p (remP f g p u):=by
 unfold remP
 split
 ·exact hf
 ·exact (dv_rg hp hf _ _).trim
theorem remP_td {f g:List Int} {p u:Int} (hf:Td f):Td (remP f g p u):=by
 unfold remP
 split
 ·exact hf
 ·exact td_trim _
def Lead (g:List Int) (p u:Int):Prop:=(g.getD (g.length-1) 0*u) % p=1 % p
theorem red_top {r g:List Int} {p u:Int} {i:Nat} (hp:0<p) (hg:0<g.length) (hu:Lead g p u) (hr:Rg p r):(red r g p u i).getD (i+(g.length-1)) 0=0:=by
 unfold red
 rw[rw_getD]
 split
 case isFalse=>rfl
 rename_i hlt
 rw[if_pos (by omega),Nat.add_sub_cancel_left]
 unfold kd
 generalize hx:r.getD (i+(g.length-1)) 0=x
 unfold Lead at hu
 generalize hy:g.getD (g.length-1) 0=y at hu
 have h1:(x+(p-x*u % p)*y) % p=(x+(p-x*u)*y) % p:=by
  rw[Int.add_emod,Int.mul_emod,Int.sub_emod,Int.emod_emod,←Int.sub_emod,←Int.mul_emod,←Int.add_emod]
 rw[h1]
 have h2:x+(p-x*u)*y=x*(1-y*u)+y*p:=by grind
 rw[h2,Int.add_mul_emod_self_right,Int.mul_emod]
 have h3:(1-y*u) % p=0:=by rw[Int.sub_emod,hu,Int.sub_self,Int.zero_emod]
 rw[h3,Int.mul_zero,Int.zero_emod]
theorem red_above {r g:List Int} {p u:Int} {i t:Nat} (h:i+g.length≤t):(red r g p u i).getD t 0=r.getD t 0:=by
 unfold red
 rw[rw_getD]
 split
 ·rw[if_neg (by omega)]
 ·rw[List.getD_eq_getElem?_getD,List.getElem?_eq_none (by omega)];rfl
theorem dv_zero {f g:List Int} {p u:Int} {N:Nat} (hp:0<p) (hg:0<g.length) (hu:Lead g p u) (hf:Rg p f) (hN:f.length<N+g.length):∀ {c t:Nat},c≤N→N-c+(g.length-1)≤t→(dv f g p u N c).getD t 0=0
 | 0,t,_,h=>by simp only[dv];rw[List.getD_eq_getElem?_getD,List.getElem?_eq_none (by omega)];rfl
 | c+1,t,hc,h=>by
  simp only[dv]
  by_cases e:t=N-1-c+(g.length-1)
  ·rw[e];exact red_top hp hg hu (dv_rg hp hf N c)
  ·rw[red_above (by omega)]
   exact dv_zero hp hg hu hf hN (by omega) (by omega)
theorem remP_len {f g:List Int} {p u:Int} (hp:0<p) (hg:0<g.length) (hu:Lead g p u) (hf:Rg p f):(remP f g p u).length<g.length:=by
 unfold remP
 split
 ·assumption
 ·exact Nat.lt_of_le_of_lt (trim_len_of (n:=g.length-1) fun i hi=>dv_zero hp hg hu hf (by omega) (Nat.le_refl _) (by omega)) (by omega)
end Go.Proofs.Ytlnhembcfhfpkaa.M
end

section
namespace Go.Proofs.Ytlnhembcfhfpkaa.M
open Go.RowKit
set_option linter.defProp false
set_option linter.unusedSimpArgs false
def lookX (T:TypeId) (b:Nat) (M:List (List Int)) (l:List (Nat × AObj)):Mem:=fun j=>if 1000000≤j∧j<1000000+M.length then some ⟨T,1,.row ((M.getD (j-1000000) []).map (D.int .i64)),decide (j-1000000<b)⟩ else lookM l j
theorem lx_nil (T:TypeId) (b:Nat) (l:List (Nat × AObj)):lookM l=lookX T b [] l:=by
 funext j
 unfold lookX
 rw[if_neg (fun h=>by have:=h.2;simp at this;omega)]
theorem lx_lo {T:TypeId} {b:Nat} {M:List (List Int)} {l:List (Nat × AObj)} {j:Nat} (h:j<1000000):lookX T b M l j=lookM l j:=by
 unfold lookX
 rw[if_neg (by omega)]
theorem lx_hi {T:TypeId} {M:List (List Int)} {l:List (Nat × AObj)} {i:Nat} (h:i<M.length):lookX T 0 M l (1000000+i)=some ⟨T,1,.row ((M.getD i []).map (D.int .i64)),false⟩:=by
 unfold lookX
 rw[if_pos (by omega),Nat.add_sub_cancel_left]
 simp
theorem lx_fz {T:TypeId} {b:Nat} {M:List (List Int)} {l:List (Nat × AObj)} {i:Nat} (h:i<M.length) (hb:i<b):lookX T b M l (1000000+i)=some ⟨T,1,.row ((M.getD i []).map (D.int .i64)),true⟩:=by
 unfold lookX
 rw[if_pos (by omega),Nat.add_sub_cancel_left,decide_eq_true hb]
theorem lu_lo {T:TypeId} {b:Nat} {M:List (List Int)} {l:List (Nat × AObj)} {j:Nat} {v:AObj} (h:j<1000000):upd (lookX T b M l) j (some v)=lookX T b M (setM j v l):=by
 funext i
 unfold lookX
 rw[←upd_lookM]
 simp only[upd]
 by_cases e:i=j
 ·rw[if_pos e,if_neg (by omega),if_pos e]
 ·rw[if_neg e,if_neg e]
theorem lu_hi {T:TypeId} {M:List (List Int)} {l:List (Nat × AObj)} {i:Nat} {r:List Int} (h:i<M.length):upd (lookX T 0 M l) (1000000+i) (some ⟨T,1,.row (r.map (D.int .i64)),false⟩)=lookX T 0 (M.set i r) l:=by
 funext j
 unfold lookX
 simp only[upd,List.length_set]
 by_cases e:j=1000000+i
 ·subst e
  rw[if_pos rfl,if_pos (by omega),Nat.add_sub_cancel_left]
  simp[h]
 ·rw[if_neg e]
  by_cases e2:1000000≤j∧j<1000000+M.length
  ·rw[if_pos e2,if_pos e2]
   have:(M.set i r).getD (j-1000000) []=M.getD (j-1000000) []:=by
    simp only[List.getD_eq_getElem?_getD,List.getElem?_set]
    rw[if_neg (by omega)]
   rw[this]
  ·rw[if_neg e2,if_neg e2]
theorem lf_X (T:TypeId) (b:Nat) (M:List (List Int)) (l:List (Nat × AObj)) (i:Nat):forgetM i (lookX T b M l)=lookX T b M (fgM i l):=by
 funext j
 have h:=congrFun (forgetM_look i l) j
 simp only[forgetM] at h ⊢
 unfold lookX
 split
 ·rfl
 ·exact h
def sw1 (a b i:Nat):Nat:=if i=a then b else if i=b then a else i
theorem sw1_sw1 (a b i:Nat):sw1 a b (sw1 a b i)=i:=by
 unfold sw1
 by_cases h1:i=a
 ·rw[if_pos h1]
  by_cases h2:b=a
  ·rw[if_pos h2];omega
  ·rw[if_neg h2,if_pos rfl];omega
 ·rw[if_neg h1]
  by_cases h2:i=b
  ·rw[if_pos h2,if_pos rfl];omega
  ·rw[if_neg h2,if_neg h1,if_neg h2]
theorem sw1_ne {a b i:Nat} (h1:i≠a) (h2:i≠b):sw1 a b i=i:=by unfold sw1;rw[if_neg h1,if_neg h2]
theorem sw1_l (a b:Nat):sw1 a b a=b:=by unfold sw1;rw[if_pos rfl]
theorem sw1_r (a b:Nat):sw1 a b b=a:=by
 unfold sw1
 by_cases h:b=a
 ·rw[if_pos h,h]
 ·rw[if_neg h,if_pos rfl]
def renO (ρ:Nat→Nat):List (Nat × AObj)→List (Nat × AObj)
 | []=>[]
 | (i,o)::l=>(i,o.ren ρ)::renO ρ l
theorem renO_look (ρ:Nat→Nat):∀ (l:List (Nat × AObj)) (j:Nat),lookM (renO ρ l) j=(lookM l j).map (AObj.ren ρ)
 | [],j=>by rw[renO,lookM_nil];rfl
 | (i,o)::l,j=>by
  rw[renO,lookM_cons,lookM_cons,renO_look ρ l j]
  split<;>rfl
section
variable {OT:List TypeId} {T:TypeId} {M:List (List Int)} {R:List (Nat × AV)} {l:List (Nat × AObj)}
theorem Sub.toX (b:Nat) (ts L:List Nat) (h1:closedR L (sel (look R) ts)=true) (h2:closedM L l=true) (h3:L.all (fun x=>decide (x<1000000))=true):Sub OT ⟨look R,lookX T b M l⟩ ⟨look (sel (look R) ts),lookX T b M (delL L l)⟩:=by
 have hL:∀ i,1000000≤i→L.contains i=false:=fun i hi=>by
  cases e:L.contains i with
  | false=>rfl
  | true =>
   have:=List.all_eq_true.1 h3 i (by simpa using e)
   simp at this;omega
 refine (Sub.und (sel_or ts)).tr (Sub.dropL L (fun t => .inr ⟨rfl,look_closed t h1⟩) (fun i => ?_) (fun i o ho => ?_) (closedM_lent h2))
 ·unfold lookX
  by_cases e:1000000≤i∧i<1000000+M.length
  ·rw[if_pos e,if_pos e,hL i e.1];rfl
  ·rw[if_neg e,if_neg e,lookM_del]
 ·unfold lookX at ho
  split at ho
  ·cases ho;rfl
  ·exact lookM_closed i o h2 ho
theorem Sub.pushX (i:Nat) {r:List Int} (hi:i<999999) (hli:lookM l i=some ⟨T,1,.row (r.map (D.int .i64)),false⟩) (hl:∀ j,1000000≤j→lookM l j=none) :
  Sub OT ⟨look R,lookX T 0 M l⟩ ⟨look (rnR (sw1 i (1000000+M.length)) R),lookX T 0 (M++[r]) (renO (sw1 i (1000000+M.length)) (delL [i] l))⟩:=by
 have h:=Sub.renF (OT:=OT) (s:=⟨look R,lookX T 0 M l⟩) (ρ:=sw1 i (1000000+M.length)) (sw1_sw1 _ _) (sw1_ne (by unfold lentId;omega) (by unfold lentId;omega))
 have e:(⟨fun t=>(look R t).ren (sw1 i (1000000+M.length)),fun j=>(lookX T 0 M l (sw1 i (1000000+M.length) j)).map (AObj.ren (sw1 i (1000000+M.length)))⟩:St)=⟨look (rnR (sw1 i (1000000+M.length)) R),lookX T 0 (M++[r]) (renO (sw1 i (1000000+M.length)) (delL [i] l))⟩:=by
  congr 1
  ·funext t;exact (rnR_look _ R t).symm
  ·funext j
   by_cases h1:j=1000000+M.length
   ·rw[h1,sw1_r,lx_lo (by omega),hli]
    unfold lookX
    rw[if_pos (by simp),Nat.add_sub_cancel_left]
    simp[AObj.ren]
   ·by_cases h2:j=i
    ·rw[h2,sw1_l]
     unfold lookX
     rw[if_neg (by omega),if_neg (by simp;omega),hl _ (by omega),renO_look,lookM_del]
     simp
    ·rw[sw1_ne h2 h1]
     unfold lookX
     by_cases h3:1000000≤j∧j<1000000+M.length
     ·rw[if_pos h3,if_pos (by simp;omega)]
      have:(M++[r]).getD (j-1000000) []=M.getD (j-1000000) []:=by
       simp only[List.getD_eq_getElem?_getD]
       rw[List.getElem?_append_left (by omega)]
      rw[this]
      rfl
     ·rw[if_neg h3,if_neg (by simp;omega),renO_look,lookM_del]
      have:[i].contains j=false:=by simpa using h2
      rw[this];rfl
 rw[←e];exact h
theorem Sub.swapX (a b:Nat) (ha:a<M.length) (hb:b<M.length) :
  Sub OT ⟨look R,lookX T 0 M l⟩ ⟨look (rnR (sw1 (1000000+a) (1000000+b)) R),lookX T 0 ((M.set a (M.getD b [])).set b (M.getD a [])) (renO (sw1 (1000000+a) (1000000+b)) l)⟩:=by
 have h:=Sub.renF (OT:=OT) (s:=⟨look R,lookX T 0 M l⟩) (ρ:=sw1 (1000000+a) (1000000+b)) (sw1_sw1 _ _) (sw1_ne (by unfold lentId;omega) (by unfold lentId;omega))
 have e:(⟨fun t=>(look R t).ren (sw1 (1000000+a) (1000000+b)),fun j=>(lookX T 0 M l (sw1 (1000000+a) (1000000+b) j)).map (AObj.ren (sw1 (1000000+a) (1000000+b)))⟩:St)=⟨look (rnR (sw1 (1000000+a) (1000000+b)) R),lookX T 0 ((M.set a (M.getD b [])).set b (M.getD a [])) (renO (sw1 (1000000+a) (1000000+b)) l)⟩:=by
  congr 1
  ·funext t;exact (rnR_look _ R t).symm
  ·funext j
   have hlen:((M.set a (M.getD b [])).set b (M.getD a [])).length=M.length:=by simp
   by_cases h1:j=1000000+a
   ·rw[h1,sw1_l,lx_hi hb,lx_hi (by rw[hlen];exact ha)]
    have:((M.set a (M.getD b [])).set b (M.getD a [])).getD a []=M.getD b []:=by
     simp only[List.getD_eq_getElem?_getD,List.getElem?_set,List.length_set]
     by_cases e:b=a
     ·subst e;simp[ha]
     ·rw[if_neg e];simp[ha]
    rw[this];rfl
   ·by_cases h2:j=1000000+b
    ·rw[h2,sw1_r,lx_hi ha,lx_hi (by rw[hlen];exact hb)]
     have:((M.set a (M.getD b [])).set b (M.getD a [])).getD b []=M.getD a []:=by
      simp only[List.getD_eq_getElem?_getD,List.getElem?_set,List.length_set]
      simp[hb]
     rw[this];rfl
    ·rw[sw1_ne h1 h2]
     unfold lookX
     rw[hlen]
     by_cases h3:1000000≤j∧j<1000000+M.length
     ·rw[if_pos h3,if_pos h3]
      have:((M.set a (M.getD b [])).set b (M.getD a [])).getD (j-1000000) []=M.getD (j-1000000) []:=by
       simp only[List.getD_eq_getElem?_getD,List.getElem?_set]
       rw[if_neg (by omega),if_neg (by omega)]
      rw[this];rfl
     ·rw[if_neg h3,if_neg h3,renO_look]
 rw[←e];exact h
theorem Sub.freezeX {r:Nat→AV}:Sub OT ⟨r,lookX T 0 M l⟩ ⟨r,lookX T M.length M l⟩:=by
 have key:∀ b,b≤M.length→Sub OT ⟨r,lookX T 0 M l⟩ ⟨r,lookX T b M l⟩:=by
  intro b
  induction b with
  | zero=>exact fun _=>Sub.rf _
  | succ b ih =>
   intro hb
   have hm:lookX T b M l (1000000+b)=some ⟨T,1,.row ((M.getD b []).map (D.int .i64)),false⟩:=by
    unfold lookX
    rw[if_pos (by omega),Nat.add_sub_cancel_left]
    simp
   have h:=Sub.freeze (OT:=OT) (r:=r) (i:=1000000+b) (by unfold lentId;omega) hm
   have e:upd (lookX T b M l) (1000000+b) (some ⟨T,1,.row ((M.getD b []).map (D.int .i64)),true⟩)=lookX T (b+1) M l:=by
    funext j
    unfold lookX
    simp only[upd]
    by_cases e:j=1000000+b
    ·subst e
     rw[if_pos rfl,if_pos (by omega),Nat.add_sub_cancel_left]
     simp
    ·rw[if_neg e]
     split
     ·have:decide (j-1000000<b+1)=decide (j-1000000<b):=decide_eq_decide.2 (by omega)
      rw[this]
     ·rfl
   rw[e] at h
   exact (ih (by omega)).tr h
 exact key _ (Nat.le_refl _)
theorem Sub.recell {r:Nat→AV} {m:Mem} {i:Nat} {sz:Nat} {v u:AV} {f:Bool} (hi:i≠lentId) (hm:m i=some ⟨T,sz,.box v,f⟩) (hc:u.cells=v.cells):Sub OT ⟨r,m⟩ ⟨r,upd m i (some ⟨T,sz,.box u,f⟩)⟩:=by
 rintro C a w rfl ⟨⟨loc,hr⟩,h2⟩
 have hother:∀ j o,upd m i (some ⟨T,sz,.box u,f⟩) j=some o→∃ o0,m j=some o0∧o0.T=o.T∧o0.sz=o.sz∧o0.frz=o.frz∧(j≠i→o0=o)∧(j=i→o0=⟨T,sz,.box v,f⟩∧o=⟨T,sz,.box u,f⟩):=by
  intro j o ho
  by_cases e:j=i
  ·subst e;rw[upd_same] at ho;cases ho
   exact⟨_,hm,rfl,rfl,rfl,fun h=>absurd rfl h,fun _=>⟨rfl,rfl⟩⟩
  ·rw[upd_ne _ _ e] at ho
   exact⟨o,ho,rfl,rfl,rfl,fun _=>rfl,fun h=>absurd h e⟩
 have hN:NB C.base (upd m i (some ⟨T,sz,.box u,f⟩)) loc w=NB C.base m loc w:=by
  funext b
  refine propext ⟨fun ⟨h1,h2,h3⟩=>⟨h1,h2,?_⟩,fun ⟨h1,h2,h3⟩=>⟨h1,h2,?_⟩⟩
  ·rintro⟨j,o,L,g1,g2,g3,g4,g5⟩
   by_cases e:j=i
   ·subst e
    rw[hm] at g1;cases g1
    exact h3 ⟨j,_,L,upd_same _ _ _,g2,g3,g4,g5⟩
   ·exact h3 ⟨j,o,L,by rw[upd_ne _ _ e];exact g1,g2,g3,g4,g5⟩
  ·rintro⟨j,o,L,g1,g2,g3,g4,g5⟩
   obtain⟨o0,k1,k2,k3,k4,-,-⟩:=hother j o g1
   exact h3 ⟨j,o0,L,k1,by rw[k4];exact g2,g3,g4,g5⟩
 refine⟨⟨loc,hr.ext,hr.defers,hr.size,hr.low,fun j hj => ?_,fun t => ?_,fun j o ho => ?_,fun j j' o o' L L' ho ho' hf hLj hLj' hn hn' hb => ?_,hr.keepL.turn (fun o g1 g2=>⟨o,by dsimp only;rw[upd_ne _ _ (Ne.symm hi)];exact g1,g2⟩) (fun _=>rfl)⟩,fun j o ho => ?_⟩
 ·dsimp only at hj
  by_cases e:j=i
  ·subst e;rw[upd_same] at hj;cases hj
  ·rw[upd_ne _ _ e] at hj;exact hr.dom j hj
 ·rw[hN];exact hr.tmps t
 ·obtain⟨o0,k1,k2,k3,k4,k5,k6⟩:=hother j o ho
  obtain⟨L,hL1,hok⟩:=hr.objs j o0 k1
  by_cases e:j=i
  ·obtain⟨rfl,rfl⟩:=k6 e
   refine⟨L,hL1,hok.sz,fun hn=>(by have:=hok.nil hn;cases this),fun hn => ?_⟩
   obtain⟨c,fr,q1,q2,q3,q4,q5⟩:=hok.at_ hn
   rw[hN]
   refine⟨c,fr,q1,q2,?_,q4,q5⟩
   obtain⟨m1,m2,m3,m4⟩:=q3
   exact⟨m1,by rw[hc];exact m2,by rw[hc];exact m3,by rw[hc];exact m4⟩
  ·obtain rfl:=k5 e
   refine⟨L,hL1,hok.sz,hok.nil,fun hn => ?_⟩
   obtain⟨c,fr,q1,q2,q3,q4,q5⟩:=hok.at_ hn
   rw[hN]
   exact⟨c,fr,q1,q2,q3,q4,q5⟩
 ·obtain⟨o0,k1,-,-,k4,-,-⟩:=hother j o ho
  obtain⟨o1,k1',-,-,-,-,-⟩:=hother j' o' ho'
  exact hr.inj j j' o0 o1 L L' k1 k1' (k4.trans hf) hLj hLj' hn hn' hb
 ·obtain⟨o0,k1,k2,-,-,-,-⟩:=hother j o ho
  rw[←k2];exact h2 j o0 k1
end
theorem Sub.toXG {OT:List TypeId} {T:TypeId} {M:List (List Int)} {R:List (Nat × AV)} {l:List (Nat × AObj)} (b:Nat) (ts L:List Nat) {r':Nat→AV} {m':Mem} (h1:closedR L (sel (look R) ts)=true) (h2:closedM L l=true) (e1:look (sel (look R) ts)=r') (e2:lookX T b M (delL L l)=m') (h3:L.all (fun x=>decide (x<1000000))=true:=by rfl):Sub OT ⟨look R,lookX T b M l⟩ ⟨r',m'⟩:=by
 subst e1 e2;exact Sub.toX b ts L h1 h2 h3
theorem Sub.nilX {OT:List TypeId} {T:TypeId} {M:List (List Int)} {R:List (Nat × AV)} {l:List (Nat × AObj)} (b t i T' sz:Nat) {r':Nat→AV} {m':Mem} (ht:look R t = .nils T' sz) (hm:lookM l i=none) (hT:OT.contains T'=true) (hi:i<1000000)
  (e1:look (setR t (.slice i 0 0) R)=r') (e2:lookX T b M (setM i ⟨T',sz,.row [],false⟩ l)=m'):Sub OT ⟨look R,lookX T b M l⟩ ⟨r',m'⟩:=by
 subst e1 e2
 rw[←upd_look,←lu_lo hi]
 exact Sub.nil t i ht (by rw[lx_lo hi];exact hm) (by simpa using hT)
def rowsA (T:TypeId) (n m W:Nat):List AV:=(List.range n).map fun i=>if i<m then .slice (1000000+i) 0 W else .p (.list T 1 [])
theorem rowsA_len (T:TypeId) (n m W:Nat):(rowsA T n m W).length=n:=by simp[rowsA]
theorem rowsA_get {T:TypeId} {n m W i:Nat} (h:i<n):(rowsA T n m W)[i]? = some (if i<m then .slice (1000000+i) 0 W else .p (.list T 1 [])):=by simp[rowsA,h]
theorem box_get {T:TypeId} {n m W i:Nat} (h:i<m) (hn:i<n):(AV.agg (rowsA T n m W)).get i 1 n false=some (.slice (1000000+i) 0 W):=by
 unfold AV.get
 rw[if_neg (by simp[AV.isAgg])]
 unfold AV.part partA
 simp only[AV.cells]
 rw[if_neg (by simp),rowsA_get hn,if_pos h]
theorem get_I (k:IntKind) (n:Int):AV.get (.p (.int k n)) 0 1 1 false=some (.p (.int k n)):=by
 unfold AV.get
 rw[if_pos ⟨rfl,rfl,rfl⟩]
theorem mk_slices {l:List AV} (h:pureL l=none):AV.mk l = .agg l:=by unfold AV.mk;rw[h]
theorem pure_none {l:List AV} {i j o n:Nat} (h:l[i]? = some (.slice j o n)):pureL l=none:=by
 induction l generalizing i with
 | nil=>simp at h
 | cons v l ih =>
  rcases i with _ | i
  ·simp only[List.getElem?_cons_zero,Option.some.injEq] at h
   subst h
   simp only[pureL,AV.pure]
  ·simp only[List.getElem?_cons_succ] at h
   have:=ih h
   simp only[pureL,this]
   split<;>simp_all
theorem men_rows {L:List Nat} {T:TypeId} {n m W:Nat} (hL:L.all (fun x=>decide (x<1000000))=true):AV.men L (.agg (rowsA T n m W))=false:=by
 have key:∀ l:List AV,(∀ v∈l,v.men L=false)→menL L l=false:=by
  intro l
  induction l with
  | nil=>intro _;rfl
  | cons v l ih =>
   intro h
   rw[menL,h v (by simp),ih fun u hu=>h u (by simp[hu])];rfl
 rw[AV.men]
 refine key _ fun v hv => ?_
 simp only[rowsA,List.mem_map] at hv
 obtain⟨i,-,rfl⟩:=hv
 split
 ·rw[AV.men]
  cases e:L.contains (1000000+i) with
  | false=>rfl
  | true =>
   have:=List.all_eq_true.1 hL (1000000+i) (by simpa using e)
   simp only[decide_eq_true_eq] at this
   omega
 ·rw[AV.men]
  all_goals (intros;contradiction)
theorem closedM_rows {L:List Nat} {T T2:TypeId} {n m W i sz:Nat} {f:Bool} {l:List (Nat × AObj)} (hL:L.all (fun x=>decide (x<1000000))=true):closedM L ((i,⟨T2,sz,.box (.agg (rowsA T n m W)),f⟩)::l)=closedM L l:=by
 rw[closedM]
 have:AObj.men L ⟨T2,sz,.box (.agg (rowsA T n m W)),f⟩=false:=men_rows hL
 rw[this];simp
theorem forget_rows {T T2:TypeId} {n m W i sz:Nat} {f:Bool} (h:i<1000000):AObj.forget i ⟨T2,sz,.box (.agg (rowsA T n m W)),f⟩=⟨T2,sz,.box (.agg (rowsA T n m W)),f⟩:=by
 have key:∀ l:List AV,(∀ v∈l,v.forget i=v∧v≠.und)→forgetL i l=some l:=by
  intro l
  induction l with
  | nil=>intro _;rw[forgetL]
  | cons v l ih =>
   intro h
   obtain⟨h1,h2⟩:=h v (by simp)
   have h3:=ih fun u hu=>h u (by simp[hu])
   rw[forgetL,h1,h3]
   cases v<;>first | rfl | exact absurd rfl h2
 have h1:forgetL i (rowsA T n m W)=some (rowsA T n m W):=by
  refine key _ fun v hv => ?_
  simp only[rowsA,List.mem_map] at hv
  obtain⟨j,-,rfl⟩:=hv
  split
  ·exact⟨by rw[forget_slice,if_neg (by omega)],by intro e;cases e⟩
  ·exact⟨forget_p _ _,by intro e;cases e⟩
 rw[of_box,forget_agg,h1]
theorem box_putL {l:List AV} {i k o W:Nat} (h:i<l.length):AV.mk (l.take i++[AV.slice k o W]++l.drop (i+1)) = .agg (l.set i (.slice k o W)):=by
 have e:l.take i++[AV.slice k o W]++l.drop (i+1)=l.set i (.slice k o W):=by
  rw[List.set_eq_take_append_cons_drop,if_pos h];simp
 rw[e]
 exact mk_slices (pure_none (i:=i) (j:=k) (o:=o) (n:=W) (by rw[List.getElem?_set];simp[h]))
end Go.Proofs.Ytlnhembcfhfpkaa.M
end
