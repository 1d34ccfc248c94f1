/- Polynomials modulo a prime: the order of polynomials in plain Lean; sorted lists. -/
import Derived.Test.YtlnhembcfhfpkaaFyOx
namespace Go.Proofs.Ytlnhembcfhfpkaa.M
open Go.RowKit
set_option linter.unusedSimpArgs false
set_option linter.unusedVariables false
theorem cmpI_anti (a b:Int):cmpI b a = -cmpI a b:=by unfold cmpI;split<;>split<;>(try split)<;>omega
theorem cmpI_cases (a b:Int):(a<b∧cmpI a b = -1)∨(a=b∧cmpI a b=0)∨(b<a∧cmpI a b=1):=by
 rcases Int.lt_trichotomy a b with h | h | h
 ·exact .inl ⟨h,cmpI_lt h⟩
 ·exact .inr (.inl ⟨h,by rw[h];exact cmpI_eq b⟩)
 ·exact .inr (.inr ⟨h,cmpI_gt h⟩)
theorem ordA_anti (f g:List Int):∀ k,ordA g f k = -ordA f g k
 | 0=>rfl
 | k+1=>by
  rw[ordA,ordA,ordA_anti f g k,cmpI_anti]
  by_cases h:cmpI (f.getD k 0) (g.getD k 0)=0
  ·rw[if_pos h,if_pos (by omega)]
  ·rw[if_neg h,if_neg (by omega)]
theorem ordL_anti (f g:List Int):ordL g f = -ordL f g:=by
 unfold ordL
 rw[cmpI_anti]
 by_cases h:cmpI f.length g.length=0
 ·rw[if_pos h,if_pos (by omega),ordA_anti]
  have:=cmpI_0.1 h
  rw[show g.length=f.length by omega]
 ·rw[if_neg h,if_neg (by omega)]
theorem ordA_trans (f g h:List Int):∀ k,ordA f g k≤0→ordA g h k≤0→ordA f h k≤0∧(ordA f g k<0∨ordA g h k<0→ordA f h k<0)
 | 0,_,_=>⟨Int.le_refl _,fun h=>by rcases h with h | h<;>exact h⟩
 | k+1,h1,h2=>by
  have ih:=ordA_trans f g h k
  have A:=cmpI_cases (f.getD k 0) (g.getD k 0)
  have B:=cmpI_cases (g.getD k 0) (h.getD k 0)
  have C:=cmpI_cases (f.getD k 0) (h.getD k 0)
  simp only[ordA] at h1 h2 ⊢
  generalize cmpI (f.getD k 0) (g.getD k 0)=x at *
  generalize cmpI (g.getD k 0) (h.getD k 0)=y at *
  generalize cmpI (f.getD k 0) (h.getD k 0)=z at *
  generalize f.getD k 0=a at *
  generalize g.getD k 0=b at *
  generalize h.getD k 0=c at *
  by_cases hx:x=0
  ·by_cases hy:y=0
   ·have hz:z=0:=by omega
    rw[if_pos hx] at h1 ⊢
    rw[if_pos hy] at h2 ⊢
    rw[if_pos hz]
    exact ih h1 h2
   ·have hz:z=y:=by omega
    rw[if_neg hy] at h2 ⊢
    rw[if_neg (by omega),hz]
    exact⟨h2,fun _=>by omega⟩
  ·rw[if_neg hx] at h1 ⊢
   by_cases hy:y=0
   ·rw[if_neg (by omega)]
    exact⟨by omega,fun _=>by omega⟩
   ·rw[if_neg hy] at h2 ⊢
    rw[if_neg (by omega)]
    exact⟨by omega,fun _=>by omega⟩
theorem ordL_trans {f g h:List Int} (h1:ordL f g≤0) (h2:ordL g h≤0):ordL f h≤0∧(ordL f g<0∨ordL g h<0→ordL f h<0):=by
 have ih:=ordA_trans f g h f.length
 have A:=cmpI_cases (f.length:Int) g.length
 have B:=cmpI_cases (g.length:Int) h.length
 have C:=cmpI_cases (f.length:Int) h.length
 unfold ordL at *
 generalize cmpI (f.length:Int) g.length=x at *
 generalize cmpI (g.length:Int) h.length=y at *
 generalize cmpI (f.length:Int) h.length=z at *
 by_cases hx:x=0
 ·have e:g.length=f.length:=by omega
  rw[e] at h2 ⊢
  by_cases hy:y=0
  ·have hz:z=0:=by omega
   rw[if_pos hx] at h1 ⊢
   rw[if_pos hy] at h2 ⊢
   rw[if_pos hz]
   exact ih h1 h2
  ·rw[if_neg hy] at h2 ⊢
   rw[if_neg (by omega)]
   exact⟨by omega,fun _=>by omega⟩
 ·rw[if_neg hx] at h1 ⊢
  by_cases hy:y=0
  ·rw[if_neg (by omega)]
   exact⟨by omega,fun _=>by omega⟩
  ·rw[if_neg hy] at h2 ⊢
   rw[if_neg (by omega)]
   exact⟨by omega,fun _=>by omega⟩
theorem ordA_0 {f g:List Int}:∀ {k:Nat},ordA f g k=0→∀ i,i<k→f.getD i 0=g.getD i 0
 | 0,_,i,hi=>by omega
 | k+1,h,i,hi=>by
  rw[ordA] at h
  split at h
  ·rename_i hc
   by_cases e:i=k
   ·rw[e];exact cmpI_0.1 hc
   ·exact ordA_0 h i (by omega)
  ·rename_i hc;exact absurd h hc
theorem ordL_0 {f g:List Int} (h:ordL f g=0):f=g:=by
 unfold ordL at h
 split at h
 ·rename_i hc
  have hl:=cmpI_0.1 hc
  refine List.ext_getElem (by omega) fun i h1 h2 => ?_
  have:=ordA_0 h i h1
  simpa[List.getD_eq_getElem?_getD,h1,h2] using this
 ·rename_i hc;exact absurd h hc
theorem ordL_self (f:List Int):ordL f f=0:=by have:=ordL_anti f f;omega
theorem sorted_eq {α:Type} (key:α→List Int):∀ {l m:List α},l.Perm m→l.Pairwise (fun x y=>ordL (key x) (key y)≤0)→m.Pairwise (fun x y=>ordL (key x) (key y)<0)→l=m
 | [],m,hp,_,_=>hp.nil_eq
 | x::l,[],hp,_,_=>hp.symm.nil_eq.symm
 | x::l,y::m,hp,hl,hm=>by
  have hx:x∈y::m:=hp.subset (by simp)
  have hy:y∈x::l:=hp.symm.subset (by simp)
  have e:x=y:=by
   rcases List.mem_cons.1 hx with h | h
   ·exact h
   ·exfalso
    have h1:=(List.pairwise_cons.1 hm).1 x h
    rcases List.mem_cons.1 hy with h2 | h2
    ·rw[h2,ordL_self] at h1;omega
    ·have h3:=(List.pairwise_cons.1 hl).1 y h2
     have h4:=ordL_anti (key x) (key y)
     omega
  subst e
  rw[sorted_eq key (List.Perm.cons_inv hp) (List.pairwise_cons.1 hl).2 (List.pairwise_cons.1 hm).2]
end Go.Proofs.Ytlnhembcfhfpkaa.M
