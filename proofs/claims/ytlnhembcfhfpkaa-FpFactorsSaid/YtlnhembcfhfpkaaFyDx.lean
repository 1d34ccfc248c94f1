/- Polynomials modulo a prime: the kernel's last loop walked. -/
import Derived.Test.YtlnhembcfhfpkaaFyCx
import Derived.Test.YtlnhembcfhfpkaaK4
namespace Go.Proofs.Ytlnhembcfhfpkaa.M
open Go.RowKit Go.Proofs.Ytlnhembcfhfpkaa.Fx
open Nat (reduceEqDiff reduceAdd reduceLT reduceLeDiff reduceSub)
set_option linter.unusedSimpArgs false
set_option linter.unusedVariables false
variable {P:Pr}
set_option maxRecDepth 20000 in
theorem clone_con {T:Nat} (l:List Int) (h:l.length≤1000000):Con Try.prog [] 38 [LT T l] (L l):=by
 refine fn38.con rfl (by simp) ?_
 (try simp only[init1,c38,c38_13,c38_1,l38_0,cw,cops,csW,csL,reduceIte,reduceEqDiff,reduceCtorEq,reduceAdd,reduceLT,reduceLeDiff,reduceSub])
 (repeat refine And.intro (by first|omega|(simp;omega)) ?_)
 refine keep [0] ?_
 (try simp only[c38_12,c38_8,c38_3,l38_2,cw,cops,csW,csL,reduceIte,reduceEqDiff,reduceCtorEq,reduceAdd,reduceLT,reduceLeDiff,reduceSub])
 (repeat refine And.intro (by first|omega|(simp;omega)) ?_)
 intro b hb
 refine keep [0,4] ?_
 (try simp only[c38_7,cw,cops,csW,csL,reduceIte,reduceEqDiff,reduceCtorEq,reduceAdd,reduceLT,reduceLeDiff,reduceSub])
 (repeat refine And.intro (by first|omega|(simp;omega)) ?_)
 refine⟨fun hc => ?_,fun hc => ?_⟩
 ·have hl:l=[]:=by
   rcases l with _ | ⟨x,l⟩
   ·rfl
   ·have:=hb (by simp)
    subst this
    simp at hc
  subst hl
  (try simp only[c38_6,c38_5,l38_4,cw,cops,csW,csL,reduceIte,reduceEqDiff,reduceCtorEq,reduceAdd,reduceLT,reduceLeDiff,reduceSub])
  (repeat refine And.intro (by first|omega|(simp;omega)) ?_)
  refine keep [2] ?_
  (try simp only[cw,cops,csW,csL,reduceIte,reduceEqDiff,reduceCtorEq,reduceAdd,reduceLT,reduceLeDiff,reduceSub,Ends,resD,resL,resV])
  (repeat refine And.intro (by first|omega|(simp;omega)) ?_)
  rfl
 ·(try simp only[cw,cops,csW,csL,reduceIte,reduceEqDiff,reduceCtorEq,reduceAdd,reduceLT,reduceLeDiff,reduceSub,csA])
  (repeat refine And.intro (by first|omega|(simp;omega)) ?_)
  refine keep [0] ?_
  (try simp only[c38_11,c38_10,l38_9,cw,cops,csW,csL,reduceIte,reduceEqDiff,reduceCtorEq,reduceAdd,reduceLT,reduceLeDiff,reduceSub,csA])
  (repeat refine And.intro (by first|omega|(simp;omega)) ?_)
  refine keep [2] ?_
  (try simp only[cw,cops,csW,csL,reduceIte,reduceEqDiff,reduceCtorEq,reduceAdd,reduceLT,reduceLeDiff,reduceSub,Ends,resD,resL,resV,csA])
  (repeat refine And.intro (by first|omega|(simp;omega)) ?_)
  simp only[List.replicate_zero,List.nil_append,Bool.false_or,true_and,Nat.le_refl,if_true,List.take_length]
abbrev LL (B:List (List Int)):D:=.list 22 1 (B.map fun b=>D.list 3 1 (b.map (D.int .i64)))
theorem LL_app {n:Nat} (g:Nat→List Int) {x:List Int} (h:x=g n):((List.range n).map g).map (fun b=>D.list 3 1 (b.map (D.int .i64)))++[D.list 3 1 (x.map (D.int .i64))]=((List.range (n+1)).map g).map (fun b=>D.list 3 1 (b.map (D.int .i64))):=by
 rw[h,List.range_succ,List.map_append,List.map_append];rfl
abbrev kOT:List TypeId:=[22,3,2000026]
set_option maxRecDepth 20000 in
set_option maxHeartbeats 2000000 in
theorem ker_tail (M:List (List Int)) (n top:Nat) (hM:M.length=n) (hrow:∀ i,i<n→(M.getD i []).length=2*n) (hn:n≤100000) (ht:top≤n) (d0:D) :
  cw kOT (ConX Try.prog []) c56_180 (Ends (LL ((List.range (n-top)).map fun i=>trim ((M.getD (top+i) []).drop n))) [(4,none)]) ⟨look [(5,.p (I n)),(6,.arr 25 0 n),(11,.p (I top))],lookX 3 n M [(25,⟨22,n,.box (.agg (rowsA 3 n n (2*n))),false⟩)]⟩:=by
 have ht0:(0:Int)≤(top:Int):=by omega
 have htn:(top:Int)≤(n:Int):=by omega
 skip
 (try simp only[c56_180,c56_154,l56_153,cw,cops,csW,csL,reduceIte,reduceEqDiff,reduceCtorEq,reduceAdd,reduceLT,reduceLeDiff,reduceSub,lx_lo,lu_lo,lf_X,get_I,forget_rows,csT,ht0,htn])
 (repeat refine And.intro (by first|omega|(simp;omega)) ?_)
 refine keep [5,6,11,18] ?_
 (try simp only[c56_179,c56_175,c56_156,l56_155,cw,cops,csW,csL,reduceIte,reduceEqDiff,reduceCtorEq,reduceAdd,reduceLT,reduceLeDiff,reduceSub,lx_lo,lu_lo,lf_X,get_I,forget_rows,csT,ht0,htn])
 (repeat refine And.intro (by first|omega|(simp;omega)) ?_)
 refine keep [5,18,205,206,207] ?_
 (try simp only[c56_174,cw,cops,csW,csL,reduceIte,reduceEqDiff,reduceCtorEq,reduceAdd,reduceLT,reduceLeDiff,reduceSub,lx_lo,lu_lo,lf_X,get_I,forget_rows,csT,ht0,htn])
 refine loop_of (ι:=Nat) (fun i=>i≤n-top) (fun i=>⟨look [(5,.p (I n)),(18,.slice 318 0 i),(205,.arr 25 top (n-top)),(206,.p (I ((n-top:Nat):Int))),(207,.p (I i))],lookX 3 n M [(25,⟨22,n,.box (.agg (rowsA 3 n n (2*n))),false⟩),(318,⟨22,1,.row (((List.range i).map fun i=>trim ((M.getD (top+i) []).drop n)).map fun b=>D.list 3 1 (b.map (D.int .i64))),false⟩)]⟩) (fun i=>n-top-i) 0 (by omega) ?_ ?_
 ·-- (Sub.nilG 18 318 22 1 (by rfl) (by rfl) (by decide) (by rfl) (by rfl))
  exact (Sub.toXG n [5,18,205,206,207] [] (by rfl) (by rw[closedM_rows (by rfl)];rfl) rfl rfl).tr (Sub.nilX n 18 318 22 1 (by rfl) (by rfl) (by decide) (by decide) (by rfl) (by rfl))
 intro i hi
 by_cases h:i<n-top
 ·have hI:(i:Int)<((n-top:Nat):Int):=by omega
  have h1:top+i<n:=by omega
  have h2:top+i<M.length:=by omega
  have hbg:=box_get (T:=3) (W:=2*n) h1 h1
  have hlx:∀ l,lookX 3 n M l (1000000+(top+i))=some ⟨3,1,.row ((M.getD (top+i) []).map (D.int .i64)),true⟩:=fun l=>lx_fz h2 h1
  have hr:=hrow (top+i) h1
  have hnn:2*n-n=n:=by omega
  have hn2:(n+n≤2*n)=True:=eq_true (by omega)
  have htk:((M.getD (top+i) []).drop n).take n=(M.getD (top+i) []).drop n:=List.take_of_length_le (by rw[List.length_drop];omega)
  have happ:=LL_app (n:=i) (fun i=>trim ((M.getD (top+i) []).drop n)) rfl
  (try simp only[c56_172,c56_158,l56_157,cw,cops,csW,csL,reduceIte,reduceEqDiff,reduceCtorEq,reduceAdd,reduceLT,reduceLeDiff,reduceSub,lx_lo,lu_lo,lf_X,get_I,forget_rows,csT,hI])
  (repeat refine And.intro (by first|omega|(simp;omega)) ?_)
  refine keep [5,18,205,206,207,208] ?_
  (try simp only[c56_171,c56_159,cw,cops,csW,csL,reduceIte,reduceEqDiff,reduceCtorEq,reduceAdd,reduceLT,reduceLeDiff,reduceSub,lx_lo,lu_lo,lf_X,get_I,forget_rows,csT,hI])
  (repeat refine And.intro (by first|omega|(simp;omega)) ?_)
  (try simp only[cw,cops,csW,csL,reduceIte,reduceEqDiff,reduceCtorEq,reduceAdd,reduceLT,reduceLeDiff,reduceSub,lx_lo,lu_lo,lf_X,get_I,forget_rows,csT,hI,hbg,hlx,hr,hnn,hn2,htk,Bool.true_or])
  (repeat refine And.intro (by first|omega|(simp;omega)) ?_)
  refine keep [5,18,205,206,207] ?_
  (try simp only[c56_170,c56_167,c56_166,c56_161,l56_160,cw,cops,csW,csL,reduceIte,reduceEqDiff,reduceCtorEq,reduceAdd,reduceLT,reduceLeDiff,reduceSub,lx_lo,lu_lo,lf_X,get_I,forget_rows,csT,hI,hbg,hlx,hr,hnn,hn2,htk,Bool.true_or])
  (repeat refine And.intro (by first|omega|(simp;omega)) ?_)
  refine keep [5,18,20,205,206,207] ?_
  (try simp only[c56_165,l56_162,cw,cops,csW,csL,reduceIte,reduceEqDiff,reduceCtorEq,reduceAdd,reduceLT,reduceLeDiff,reduceSub,lx_lo,lu_lo,lf_X,get_I,forget_rows,csT,hI,hbg,hlx,hr,hnn,hn2,htk,Bool.true_or])
  (repeat refine And.intro (by first|omega|(simp;omega)) ?_)
  refine⟨_,cx (clone_con ((M.getD (top+i) []).drop n) (by rw[List.length_drop];omega)),?_⟩
  (try simp only[l56_163,cw,cops,csW,csL,reduceIte,reduceEqDiff,reduceCtorEq,reduceAdd,reduceLT,reduceLeDiff,reduceSub,lx_lo,lu_lo,lf_X,get_I,forget_rows,csT])
  (repeat refine And.intro (by first|omega|(simp;omega)) ?_)
  refine⟨_,cx (made_con ((M.getD (top+i) []).drop n) (by rw[List.length_drop];omega)),?_⟩
  (try simp only[l56_164,cw,cops,csW,csL,reduceIte,reduceEqDiff,reduceCtorEq,reduceAdd,reduceLT,reduceLeDiff,reduceSub,lx_lo,lu_lo,lf_X,get_I,forget_rows,csT,happ,List.length_range,List.length_map])
  (repeat refine And.intro (by first|omega|(simp;omega)) ?_)
  refine keep [5,18,205,206,207] ?_
  (try simp only[c56_169,l56_168,cw,cops,csW,csL,reduceIte,reduceEqDiff,reduceCtorEq,reduceAdd,reduceLT,reduceLeDiff,reduceSub,lx_lo,lu_lo,lf_X,get_I,forget_rows,csT,happ,List.length_range,List.length_map])
  (repeat refine And.intro (by first|omega|(simp;omega)) ?_)
  exact⟨i+1,by omega,(Sub.toXG n [5,18,205,206,207] [26,31,217] (by rfl) (by rw[closedM_rows (by rfl)];rfl) (by rfl) (by rfl)),by omega⟩
 ·have hI:¬ (i:Int)<((n-top:Nat):Int):=by omega
  have hin:i=n-top:=by omega
  have hLe:(i≤i)=True:=eq_true (Nat.le_refl _)
  have htk:(((List.range i).map fun i=>trim ((M.getD (top+i) []).drop n)).map fun b=>D.list 3 1 (b.map (D.int .i64))).take i=((List.range i).map fun i=>trim ((M.getD (top+i) []).drop n)).map fun b=>D.list 3 1 (b.map (D.int .i64)):=List.take_of_length_le (by simp)
  (try simp only[c56_172,c56_158,l56_157,cw,cops,csW,csL,reduceIte,reduceEqDiff,reduceCtorEq,reduceAdd,reduceLT,reduceLeDiff,reduceSub,lx_lo,lu_lo,lf_X,get_I,forget_rows,csT,hI])
  (repeat refine And.intro (by first|omega|(simp;omega)) ?_)
  refine keep [5,18,205,206,207,208] ?_
  (try simp only[c56_171,c56_159,cw,cops,csW,csL,reduceIte,reduceEqDiff,reduceCtorEq,reduceAdd,reduceLT,reduceLeDiff,reduceSub,lx_lo,lu_lo,lf_X,get_I,forget_rows,csT,hI])
  (repeat refine And.intro (by first|omega|(simp;omega)) ?_)
  (try simp only[cw,cops,csW,csL,reduceIte,reduceEqDiff,reduceCtorEq,reduceAdd,reduceLT,reduceLeDiff,reduceSub,lx_lo,lu_lo,lf_X,get_I,forget_rows,csT,hI,htk,List.length_map,List.length_range,Bool.true_or,Nat.le_refl])
  (repeat refine And.intro (by first|omega|(simp;omega)) ?_)
  refine keepF 318 _ [18] (by rfl) ?_
  (try simp only[c56_178,c56_177,l56_176,cw,cops,csW,csL,reduceIte,reduceEqDiff,reduceCtorEq,reduceAdd,reduceLT,reduceLeDiff,reduceSub,lx_lo,lu_lo,lf_X,get_I,forget_rows,csT,hI,htk,List.length_map,List.length_range,Bool.true_or,Nat.le_refl])
  (repeat refine And.intro (by first|omega|(simp;omega)) ?_)
  refine keep [4] ?_
  (try simp only[cw,cops,csW,csL,reduceIte,reduceEqDiff,reduceCtorEq,reduceAdd,reduceLT,reduceLeDiff,reduceSub,lx_lo,lu_lo,lf_X,get_I,forget_rows,csT,Ends,resD,resL,resV,hI,htk,List.length_map,List.length_range,Bool.true_or,Nat.le_refl])
  (repeat refine And.intro (by first|omega|(simp;omega)) ?_)
  rw[←hin]
end Go.Proofs.Ytlnhembcfhfpkaa.M
