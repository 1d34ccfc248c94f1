/- Polynomials: texts; reading. -/
import Derived.Test.YtkidkimjdiichaaGreatPoBw
namespace Go.Proofs.YtkidkimjdiichaaGreat.M
open Go.RowKit
set_option linter.unusedSimpArgs false
set_option linter.unusedVariables false
set_option linter.defProp false
def txt (x:Rat):List UInt8:=frText x.num x.den
abbrev LS (T:Nat) (l:List (List UInt8)):D:=.list T 1 (l.map D.str)
theorem getD_s {l:List (List UInt8)} {i:Nat} (h:i<l.length):(l.map D.str).getD i default = .str (l.getD i []):=by simp[h]
theorem set_s (l:List (List UInt8)) (i:Nat) (x:List UInt8):(l.map D.str).set i (.str x)=(l.set i x).map D.str:=List.map_set.symm
theorem rep_s (n:Nat) (x:List UInt8):List.replicate n (D.str x)=(List.replicate n x).map D.str:=List.map_replicate.symm
theorem app_s (l:List (List UInt8)) (x:List UInt8):l.map D.str++[.str x]=(l++[x]).map D.str:=by simp
theorem take_s (l:List (List UInt8)) (n:Nat):(l.map D.str).take n=(l.take n).map D.str:=List.map_take.symm
def tabS (n:Nat) (f:Nat→List UInt8):List (List UInt8):=(List.range n).map f
theorem tabS_len (n:Nat) (f:Nat→List UInt8):(tabS n f).length=n:=by simp[tabS]
def partS (N:Nat) (f:Nat→List UInt8) (i:Nat):List (List UInt8):=tabS N fun j=>if j<i then f j else []
theorem partS_0 (N:Nat) (f:Nat→List UInt8):partS N f 0=List.replicate N []:=by apply List.ext_getElem<;>simp[partS,tabS]
theorem partS_len (N:Nat) (f:Nat→List UInt8) (i:Nat):(partS N f i).length=N:=tabS_len _ _
theorem partS_set {N:Nat} {f:Nat→List UInt8} {i:Nat} (h:i<N):(partS N f i).set i (f i)=partS N f (i+1):=by
 apply List.ext_getElem
 ·simp[partS,tabS]
 ·intro j h1 h2
  rw[List.getElem_set]
  simp only[partS,tabS,List.getElem_map,List.getElem_range]
  by_cases e:i=j
  ·subst e;rw[if_pos rfl,if_pos (by omega)]
  ·rw[if_neg e]
   by_cases hj:j<i
   ·rw[if_pos hj,if_pos (by omega)]
   ·rw[if_neg hj,if_neg (by omega)]
theorem partS_all (N:Nat) (f:Nat→List UInt8):partS N f N=tabS N f:=by
 unfold partS tabS;apply List.map_congr_left;intro j hj;exact if_pos (List.mem_range.1 hj)
def txts (l:List Rat):List (List UInt8):=tabS l.length fun i=>txt (cf l i)
theorem rep1_s (x:List UInt8):List.replicate 1 x=[x]:=rfl
theorem set0_s (x z:List UInt8) (l:List (List UInt8)):(z::l).set 0 x=x::l:=rfl
def csS:=And.intro @rep1_s (And.intro @set0_s (And.intro @set_s (And.intro @rep_s (And.intro @app_s (And.intro @take_s (And.intro @tabS_len (@partS_len)))))))
def csP:=And.intro csM (And.intro csQ (And.intro csS (And.intro @part_len (@tab_len))))
set_option maxHeartbeats 1000000 in
theorem texts_con (l:List Rat) (n:Nat) (hl:Bl n l) (hn:n≤big) (h1:l.length≤1000000):Con Tryz.prog AN 104 [pI l] (LS 9 (txts l)):=by
 obtain⟨N,hN⟩:∃ N,N=l.length:=⟨_,rfl⟩
 refine fn104.con rfl (by simp) ?_
 simp only[c104,c104_29,c104_1,l104_0,init1,cw,csW,cops,reduceCtorEq,Nat.reduceEqDiff]
 refine keep [1] ?_
 simp only[c104_28,c104_3,l104_2,csW,reduceCtorEq,Nat.reduceEqDiff,cw,cops,csP,←hN]
 (repeat refine And.intro (by first | omega | (simp;omega)) ?_)
 refine keep [1,3] ?_
 simp only[c104_27,c104_23,c104_5,l104_4,csW,Nat.reduceEqDiff,cw,cops,csP,←hN]
 refine keep [3,11,12,13] ?_
 simp only[c104_22,csW,Nat.reduceEqDiff,cw]
 refine loop_of (ι:=Nat) (fun i=>i≤N) (fun i=>⟨look [(3,.slice 9 0 N),(11,.p (LI l)),(12,.p (J N)),(13,.p (J i))],
  lookM [(9,⟨9,1,.row ((partS N (fun j=>txt (cf l j)) i).map D.str),false⟩)]⟩) (fun i=>N-i) 0 (by omega) (by rw[partS_0];exact (Sub.toG [3,11,12,13] [1,5] (by rfl) (by rfl) (by rfl) (by rfl))) ?_
 rintro i hi
 by_cases h:i<N
 ·have hI:(i:Int)<(N:Int):=by omega
  have hil:i<l.length:=by omega
  simp only[c104_20,c104_7,l104_6,cw,csW,cops,Nat.reduceEqDiff,hI]
  refine keep [3,11,12,13,14] ?_
  simp only[c104_19,c104_8,csW,Nat.reduceEqDiff,cw]
  refine keep [3,11,12,13] ?_
  simp only[c104_18,c104_15,c104_14,c104_10,l104_9,csP,csW,Nat.reduceEqDiff,cw,cops,Nat.reduceLT,getD_q hil,Nat.reduceAdd]
  (repeat refine And.intro (by first | omega | (simp;omega)) ?_)
  refine keep [3,4,5,11,12,13] ?_
  simp only[c104_13,l104_11,csW,Nat.reduceEqDiff,cw,cops,csP,Nat.reduceLT,Nat.reduceAdd]
  refine⟨_,qText _ n (hl i) hn,?_⟩
  simp only[l104_12,cops,csW,csP,Nat.reduceEqDiff]
  (repeat refine And.intro (by first | omega | (simp;omega)) ?_)
  refine keep [3,11,12,13] ?_
  simp only[c104_17,l104_16,csW,Nat.reduceEqDiff,cw,cops]
  (repeat refine And.intro (by first | omega | (simp;omega)) ?_)
  exact⟨i+1,by omega,by rw[←partS_set (f:=fun j=>txt (cf l j)) h];exact (Sub.toG [3,11,12,13] [1,5] (by rfl) (by rfl) (by rfl) (by rfl)),by omega⟩
 ·have hI:¬ (i:Int)<(N:Int):=by omega
  have hiN:i=N:=by omega
  subst hiN
  simp only[c104_20,c104_7,l104_6,cw,csW,cops,Nat.reduceEqDiff,hI]
  refine keep [3,11,12,13,14] ?_
  simp only[c104_19,c104_8,csW,Nat.reduceEqDiff,cw]
  have htk:(partS i (fun j=>txt (cf l j)) i).take i=txts l:=by rw[List.take_of_length_le (by rw[partS_len];omega),partS_all,hN];rfl
  refine keep [3] ?_
  simp only[c104_26,c104_25,l104_24,csW,Nat.reduceEqDiff,cw,cops]
  refine keep [2] ?_
  simp only[Ends,resD,resL,resV,csW,Nat.reduceEqDiff,Bool.or_true,csP,Nat.le_refl,htk]
end Go.Proofs.YtkidkimjdiichaaGreat.M
