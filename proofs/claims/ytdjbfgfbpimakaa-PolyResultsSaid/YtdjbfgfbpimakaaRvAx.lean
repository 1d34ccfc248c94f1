/- Polynomials: monic, the derivative, the value at a point. -/
import Derived.Test.YtdjbfgfbpimakaaK11
import Derived.Test.YtdjbfgfbpimakaaK9
namespace Go.Proofs.Ytdjbfgfbpimakaa.M
open Go.RowKit
set_option linter.unusedSimpArgs false
set_option linter.unusedVariables false
set_option linter.defProp false
def monQ (l:List Rat):List Rat:=sclQ l (1 / ld l)
theorem mon_nil:monQ []=[]:=rfl
theorem bq_nat (i n:Nat) (hi:i<2^n) (hn:0<n):Bq n (((i:Nat):Int):Rat):=⟨by simpa using hi,Nat.one_lt_two_pow (by omega)⟩
def dco (l:List Rat) (j:Nat):Rat:=cf l (j+1)*(((j:Int)+1:Int):Rat)
theorem dco_der (l:List Rat):trimQ (tab (l.length-1) (dco l))=derQ l:=by
 unfold derQ
 refine congrArg trimQ (tab_ext fun i _ => ?_)
 rw[←Rat.intCast_natCast];rfl
theorem dco_bq {l:List Rat} {m:Nat} (h:Bl m l) {j:Nat} (hj:j<1000000):Bq (m+20) (dco l j):=by
 have h20:j+1<2^20:=by omega
 exact (h (j+1)).mul (bq_nat (j+1) 20 h20 (by omega))
theorem der_len (l:List Rat):(derQ l).length≤l.length:=by unfold derQ;exact Nat.le_trans (trim_len _) (by rw[tab_len];omega)
set_option maxHeartbeats 4000000 in
theorem derive_con (l:List Rat) (m n:Nat) (hl:Bl m l) (hmn:m+20≤n) (hn:n≤big) (h1:l.length≤1000000):Con Try.prog AN 29 [pI l] (pI (derQ l)):=by
 rw[←dco_der]
 obtain⟨N,hN⟩:∃ N,N=l.length:=⟨_,rfl⟩
 refine fn29.con rfl (by simp) ?_
 simp only[c29,c29_36,c29_1,l29_0,←hN,init1,cw,csW,cops,reduceCtorEq,Nat.reduceEqDiff]
 refine keep [1,2] ?_
 simp only[c29_35,c29_3,l29_2,csW,reduceCtorEq,Nat.reduceEqDiff,cw,cops]
 refine keep [1,2,3] ?_
 simp only[c29_34,c29_29,c29_5,l29_4,csW,Nat.reduceEqDiff,cw,cops,csP,←hN]
 refine keep [2,3,7,8,9] ?_
 simp only[c29_28,csW,Nat.reduceEqDiff,cw]
 refine loop_of (ι:=Nat × Nat) (fun x=>x.1≤N∧(x.1=0∧x.2=0∨x.1=x.2+1)) (fun x=>⟨look [(2,.ptr 2 0 0),(3,.slice 105 0 x.2),(7,.p (LI l)),(8,.p (J N)),(9,.p (J x.1))],
  lookM [(2,⟨25,1,.box zPoly,false⟩),(105,⟨39,4,.row ((tab x.2 (dco l)).map qI),false⟩)]⟩) (fun x=>N-x.1) (0,0) ⟨by simp only;omega,by simp⟩ ((Sub.keepG [2,3,7,8,9] [1] (by rfl) (by rfl)).tr (Sub.nilG 3 105 39 4 (by rfl) (by rfl) (by decide) (by rfl) (by rfl))) ?_
 rintro⟨i,k⟩ ⟨hi,hk⟩
 simp only at hi hk
 by_cases h:i<N
 ·rcases hk with⟨rfl,rfl⟩ | rfl
  ·have hI:(0:Int)<(N:Int):=by omega
   have hp:¬ (0:Int)<0:=by omega
   have hil:0<l.length:=by omega
   simp only[c29_26,c29_7,l29_6,csW,cw,cops,Nat.reduceEqDiff,hI]
   refine keep [2,3,7,8,9,10] ?_
   simp only[c29_25,c29_8,csW,Nat.reduceEqDiff,cw]
   refine keep [2,3,7,8,9] ?_
   simp only[c29_24,c29_21,c29_20,c29_10,l29_9,csP,csW,Nat.reduceEqDiff,cw,cops,Nat.reduceLT,getD_q hil,Nat.reduceAdd]
   (repeat refine And.intro (by first | omega | (simp;omega)) ?_)
   refine keep [2,3,4,5,7,8,9] ?_
   simp only[c29_19,c29_12,l29_11,csW,Nat.reduceEqDiff,cw,cops,hp]
   refine keep [2,3,4,5,7,8,9,15] ?_
   simp only[c29_18,csW,Nat.reduceEqDiff,cw]
   refine keep [2,3,7,8,9] ?_
   simp only[c29_23,l29_22,csW,Nat.reduceEqDiff,cw,cops]
   (repeat refine And.intro (by first | omega | (simp;omega)) ?_)
   exact⟨(1,0),⟨by simp only;omega,by simp⟩,(Sub.toG [2,3,7,8,9] [1,5,22] (by rfl) (by rfl) (by rfl) (by rfl)),by simp only;omega⟩
  ·have hI:(k:Int)+1<(N:Int):=by omega
   have hp:(0:Int)<(k:Int)+1:=by omega
   have hil:k+1<l.length:=by omega
   have hit:((k:Int)+1).toNat=k+1:=by omega
   have hb:=bq_nat (k+1) 20 (by omega) (by omega)
   simp only[c29_26,c29_7,l29_6,csW,cw,cops,Nat.reduceEqDiff,hI]
   refine keep [2,3,7,8,9,10] ?_
   simp only[c29_25,c29_8,csW,Nat.reduceEqDiff,cw]
   refine keep [2,3,7,8,9] ?_
   simp only[c29_24,c29_21,c29_20,c29_10,l29_9,csP,csW,Nat.reduceEqDiff,cw,cops,Nat.reduceLT,hit,getD_q hil,Nat.reduceAdd]
   (repeat refine And.intro (by first | omega | (simp;omega)) ?_)
   refine keep [2,3,4,5,7,8,9] ?_
   simp only[c29_19,c29_12,l29_11,csW,Nat.reduceEqDiff,cw,cops,hp]
   refine keep [2,3,4,5,7,8,9,15] ?_
   simp only[c29_18,csW,Nat.reduceEqDiff,cw]
   simp only[c29_17,l29_13,csW,cw,cops,Nat.reduceEqDiff,csP,Nat.reduceAdd]
   refine⟨_,cOf ((k:Int)+1) (by omega),?_⟩
   simp only[l29_14,cops,csW,Nat.reduceEqDiff]
   refine⟨_,qWhole ((k:Int)+1) n (hb.mono (by omega)).1 hn,?_⟩
   simp only[l29_15,cops,csW,Nat.reduceEqDiff]
   refine⟨_,qMul (cf l (k+1)) _ n ((hl _).mono (by omega)) (hb.mono (by omega)) hn,?_⟩
   simp only[l29_16,csP,cops,csW,Nat.reduceEqDiff,Nat.reduceAdd,Nat.reduceLeDiff]
   (repeat refine And.intro (by first | omega | (simp;omega)) ?_)
   refine keep [2,3,7,8,9] ?_
   simp only[c29_23,l29_22,csW,Nat.reduceEqDiff,cw,cops]
   (repeat refine And.intro (by first | omega | (simp;omega)) ?_)
   exact⟨(k+1+1,k+1),⟨by simp only;omega,by simp⟩,by simp only[←tab_succ];exact (Sub.toG [2,3,7,8,9] [1,5,22] (by rfl) (by rfl) (by rfl) (by rfl)),by simp only;omega⟩
 ·have hI:¬ (i:Int)<(N:Int):=by omega
  have hiN:i=N:=by omega
  have hkl:k=l.length-1:=by omega
  simp only[c29_26,c29_7,l29_6,cw,csW,cops,Nat.reduceEqDiff,hI]
  refine keep [2,3,7,8,9,10] ?_
  simp only[c29_25,c29_8,csW,Nat.reduceEqDiff,cw]
  have htk:(tab k (dco l)).take k=tab k (dco l):=List.take_of_length_le (by rw[tab_len];omega)
  refine keepF 105 _ [2,3] (by rfl) ?_
  simp only[c29_33,c29_32,l29_30,csW,Nat.reduceEqDiff,cw,cops,Bool.true_or,csP,Nat.le_refl,htk]
  refine⟨_,made_con (tab k (dco l)) n (Bl.tab (by omega) fun j hj=>(dco_bq hl (by omega)).mono hmn) hn (by rw[tab_len];omega),?_⟩
  simp only[l29_31,cops,csW,Nat.reduceEqDiff,csP]
  refine keep [2] ?_
  simp only[Ends,resD,resL,resV,csW,Nat.reduceEqDiff,csP]
  rw[hkl,hN]
set_option maxHeartbeats 4000000 in
theorem pderive_con (l:List Rat) (m n:Nat) (hl:Bl m l) (hmn:m+20≤n) (hn:n≤big) (h1:l.length≤1000000):Con Try.prog AN 17 [LZ l] (LZ (derQ l)):=by
 rw[←dco_der]
 refine fn17.con rfl (by simp) ?_
 simp only[c17,c17_28,c17_1,l17_0,init1,cw,csW,cops,reduceCtorEq]
 refine keep [0] ?_
 simp only[c17_27,c17_3,l17_2,csW,reduceCtorEq,cw,cops]
 refine keep [0,3] ?_
 simp only[c17_26,c17_21,c17_5,l17_4,csW,reduceCtorEq,cw,cops,Nat.reduceEqDiff]
 refine keep [0,3,4] ?_
 simp only[c17_20,csW,reduceCtorEq,Nat.reduceEqDiff,cw]
 refine loop_of (ι:=Nat) (fun k=>k≤l.length-1) (fun k=>⟨look [(0,.p (LZ l)),(3,.slice 105 0 k),(4,.p (J ((k:Int)+1)))],
  lookM [(105,⟨47,4,.row ((tab k (dco l)).map qZ),false⟩)]⟩) (fun k=>l.length-1-k) 0 (by omega) (Sub.nilG 3 105 47 4 (by rfl) (by rfl) (by decide) (by rfl) (by rfl)) ?_
 rintro k hk
 by_cases h:k+1<l.length
 ·have hI:(k:Int)+1<(l.length:Int):=by omega
  have hit:((k:Int)+1).toNat=k+1:=by omega
  have hb:=bq_nat (k+1) 20 (by omega) (by omega)
  simp only[c17_18,c17_9,c17_7,l17_6,cw,csW,cops,reduceCtorEq,Nat.reduceEqDiff,hI]
  refine keep [0,3,4,8] ?_
  simp only[c17_8,csW,reduceCtorEq,Nat.reduceEqDiff,cw]
  refine keep [0,3,4] ?_
  simp only[c17_17,c17_14,c17_13,l17_10,csW,reduceCtorEq,Nat.reduceEqDiff,cw,cops,csP,Nat.reduceLT,hI,hit,getD_z h,Nat.reduceAdd]
  (repeat refine And.intro (by first | omega | (simp;omega)) ?_)
  refine⟨_,fof_con ((k:Int)+1) (by omega),?_⟩
  simp only[l17_11,cops,csW,reduceCtorEq,Nat.reduceEqDiff]
  refine⟨_,zMul (cf l (k+1)) _ n ((hl _).mono (by omega)) (hb.mono (by omega)) hn,?_⟩
  simp only[l17_12,cops,csW,Nat.reduceEqDiff,reduceCtorEq,csP,Nat.reduceAdd,Nat.reduceLeDiff]
  (repeat refine And.intro (by first | omega | (simp;omega)) ?_)
  refine keep [0,3,4] ?_
  simp only[c17_16,l17_15,csW,reduceCtorEq,Nat.reduceEqDiff,cw,cops]
  (repeat refine And.intro (by first | omega | (simp;omega)) ?_)
  exact⟨k+1,by omega,by rw[←tab_succ];exact (Sub.toG [0,3,4] [19] (by rfl) (by rfl) (by rfl) (by rfl)),by omega⟩
 ·have hI:¬ (k:Int)+1<(l.length:Int):=by omega
  have hkl:k=l.length-1:=by omega
  simp only[c17_18,c17_9,c17_7,l17_6,cw,csW,cops,reduceCtorEq,Nat.reduceEqDiff,hI]
  refine keep [0,3,4,8] ?_
  simp only[c17_8,csW,reduceCtorEq,Nat.reduceEqDiff,cw]
  have htk:(tab k (dco l)).take k=tab k (dco l):=List.take_of_length_le (by rw[tab_len];omega)
  refine keepF 105 _ [3] (by rfl) ?_
  simp only[c17_25,c17_24,l17_22,csW,reduceCtorEq,Nat.reduceEqDiff,cw,cops,Bool.true_or,csP,Nat.le_refl,htk]
  refine⟨_,pmade_con (tab k (dco l)) n (Bl.tab (by omega) fun j hj=>(dco_bq hl (by omega)).mono hmn) hn (by rw[tab_len];omega),?_⟩
  simp only[l17_23,cops,csW,Nat.reduceEqDiff]
  refine keep [2] ?_
  simp only[Ends,resD,resL,resV,csW,Nat.reduceEqDiff]
  rw[hkl]
end Go.Proofs.Ytdjbfgfbpimakaa.M
