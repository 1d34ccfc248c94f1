/- Lemmas. -/
import Derived.Test.YtdchbabgopglcaaC46
import Derived.Test.YtdchbabgopglcaaC44
set_option linter.defProp false
set_option linter.unusedSimpArgs false
set_option linter.unusedVariables false
namespace Go.Proofs.Ytdchbabgopglcaa.M
open Go.RowKit
set_option maxRecDepth 20000
set_option maxHeartbeats 1000000
theorem PK {l:List Fm} (ih:∀a∈l,∀ab:List Int,Sz a→∀x∈nds a ab,Tx1 x.1) (c:List Int) (hm:∀a∈l,Sz a):∀x∈ndsL l c,Tx1 x.1:=by
 induction l with
 |nil=>intro x hx;rw[ndsL] at hx;cases hx
 |cons a l il =>
  intro x hx;rw[ndsL] at hx;rcases List.mem_append.1 hx with hx | hx
  ·exact ih a (by simp) c (hm a (by simp)) x hx
  ·exact il (fun b hb=>ih b (by simp[hb])) (fun b hb=>hm b (by simp[hb])) x hx
theorem p5:∀(f:Fm) (ab:List Int),Sz f→∀x∈nds f ab,Tx1 x.1:=by
 refine Fm.ind (P:=fun f => ∀ab:List Int,Sz f→∀x∈nds f ab,Tx1 x.1) ?_;intro kd p rel v k gs ih ab hs x hx;rw[Sz] at hs;obtain⟨h1,h2,-,h4⟩:=hs;rw[nds] at hx;rcases List.mem_cons.1 hx with rfl | hx
 ·exact⟨by show p.length≤_;omega,fun t ht=>(h2 t ht).1⟩
 ·exact PK ih _ (ke h4) x hx
abbrev A0:Fm:=.mk 3 [([49],[1,1]),([45,49],[0,0])] 1 0 0 []
abbrev F0:Fm:=.mk 8 [] 0 1 0 [A0]
theorem iH:nds F0 []=[(F0,[]),(A0,[1])]:=by
 rw[nds,ndsL,nds,ndsL,ndsL];rfl
theorem PM:(fM [([49],[1,1]),([45,49],[0,0])] 2 0)=(0,0):=by
 have c1:cR [49]=0:=by decide
 have c2:cR [45,49]=0:=by decide
 have t1:fT 2 (([49],[1,1]):At)=0:=by unfold fT;rw[if_pos (show ((([49],[1,1]):At).2.length:Int)=2 from rfl),if_pos (by decide)];exact c1
 have t2:fT 2 (([45,49],[0,0]):At)=0:=by unfold fT;rw[if_pos (show ((([45,49],[0,0]):At).2.length:Int)=2 from rfl),if_pos (by decide)];exact c2
 unfold fM;rw[if_neg (by omega),if_neg (by omega),if_neg (by decide),fLs,if_pos t1,fLs,if_pos t2,fLs]
theorem PN:oneF F0 2=0:=by unfold oneF;decide
theorem PO:oneF A0 2=0:=by
 unfold oneF;rw[if_neg (by decide),if_neg (by decide),if_neg (by decide),if_neg (by decide),if_neg (by decide),if_neg (by decide),if_pos (by decide)];show (fM [([49],[1,1]),([45,49],[0,0])] 2 0).1=0
 rw[PM]
theorem p6:lfF F0 2=(0,0):=by
 have e:ckA 2 (nds F0 []) 0 []=((0,0),[1]):=by
  rw[iH,ckA,if_neg (by rw[PN];decide),if_pos (by decide),if_neg (by decide),ckA,if_neg (by rw[PO];decide),if_neg (by decide),ckA];rfl
 unfold lfF;rw[if_neg (by omega),if_neg (by rw[iH];decide)];unfold lfX;rw[e,iH];decide
theorem PP:ik F0 2=[0]:=by
 unfold ik;rw[p6,if_pos rfl,iH];decide
theorem PQ:Sz F0:=by
 simp[Sz,SzL]
theorem PR (a b:Int):dW [.int .i64 a,.int .i64 b]=some ([.i64,.i64],[a,b]):=rfl
def bK:=an @PR bU
theorem PS:Con Try.prog [] 8 [] (.bool true):=by
 have c6:=oB 39 3 25 F0 2 (by rw[iH];decide) (fun x hx=>p5 F0 [] PQ x hx);have c10:=mj (A:=[]) 3 3 [0] (by decide);rw[PP,p6,bC,bi,bi,bC,bi] at c6;refine fn8.con rfl (by simp) ?_;(repeat first|simp only[kV,simprocAttr,bK,mZ,io,Bool.true_or,Bool.or_false,List.drop_zero]|refine aN ?_);refine kp [] ?_;(repeat first|simp only[kV,simprocAttr,bK,mZ,io,Bool.true_or,Bool.or_false,List.drop_zero]|refine aN ?_);refine eS 10 _ [1] (by rfl) ?_;refine ulk ?_;(repeat first|simp only[kV,simprocAttr,bK,io,Bool.true_or,Bool.or_false,List.drop_zero]|refine aN ?_);refine⟨_,cx (c6),ulc ?_⟩;(repeat first|with_reducible refine kp [2,3] ?_|simp only[kV,simprocAttr,bK]|refine aN ?_);refine⟨_,cx (c10),ulc ?_⟩;(repeat first|with_reducible refine kp [0] ?_|simp only[kV,simprocAttr,bK,ac,af,ae,ah]|refine aN ?_)
theorem PT (T U X:Nat) (f:Fm) (n:Int) (hs:Sz f) (hN:(nds f []).length≤10000000):Con Try.prog [] 3 [fmD T U X f,J n] (.bool true):=by
 have ht:=p5 f [] hs;have c4:=E5 T U X f hs;have c5:Con Try.prog [] _ _ _:=(pF 39 3 25 f n (by omega) ht).flat rfl;have c6:=oB 39 3 25 f n (by omega) ht;have c7:=Ta T U X f n (by omega) ht;have c8:=PS;have c9:=QA 39 3 25 T U X f hs;have c11:=fun h=>EO T U X f n (kX h)
 have c10:=fun h=>mj (A:=[]) 3 3 (frL (nds f []) n.toNat) (by have h1:=ju (nds f []) n.toNat;have h2:=(kX (f:=f) (n:=n) h).n4;omega)
 unfold ik at c6;generalize lfF f n=q at *;obtain⟨a,b⟩:=q;simp only at *;obtain⟨kd,p,rel,v,k,gs⟩:=f;simp only[bC] at c4 c5 c6 c7 c9 c11 ⊢;generalize nds (.mk kd p rel v k gs) []=L at *;by_cases h0:a=0
 ·have d11:=c11 h0;have d10:=c10 h0;clear c10 c11;subst h0;rw[if_pos rfl] at c6;generalize frL L n.toNat=R at *;refine fn3.con rfl (by simp) ?_;(repeat first|with_reducible refine kp [1,2] ?_|simp only[kV,simprocAttr,bK,aw]|refine aN ?_);refine⟨_,cx (c4),ulc ?_⟩;(repeat first|with_reducible refine kp [1,2,5] ?_|simp only[kV,simprocAttr,bK]|refine aN ?_);refine⟨_,cx (c5),ulc ?_⟩;(repeat first|with_reducible refine kp [1,2,5,6] ?_|simp only[kV,simprocAttr,bK]|refine aN ?_);refine⟨_,cx (c6),ulc ?_⟩;(repeat first|with_reducible refine kp [1,2,5,6,7,8] ?_|simp only[kV,simprocAttr,bK]|refine aN ?_);refine⟨_,cx (c7),ulc ?_⟩;(repeat first|with_reducible refine kp [1,2,5,6,7,8,9] ?_|simp only[kV,simprocAttr,bK]|refine aN ?_);refine⟨_,cx (c8),ulc ?_⟩;(repeat first|simp only[kV,simprocAttr,bK]|refine aN ?_);refine⟨_,cx (c9),ulc ?_⟩;(repeat first|with_reducible refine kp [1,2,7,9,41] ?_|simp only[kV,simprocAttr,bK]|refine aN ?_);refine ulk ?_;(repeat first|with_reducible refine kp [1,2,7,9,44] ?_|simp only[kV,simprocAttr,bK]|refine aN ?_);refine ulk ?_;(repeat first|with_reducible refine kp [1,2,7] ?_|simp only[kV,simprocAttr,bK]|refine aN ?_);refine⟨_,cx (d11),ulc ?_⟩;(repeat first|simp only[kV,simprocAttr,bK]|refine aN ?_);refine⟨_,cx (d10),ulc ?_⟩;(repeat first|with_reducible refine kp [4] ?_|simp only[kV,simprocAttr,bK,ac,af,ae,ah]|refine aN ?_)
 ·rw[if_neg h0] at c6;clear c11 c10;refine fn3.con rfl (by simp) ?_;(repeat first|with_reducible refine kp [1,2] ?_|simp only[kV,simprocAttr,bK,aw]|refine aN ?_);refine⟨_,cx (c4),ulc ?_⟩;(repeat first|with_reducible refine kp [1,2,5] ?_|simp only[kV,simprocAttr,bK]|refine aN ?_);refine⟨_,cx (c5),ulc ?_⟩;(repeat first|with_reducible refine kp [1,2,5,6] ?_|simp only[kV,simprocAttr,bK]|refine aN ?_);refine⟨_,cx (c6),ulc ?_⟩;(repeat first|with_reducible refine kp [1,2,5,6,7,8] ?_|simp only[kV,simprocAttr,bK]|refine aN ?_);refine⟨_,cx (c7),ulc ?_⟩;(repeat first|with_reducible refine kp [1,2,5,6,7,8,9] ?_|simp only[kV,simprocAttr,bK]|refine aN ?_);refine⟨_,cx (c8),ulc ?_⟩;(repeat first|simp only[kV,simprocAttr,bK]|refine aN ?_);refine⟨_,cx (c9),ulc ?_⟩;(repeat first|with_reducible refine kp [1,2,7,9,41] ?_|simp only[kV,simprocAttr,bK]|refine aN ?_);refine ulk ?_;(repeat first|with_reducible refine kp [1,2,7,9,44] ?_|simp only[kV,simprocAttr,bK]|refine aN ?_);(try simp only[kV,simprocAttr,bK,h0]);refine ulk ?_;(repeat first|with_reducible refine kp [4] ?_|simp only[kV,simprocAttr,bK,ac,af,ae,ah,h0]|refine aN ?_)
end Go.Proofs.Ytdchbabgopglcaa.M
