/- Lemmas. -/
import Derived.Test.YtbnhgnhgbhjkcaaGreatV52
import Derived.Test.YtbnhgnhgbhjkcaaGreatV51
set_option linter.defProp false
set_option linter.unusedSectionVars false
set_option linter.unusedSimpArgs false
set_option linter.unusedVariables false
namespace Go.Proofs.YtbnhgnhgbhjkcaaGreat.M
open Go.RowKit
set_option maxRecDepth 20000
set_option maxHeartbeats 2000000
abbrev TT2 (l:List At):D:=LTa 83 3 l
abbrev fB (p:Int×Int):AObj:=⟨25,2,.box (.p (flt p.1 p.2)),false⟩
abbrev xB (x:Rat):AObj:=⟨50,4,.box (.p (qZ x)),false⟩
abbrev xR (xs:List Rat):AObj:=⟨50,4,.row (xs.map qZ),true⟩
abbrev vE (K:CC) (R:List (Nat×AV)) (M:List (Nat×AObj)):Prop:=cw [25,50] (ConX Tryz.prog AN) K (ac (.bool true) [(10,none)]) ⟨ai R,aw M⟩
section
variable (v ord:Int) (c d:List At) (w g:Int×Int) (x:Rat) (P:Mp.TL)
abbrev gg:List (Nat×AV):=[(2,.p (J v)),(3,.p (J ord)),(14,.p (TT2 c)),(16,.p (TT2 d)),(18,.ptr 18 0 0),(24,.ptr 24 0 0),(26,.ptr 26 0 0),(27,.p (MZ P))]
abbrev gh:List (Nat×AObj):=[(18,fB w),(24,xB x),(26,fB g)]
theorem zdk (hw:w.1≠0) (hg:g.1≠0):vE il (gg v ord c d P) (gh w g x):=by
 skip
 (repeat first|simp only[kV,simprocAttr,aa,ab,vE,gg,gh,hg,hw]|refine aN ?_);refine ulc ?_;(repeat first|simp only[kV,simprocAttr,aa,ab,hg,hw]|refine aN ?_);refine ulc ?_;(repeat first|simp only[kV,simprocAttr,aa,ab,hg,hw]|refine aN ?_);refine ulc ?_;(repeat first|with_reducible refine kp [2,3,16,18,27,216] ?_|simp only[kV,simprocAttr,aa,ab,hg,hw]|refine aN ?_);refine ulk ?_;(repeat first|with_reducible refine kp [2,3,16,18,27] ?_|simp only[kV,simprocAttr,aa,ab,hg,hw]|refine aN ?_);refine ulc ?_;(repeat first|simp only[kV,simprocAttr,aa,ab,hg,hw]|refine aN ?_);refine ulc ?_;(repeat first|simp only[kV,simprocAttr,aa,ab,hg,hw]|refine aN ?_);refine ulc ?_;(repeat first|with_reducible refine kp [10] ?_|simp only[kV,simprocAttr,aa,ab,ac,ah,ae,af,hg,hw]|refine aN ?_)
variable (Pd:Mp.TL) (k4:Con Tryz.prog AN 30 [MZ P,J v] (MZ Pd)) (k5:Con Tryz.prog AN 18 [MZ Pd,J ord] (TT2 d)) (k6:Con Tryz.prog AN 15 [TT2 d,TT2 d] (.bool true))
include k4 k5 k6
theorem zdl (hw:w.1=0) (hg:g.1≠0):vE il (gg v ord c d P) (gh w g x):=by
 skip
 (repeat first|simp only[kV,simprocAttr,aa,ab,vE,gg,gh,hg,hw]|refine aN ?_);refine ulc ?_;(repeat first|simp only[kV,simprocAttr,aa,ab,hg,hw]|refine aN ?_);refine ulc ?_;(repeat first|simp only[kV,simprocAttr,aa,ab,hg,hw]|refine aN ?_);refine ulc ?_;(repeat first|with_reducible refine kp [2,3,16,18,27,216] ?_|simp only[kV,simprocAttr,aa,ab,hg,hw]|refine aN ?_);refine ulk ?_;(repeat first|with_reducible refine kp [2,3,16,18,27] ?_|simp only[kV,simprocAttr,aa,ab,hg,hw]|refine aN ?_);refine⟨_,cx (k4),ulc ?_⟩;(repeat first|simp only[kV,simprocAttr,aa,ab,hw]|refine aN ?_);refine⟨_,cx (k5),ulc ?_⟩;(repeat first|simp only[kV,simprocAttr,aa,ab,hw]|refine aN ?_);refine⟨_,cx (k6),ulc ?_⟩;(repeat first|with_reducible refine kp [10] ?_|simp only[kV,simprocAttr,aa,ab,ac,ah,ae,af,hw]|refine aN ?_)
variable (Pf:Mp.TL) (k1:Con Tryz.prog AN 29 [MZ P,J v,qZ x] (MZ Pf)) (k2:Con Tryz.prog AN 18 [MZ Pf,J ord] (TT2 c)) (k3:Con Tryz.prog AN 15 [TT2 c,TT2 c] (.bool true))
include k1 k2 k3
theorem zdm (hw:w.1=0) (hg:g.1=0):vE il (gg v ord c d P) (gh w g x):=by
 skip
 (repeat first|simp only[kV,simprocAttr,aa,ab,vE,gg,gh,hg,hw]|refine aN ?_);refine⟨_,cx (k1),ulc ?_⟩;(repeat first|simp only[kV,simprocAttr,aa,ab,hg]|refine aN ?_);refine⟨_,cx (k2),ulc ?_⟩;(repeat first|simp only[kV,simprocAttr,aa,ab,hg]|refine aN ?_);refine⟨_,cx (k3),ulc ?_⟩;(repeat first|with_reducible refine kp [2,3,16,18,27,216] ?_|simp only[kV,simprocAttr,aa,ab,hg]|refine aN ?_);(try simp only[kV,simprocAttr,aa,ab,hg,hw]);refine ulk ?_;(repeat first|with_reducible refine kp [2,3,16,18,27] ?_|simp only[kV,simprocAttr,aa,ab,hg,hw]|refine aN ?_);refine⟨_,cx (k4),ulc ?_⟩;(repeat first|simp only[kV,simprocAttr,aa,ab,hw]|refine aN ?_);refine⟨_,cx (k5),ulc ?_⟩;(repeat first|simp only[kV,simprocAttr,aa,ab,hw]|refine aN ?_);refine⟨_,cx (k6),ulc ?_⟩;(repeat first|with_reducible refine kp [10] ?_|simp only[kV,simprocAttr,aa,ab,ac,ah,ae,af,hw]|refine aN ?_)
end
section
variable (v ord:Int) (c d:List At) (w g:Int×Int) (x:Rat) (P:Mp.TL) (s:List UInt8) (xs:List Rat)
abbrev jH (k:Bool):List (Nat×AV):=[(2,.p (J v)),(3,.p (J ord)),(11,.p (.str s)),(14,.p (TT2 c)),(16,.p (TT2 d)),(18,.ptr 18 0 0),(19,.slice 219 0 xs.length),(23,.p (.bool k)),(24,.ptr 24 0 0),(26,.ptr 26 0 0),(27,.p (MZ P))]
abbrev dX:List (Nat×AObj):=[(18,fB w),(219,xR xs),(24,xB x),(26,fB g)]
variable (h:vE il (gg v ord c d P) (gh w g x))
include h
theorem zdn:vE kz (jH v ord c d P s xs false) (dX w g x xs):=by
 skip
 (repeat first|simp only[kV,simprocAttr,aa,ab,vE,jH,dX]|refine aN ?_);refine ulc ?_;(repeat first|simp only[kV,simprocAttr,aa,ab]|refine aN ?_);refine ulc ?_;(repeat first|with_reducible refine kp [2,3,14,16,18,24,26,27,202] ?_|simp only[kV,simprocAttr,aa,ab]|refine aN ?_);refine ulk ?_;(repeat first|simp only[kV,simprocAttr,aa,ab]|refine aN ?_);exact⟨_,(Sub.toG [2,3,14,16,18,24,26,27] [12,15,17,21,22,25,101,102,219]),h⟩
theorem zdo (y:Rat) (k7:Con Tryz.prog AN 28 [MZ P,LZ xs] (qZ y)) (k8:Con Tryz.prog AN 27 [qZ y] (.str s)):vE kz (jH v ord c d P s xs true) (dX w g x xs):=by
 have hl:(xs.map qZ).length=xs.length:=List.length_map _;have htk:List.take xs.length (xs.map qZ)=xs.map qZ:=List.take_of_length_le (by simp);skip
 (repeat first|simp only[kV,simprocAttr,aa,ab,vE,jH,dX,hl,htk,List.drop_zero,Bool.true_or]|refine aN ?_);refine⟨_,cx (k7),ulc ?_⟩;(repeat first|simp only[kV,simprocAttr,aa,ab]|refine aN ?_);refine⟨_,cx (k8),ulc ?_⟩;(repeat first|with_reducible refine kp [2,3,14,16,18,24,26,27,202] ?_|simp only[kV,simprocAttr,aa,ab]|refine aN ?_);refine ulk ?_;(repeat first|simp only[kV,simprocAttr,aa,ab]|refine aN ?_);exact⟨_,(Sub.toG [2,3,14,16,18,24,26,27] [12,15,17,21,22,25,101,102,219]),h⟩
end
end Go.Proofs.YtbnhgnhgbhjkcaaGreat.M
