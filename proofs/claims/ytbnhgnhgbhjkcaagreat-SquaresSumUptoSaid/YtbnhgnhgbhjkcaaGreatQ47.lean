/- Lemmas. -/
import Derived.Test.YtbnhgnhgbhjkcaaGreatQ24
import Derived.Test.YtbnhgnhgbhjkcaaGreatQ45
import Derived.Test.YtbnhgnhgbhjkcaaGreatQ23
import Derived.Test.YtbnhgnhgbhjkcaaGreatQ25
import Derived.Test.YtbnhgnhgbhjkcaaGreatQ5
set_option linter.unusedSimpArgs false
set_option linter.unusedVariables false
namespace Go.Proofs.YtbnhgnhgbhjkcaaGreat.M.Q
set_option linter.unusedSimpArgs false
set_option maxHeartbeats 0
open Go.RowKit
set_option maxRecDepth 100000
theorem v6 {α:Type}{x:Option α} (d:α) (h:x.isSome=true):x=some (x.getD d):=by
 cases x with
 |none=>cases h
 |some y=>rfl
theorem zcx:Tryz.prog.follows .mixedOrders=true:=by kernel_rfl
theorem fo {f:FuncId}{fn:Func} (OT:List TypeId) (H:List Hint) (a:Tryz.prog.funcs[f]? = some fn) (b:fn.body.isSome=true:=by kernel_rfl) (d:(ct Tryz.prog fn.ntmps OT H (fn.body.getD .skip)).isSome=true:=by kernel_rfl) (e:(bT Tryz.prog fn.results.toList).isSome=true:=by kernel_rfl) :
  az Tryz.prog f OT ((ct Tryz.prog fn.ntmps OT H (fn.body.getD .skip)).getD .skip) ((bT Tryz.prog fn.results.toList).getD []) fn.ntmps:=⟨fn,H,a,b,zcx,v6 _ d,v6 _ e,rfl⟩
abbrev FI:Type:={F:FnI // F.Ok Tryz.prog}
noncomputable def mk {f:FuncId}{OT:List TypeId}{cc:CC}{rs:List (Nat×Option (Bool×Nat))}{nt:Nat} (h:az Tryz.prog f OT cc rs nt) (pl:List (Nat×List NA)) (a:f<LB:=by decide) (b:OT.all (fun T=>decide (T<70000000)||decide (80000000≤T))=true:=by decide):FI:=⟨⟨f,OT,cc,rs,nt,pl⟩,a,h,b⟩
def kp_ (h:Nat) (l:List Nat):Nat×List NA:=(h,[.keep l,.gc,.ren])
def fz_ (h:Nat) (l:List Nat):Nat×List NA:=(h,[.frzv l])
noncomputable def fl:List FI:=[
 mk (fo [3,83,131,22,70,25,2000008,2000011,2000013,2000016,2000018,2000024,2000025,2000028,2000031,2000038,2000039,2000042] [] Tryz.func35) [(22,[(.frzv [3]),(.frzv [1,2])]),fz_ 36 [1,2]],
 mk fn9 [fz_ 46 [7],fz_ 61 [7],fz_ 73 [7],kp_ 37 [1,6,34,35,36],kp_ 52 [1,6,7,8,34,35,36,49,50,51]],
 mk (fo [5000047,5000049,5000050,5000070,5000083,5000110,5000114,3,25,123,96,70] [⟨4,[0,1,2],[0,0,3],[]⟩,⟨11,[0,1,2],[0,0,3],[]⟩,⟨30,[0,1,2,3,4,5,6,7],[0,0,2,0,14,30,63,127],[]⟩,⟨35,[0,1,4,2,3,5,6,7,8],[0,0,0,4,0,28,62,127,255],[]⟩,⟨40,[0,1,2,3,4,5,6,7,8,9],[0,0,0,4,0,28,60,126,255,511],[]⟩] Tryz.func33) [fz_ 45 [16],fz_ 101 [20],fz_ 122 [20],kp_ 41 [0,1,2,3,9,11,12,14,39,40],kp_ 73 [0,9,11,14,19,70,71,72],kp_ 83 [0,9,11,14,19,20,21,22,23,70,71,72,80,81,82],kp_ 139 [11,14,19,136,137,138],(29,[(.frzv [9])])],
 mk ko [fz_ 11 [1],fz_ 37 [6],fz_ 44 [6],fz_ 46 [1],fz_ 53 [6],kp_ 24 [1,4,21,22,23]],
 mk ug [fz_ 17 [0],fz_ 69 [6],fz_ 81 [6],fz_ 91 [7]],
 mk rh [],
 mk ri [kp_ 14 [2,3,4,5,11,12,13],kp_ 21 [2,3,4,5,7,11,12,13,18,19,20]],
 mk rg [fz_ 16 [0,1,2],kp_ 31 [6,7,9,10,28,29,30]],
 mk (fo [25,96] [⟨9,[0,1,2],[0,0,3],[]⟩] Tryz.func70) [fz_ 21 [7],kp_ 17 [1,4,5,14,15,16]],
 mk Lh [],
 mk qB [fz_ 12 [1],fz_ 27 [1],kp_ 17 [1,4,5,14,15,16]],
 mk Lc [],
 mk rC [],
 mk (fo [] [] Tryz.func79) [fz_ 8 [0],kp_ 25 [0,6,7]],
 mk (fo [] [] Tryz.func80) [fz_ 5 [0,1]],
 mk (fo [86,25] [] Tryz.func81) [fz_ 8 [0],fz_ 23 [0],fz_ 30 [6]],
 mk oE [],
 mk m6 [kp_ 15 [2,4,5,12,13,14],(9,[(.frzv [2])]),(52,[(.rev 2)])],
 mk qU [fz_ 23 [3],kp_ 12 [0,3,9,10,11],kp_ 28 [6,25,26,27]],
 mk rB [],
 mk re [kp_ 7 [2,3,4,6]],
 mk (fo [86] [] Tryz.func90) [],
 mk ue [],
 mk Zd [],
 mk (fo [86,173,2000017] [] Tryz.func95) [],
 mk rk [],
 mk rj [kp_ 12 [2,3,4,5,9,10,11]],
 mk (fo [] [] Tryz.func101) [fz_ 5 [0,1]],
 mk (fo [] [] Tryz.func102) [fz_ 5 [0,1]],
 mk (fo [86] [] Tryz.func103) [kp_ 8 [0,1,4,5]],
 mk (fo [5,173] [] Tryz.func104) [kp_ 10 [0,3],kp_ 24 [0,3,4,5,6,21,22,23],kp_ 42 [0,3,5,6,40,41]],
 mk ud [kp_ 8 [2,3,4]],
 mk (fo [86,25,173,2000046] [⟨7,[0,1,2,3,4,5,6,7,8,9,10,11],[0,1,0,4,12,28,63,127,255,255,511,2047],[]⟩,⟨12,[0,1,2,3,4,5,6,7,8,9,10],[0,0,3,0,8,0,32,127,255,511,1023],[]⟩,⟨13,[8,0,1,2,3,4,5,6,7,9,10,11,12],[0,1,0,4,15,0,32,127,0,0,255,1535,4095],[(8,4)]⟩] Tryz.func106) [fz_ 43 [9,10],fz_ 56 [11,12]],
 mk (fo [86] [] Tryz.func107) [],
 mk (fo [86] [⟨1,[0,1,2,3,4],[0,0,2,7,15],[]⟩] Tryz.func108) [],
 mk mY [fz_ 4 [1]],
 mk qY [],
 mk kD [kp_ 24 [4,5,8],(38,[(.frzv [4,5])])],
 mk rA [],
 mk kz [fz_ 8 [1],kp_ 16 [0,1,5,6]],
 mk rb [],
 mk (fo [86,173] [] Tryz.func116) [fz_ 70 [5],kp_ 23 [2,3,4,5,20,21,22],kp_ 31 [2,3,4,5,6,7,8,20,21,22,28,29,30]],
 mk (fo [86] [⟨2,[0,1,2,3,4,5,6,7,8],[0,1,0,4,0,16,60,127,255],[]⟩,⟨4,[0,1,2,3,4,5,6,7,8],[0,1,0,4,0,16,60,127,255],[]⟩,⟨5,[0,1,2,3,4,5,6,7,8],[0,1,0,4,0,16,60,127,255],[]⟩] Tryz.func119) [],
 mk (fo [] [] Tryz.func126) [],
 mk (fo [] [⟨7,[0,1,2,3,4,5,6,7,8,9],[0,0,3,7,0,0,48,112,255,511],[]⟩] Tryz.func127) [kp_ 19 [0,1,6]],
 mk (fo [173] [] Tryz.func128) [fz_ 20 [1,7],kp_ 15 [0,1,6,7,8]],
 mk (fo [173] [] Tryz.func130) [fz_ 29 [6,8,9],kp_ 16 [1,5,6,13,14,15]],
 mk mX [fz_ 14 [2,7,8],fz_ 23 [1,2,7],fz_ 36 [2,7,8],fz_ 55 [1,2,7,9],kp_ 11 [0,1,2,6,7,8],kp_ 28 [0,1,2,6],kp_ 33 [0,1,2,6,7,8]],
 mk kC [fz_ 7 [0],fz_ 9 [1]],
 mk qW [fz_ 24 [6,7],kp_ 12 [0,1,9,10,11]],
 mk mZ [kp_ 9 [0,1,7,8]],
 mk (fo [173] [] Tryz.func136) [fz_ 37 [6,8,9],kp_ 24 [0,1,5,6,21,22,23]],
 mk (fo [] [] Tryz.func139) [fz_ 7 [0],fz_ 9 [1]],
 mk (fo [] [⟨4,[0,1,2,3,4,5,6,7,8,9,10,11],[0,0,2,7,15,0,0,64,224,480,31,2047],[]⟩] Tryz.func140) [],
 mk mW [kp_ 12 [0,1,2,3,8],kp_ 18 [0,1,2,3,8,9]],
 mk qV [],
 mk (fo [] [] Tryz.func150) [],
 mk (fo [] [] Tryz.func151) []]
noncomputable def fis:List FnI:=fl.map (·.1)
theorem zcy:∀F∈fis,F.Ok Tryz.prog:=fun F hF=>by
 obtain⟨G,_,rfl⟩:=z9Q.1 hF;exact G.2
theorem zcz (k:Nat) (hk:k≤1000000000) (hp:(0:Int)<(k:Int)):fQ Tryz.prog [] 115 [.nils TT 8,J k] TT 8 []:=by
 have hn:¬ (k:Int)<0:=by omega
 have e0:(k:Int)-(0-0)=(k:Int):=by omega
 refine m0.conN rfl (by simp) ?_;(repeat first|with_reducible refine kp [0,1,6] ?_|simp only[kV,simprocAttr,aU,ax,hn]|refine aN ?_);(try simp only[kV,simprocAttr,aU,hn,hp,e0,z9G]);refine ulk ?_;(repeat first|with_reducible refine kp [0,1,16] ?_|simp only[kV,simprocAttr,aU,hn,hp,e0,z9G]|refine aN ?_);(try simp only[kV,simprocAttr,aU,hp,hn,e0,z9G,Int.toNat_natCast,Int.natCast_nonneg]);refine ulk ?_;(repeat first|simp only[kV,simprocAttr,aU,hp,hn,e0,z9G,Int.toNat_natCast,Int.natCast_nonneg]|refine aN ?_);refine⟨_,(Sub.toG [0] []).tr (Sub.cutG 22 0 TT 8 _ (by rfl) (by rfl)),?_⟩;refine ulk ?_;(repeat first|with_reducible refine kp [4] ?_|simp only[kV,simprocAttr,aU,af,ai,aq,ah,hp,hn,e0,z9G,Int.toNat_natCast,Int.natCast_nonneg]|refine aN ?_);exact .row (i:=22) (by rfl) (by simp[ah,ar]) (by simp[au,bR])
theorem zcA (x y b:Int) (hx:0≤x∧x≤4294967295) (hy:0≤y∧y≤4294967295) (hb:0≤b∧b≤1):Con Tryz.prog [] 146 [.int .u32 x,.int .u32 y,.int .u32 b] (.tup [.int .u32 ((x-y-b) % 4294967296),.int .u32 (if x-y-b<0 then 1 else 0)]):=
 uL fun base w v1 v2 v3 hav h1 h2 h3=>by
  cases h1;cases h2;cases h3;refine (nE x y b w hx hy hb).mono ?_;rintro e w' ⟨rfl,rfl⟩;refine⟨_,rfl,fun base _ => .tup _ _ rfl fun i e he => ?_,Ext.rf _⟩
  match i,he with
  |0,he=>simp only[List.getElem?_cons_zero,z99] at he;subst he;exact .int _ _
  |1,he=>simp only[List.getElem?_cons_succ,List.getElem?_cons_zero,z99] at he;subst he;exact .int _ _
def pJ:FuncId→List D→Option D:=fun c ds =>
 if c=146 then (match ds with
  |[.int .u32 x,.int .u32 y,.int .u32 b]=>if ((0≤x∧x≤4294967295)∧0≤y∧y≤4294967295)∧0≤b∧b≤1 then some (.tup [.int .u32 ((x-y-b) % 4294967296),.int .u32 (if x-y-b<0 then 1 else 0)]) else none
  |_=>none)
 else if c=115+LB*(8+1) then (match ds with
  |[.nils T sz,.int .i64 k]=>if (T=TT∧sz=8)∧0<k∧k≤1000 then some (.list T sz []) else none
  |_=>none)
 else none
theorem zcB:∀c ds d,pJ c ds=some d→ConX Tryz.prog [] c ds d:=by
 intro c ds d h;unfold pJ at h;split at h
 ·rename_i hc;subst hc;split at h
  ·rename_i x y b;split at h
   ·rename_i hr;simp only[z99] at h;subst h;exact .plain (by decide) (zcA x y b hr.1.1 hr.1.2 hr.2)
   ·cases h
  ·cases h
 ·split at h
  ·rename_i hc;subst hc;split at h
   ·rename_i T sz k;split at h
    ·rename_i hr;obtain⟨⟨rfl,rfl⟩,h1,h2⟩:=hr;simp only[z99] at h;subst h;have:=(zcz k.toNat (by omega) (by omega)).x
     rwa[show ((k.toNat:Nat):Int)=k by omega] at this
    ·cases h
   ·cases h
  ·cases h
theorem begun_con:Con Tryz.prog [] 35 [] (.bool true):=
 xt (Fs:=fis) (orc:=pJ) zcy zcB (n:=60) (by kernel_rfl)
end Go.Proofs.YtbnhgnhgbhjkcaaGreat.M.Q
