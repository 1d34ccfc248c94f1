/- The reference's determinant and resultant walked. -/
import Derived.Test.YtdjbfgfbpimakaaK12
import Derived.Test.YtdjbfgfbpimakaaK5
import Derived.Test.YtdjbfgfbpimakaaReAx
import Derived.Test.YtdjbfgfbpimakaaK11
namespace Go.Proofs.Ytdjbfgfbpimakaa.M
open Go.RowKit
set_option linter.unusedSimpArgs false
set_option linter.unusedVariables false
set_option linter.defProp false
def rZ (l:List Rat):D:=LZ l
abbrev LM (M:List (List Rat)):D:=.list 30 1 (M.map rZ)
theorem getD_r {M:List (List Rat)} {i:Nat} (h:i<M.length):(M.map rZ).getD i default = .list 47 4 ((M.getD i []).map qZ):=by simp[h,rZ]
theorem drop_z (l:List Rat) (n:Nat):(l.map qZ).drop n=(l.drop n).map qZ:=List.map_drop.symm
theorem app2_z (l m:List Rat):l.map qZ++m.map qZ=(l++m).map qZ:=List.map_append.symm
theorem app_r (M:List (List Rat)) (r:List Rat):M.map rZ++[D.list 47 4 (r.map qZ)]=(M++[r]).map rZ:=by simp[rZ]
theorem take_r (M:List (List Rat)) (n:Nat):(M.map rZ).take n=(M.take n).map rZ:=List.map_take.symm
def fct:Nat→Nat
 | 0=>1
 | n+1=>(n+1)*fct n
theorem sg_db {K H:Nat} {x:Rat} (h:Db K H x) (a:Nat):Db K H (sg a*x):=by
 unfold sg
 split
 ·rw[show (-1:Rat)*x = -x by grind];exact h.neg
 ·rw[show (1:Rat)*x=x by grind];exact h
theorem dt_db {K H:Nat}:∀ (n:Nat) {A:Nat→Nat→Rat},0<K→(∀ i j,Db K H (A i j))→Db (K^n) (fct n*H^n) (dt n A)
 | 0,A,_,h=>by
  rw[dt,fct,Nat.pow_zero,Nat.pow_zero]
  exact (Db.ofInt 1).mono (by decide)
 | n+1,A,hK,h=>by
  rw[dt]
  have h1:=Db.sum (Nat.mul_pos hK (Nat.pow_pos hK)) (n+1) (fun j=>sg j*A 0 j*dt n (minor A j)) (H:=H*(fct n*H^n)) fun j _=>by
   exact (sg_db (h 0 j) j).mul (dt_db n hK fun i c=>h _ _)
  rw[Nat.pow_succ,Nat.mul_comm (K^n),fct]
  refine h1.mono (Nat.le_of_eq ?_)
  rw[Nat.pow_succ];grind
theorem dtP_db {K H n:Nat} {M:List (List Rat)} (hK:0<K) (h:∀ i j,Db K H (enM M i j)) (h':∀ j i c,Db K H (enM (lessM M j) i c)) (j:Nat):Db (K*K^n) (j*(H*(fct n*H^n))) (dtP n M j):=
 Db.sum (Nat.mul_pos hK (Nat.pow_pos hK)) j _ fun k _=>(sg_db (h 0 k) k).mul (dt_db n hK (h' k))
theorem fct_le:∀ n,n≤6→fct n≤720:=fun n h=>by
 match n,h with
 | 0,_ | 1,_ | 2,_ | 3,_ | 4,_ | 5,_ | 6,_=>decide
 | n+7,h=>omega
theorem enM_db {K H:Nat} {M:List (List Rat)} (h:∀ r∈M,∀ c,Db K H (cf r c)) (hK:0<K) (i c:Nat):Db K H (enM M i c):=by
 unfold enM
 rw[List.getD_eq_getElem?_getD]
 cases e:M[i]? with
 | none=>exact Db.zero hK _
 | some r=>exact h r (List.mem_of_getElem? e) c
theorem less_db {K H:Nat} {M:List (List Rat)} (h:∀ r∈M,∀ c,Db K H (cf r c)) (hK:0<K) (j:Nat):∀ r∈lessM M j,∀ c,Db K H (cf r c):=fun r hr c=>by
 obtain⟨s,hs,rfl⟩:=List.mem_map.1 hr
 have hs':=h s (List.mem_of_mem_drop hs)
 by_cases hj:j<s.length
 ·rw[cf_cutR hj];exact hs' _
 ·have:cutR j s=s:=by
   unfold cutR
   rw[List.take_of_length_le (by omega),List.drop_of_length_le (by omega),List.append_nil]
  rw[this];exact hs' _
structure MB (K H h n:Nat) (M:List (List Rat)):Prop where
 K0:0<K
 kh:K≤2^h
 hh:H≤2^h
 en:∀ r∈M,∀ c,Db K H (cf r c)
 hn:7*h+20<n
 nb:n≤big
theorem MB.less {K H h n:Nat} {M:List (List Rat)} (b:MB K H h n M) (j:Nat):MB K H h n (lessM M j):=⟨b.K0,b.kh,b.hh,less_db b.en b.K0 j,b.hn,b.nb⟩
theorem MB.row {K H h n:Nat} {M:List (List Rat)} (b:MB K H h n M) (i c:Nat):Bq n (cf (M.getD i []) c):=by
 have hn:=b.hn
 exact (enM_db b.en b.K0 i c).Bq (Nat.lt_of_le_of_lt b.kh (Nat.pow_lt_pow_right (by omega) (by omega))) (Nat.lt_of_le_of_lt b.hh (Nat.pow_lt_pow_right (by omega) (by omega)))
theorem MB.dtb {K H h n:Nat} {M:List (List Rat)} (b:MB K H h n M) {k:Nat} (hk:k≤6):Bq n (dt k (enM M)):=by
 have hn:=b.hn
 have hm:h*k≤6*h:=by rw[Nat.mul_comm];exact Nat.mul_le_mul_right _ hk
 exact (dt_db k b.K0 (enM_db b.en b.K0)).Bq (p2 (pp b.kh k) (by omega)) (p2 (pm (Nat.le_trans (fct_le k hk) (show 720≤2^10 by decide)) (pp b.hh k)) (by omega))
theorem MB.prod {K H h n:Nat} {M:List (List Rat)} (b:MB K H h n M) {k j:Nat} (hk:k≤6):Bq n (cf (M.getD 0 []) j*dt k (enM (lessM M j))):=by
 have hn:=b.hn
 have hm:h*k≤6*h:=by rw[Nat.mul_comm];exact Nat.mul_le_mul_right _ hk
 exact ((enM_db b.en b.K0 0 j).mul (dt_db k b.K0 (enM_db (b.less j).en b.K0))).Bq (p2 (pm b.kh (pp b.kh k)) (by omega)) (p2 (pm b.hh (pm (Nat.le_trans (fct_le k hk) (show 720≤2^10 by decide)) (pp b.hh k))) (by omega))
theorem MB.part {K H h n:Nat} {M:List (List Rat)} (b:MB K H h n M) {k j:Nat} (hk:k≤6) (hj:j≤7):Bq n (dtP k M j):=by
 have hn:=b.hn
 have hm:h*k≤6*h:=by rw[Nat.mul_comm];exact Nat.mul_le_mul_right _ hk
 exact (dtP_db b.K0 (enM_db b.en b.K0) (fun j=>enM_db (b.less j).en b.K0) j).Bq (p2 (pm b.kh (pp b.kh k)) (by omega)) (p2 (pm (Nat.le_trans hj (show 7≤2^3 by decide)) (pm b.hh (pm (Nat.le_trans (fct_le k hk) (show 720≤2^10 by decide)) (pp b.hh k)))) (by omega))
theorem dtP_succ (n:Nat) (M:List (List Rat)) (j:Nat):dtP n M (j+1)=dtP n M j+sg j*cf (M.getD 0 []) j*dt n (enM (lessM M j)):=rfl
theorem less_take {n:Nat} {M:List (List Rat)} (h:SqM (n+1) M) {j k:Nat} (hk:k<n):(lessM M j).take k++[cutR j (M.getD (k+1) [])]=(lessM M j).take (k+1):=by
 have hl:k<(lessM M j).length:=by rw[lessM_len,h.1];omega
 have e:(lessM M j)[k]=cutR j (M.getD (k+1) []):=by
  have h1:k+1<M.length:=by rw[h.1];omega
  simp[lessM,h1,Nat.add_comm 1 k]
 rw[←e,List.take_append_getElem hl]
theorem parJ1 {j:Nat} (h:j % 2=1):Int.tmod (j:Int) 2=1:=by rw[show Int.tmod (j:Int) 2=((j % 2:Nat):Int) from rfl,h];rfl
theorem parJ0 {j:Nat} (h:¬ j % 2=1):¬ Int.tmod (j:Int) 2=1:=by rw[show Int.tmod (j:Int) 2=((j % 2:Nat):Int) from rfl];omega
set_option maxHeartbeats 8000000 in
theorem det_con {K H h n:Nat}:∀ (k:Nat) (M:List (List Rat)),k≤6→SqM k M→MB K H h n M→Con Try.prog AN 49 [LM M] (qZ (dt k (enM M)))
 | 0,M,hk,hq,hb=>by
  have hM:M=[]:=List.eq_nil_of_length_eq_zero hq.1
  subst hM
  refine fn49.con rfl (by simp) ?_
  simp only[c49,c49_78,c49_1,l49_0,init1,cw,csW,cops,reduceCtorEq]
  refine keep [0,2] ?_
  simp only[c49_77,c49_9,c49_3,l49_2,csW,reduceCtorEq,cw,cops,Nat.reduceEqDiff]
  refine keep [0,2,11] ?_
  simp only[c49_8,csW,reduceCtorEq,Nat.reduceEqDiff,cw]
  simp only[c49_7,c49_6,l49_4,csW,cw,cops,reduceCtorEq,Nat.reduceEqDiff]
  refine⟨_,fof_con 1 (by omega),?_⟩
  simp only[l49_5,rat_one,cops,csW,reduceCtorEq,Nat.reduceEqDiff,csP,Nat.reduceAdd]
  refine keep [2] ?_
  simp only[Ends,resD,resL,resV,csW,reduceCtorEq,Nat.reduceEqDiff,csP,Nat.reduceAdd]
  rfl
 | k+1,M,hk,hq,hb=>by
  have hnb:=hb.nb
  have hl:=hq.1
  have h0:0<M.length:=by omega
  have hI:¬ (M.length:Int)=0:=by omega
  have rl:∀ i,i<k+1→(M.getD i []).length=k+1:=fun i hi=>by
   have hi':i<M.length:=by omega
   rw[List.getD_eq_getElem?_getD,List.getElem?_eq_getElem hi']
   exact hq.2 _ (List.getElem_mem hi')
  obtain⟨r0,hr0⟩:∃ r,r=M.getD 0 []:=⟨_,rfl⟩
  have l0:r0.length=k+1:=by rw[hr0];exact rl 0 (by omega)
  have b0:∀ c,Bq n (cf r0 c):=fun c=>by rw[hr0];exact hb.row 0 c
  have g0:(M.map rZ).getD 0 default = .list 47 4 (r0.map qZ):=by rw[hr0];exact getD_r h0
  rw[←dtP_all hq]
  refine fn49.con rfl (by simp) ?_
  simp only[c49,c49_78,c49_1,l49_0,init1,cw,csW,cops,reduceCtorEq]
  refine keep [0,2] ?_
  simp only[c49_77,c49_9,c49_3,l49_2,csW,reduceCtorEq,cw,cops,Nat.reduceEqDiff,hI]
  refine keep [0,2,11] ?_
  simp only[c49_8,csW,reduceCtorEq,Nat.reduceEqDiff,cw]
  refine keep [0,2] ?_
  simp only[c49_76,c49_12,l49_10,csW,reduceCtorEq,Nat.reduceEqDiff,cw,cops]
  refine⟨_,fof_con 0 (by omega),?_⟩
  simp only[l49_11,rat_zero,cops,csW,csP,Nat.reduceEqDiff,reduceCtorEq,Nat.reduceAdd]
  refine keep [0,2,3] ?_
  simp only[c49_75,c49_71,c49_14,l49_13,csW,reduceCtorEq,Nat.reduceEqDiff,cw,cops]
  refine keep [0,2,3,4] ?_
  simp only[c49_70,csW,reduceCtorEq,Nat.reduceEqDiff,cw]
  refine loop_of (ι:=Nat) (fun j=>j≤k+1) (fun j=>⟨look [(0,.p (LM M)),(2,.ptr 2 0 0),(3,.ptr 3 0 0),(4,.p (J j))],
   lookM [(2,⟨47,4,.box (.p (.agg [.bool false,.list 3 1 [],.bool false,.list 3 1 []])),false⟩),(3,⟨47,4,.box (.p (qZ (dtP k M j))),false⟩)]⟩) (fun j=>k+1-j) 0 (by omega) (Sub.toG [0,2,3,4] [8,40,50,51,52] (by rfl) (by rfl) (by rfl) (by rfl)) ?_
  rintro j hj
  by_cases hjk:j<k+1
  ·have hJ:(j:Int)<(M.length:Int):=by omega
   have hj0:j<r0.length:=by omega
   have hs:=dtP_succ k M j
   rw[←hr0] at hs
   by_cases hz:cf r0 j=0
   ·have hz0:sgnQ (cf r0 j)=0:=sgnQ_0.2 hz
    have hs':dtP k M (j+1)=dtP k M j:=by rw[hs,hz];grind
    simp only[c49_68,c49_18,c49_16,l49_15,cw,csW,cops,reduceCtorEq,Nat.reduceEqDiff,hJ]
    refine keep [0,2,3,4,17] ?_
    simp only[c49_17,csW,reduceCtorEq,Nat.reduceEqDiff,cw]
    refine keep [0,2,3,4] ?_
    simp only[c49_67,c49_64,c49_63,c49_23,c49_21,l49_19,csW,reduceCtorEq,Nat.reduceEqDiff,cw,cops,csP,Nat.reduceLT,g0,getD_z hj0,Nat.reduceAdd]
    (repeat refine And.intro (by first | omega | (simp;omega)) ?_)
    refine⟨_,zSign (cf r0 j) n (b0 j) hnb,?_⟩
    simp only[l49_20,hz0,cops,csW,reduceCtorEq,Nat.reduceEqDiff]
    refine keep [0,2,3,4,27] ?_
    simp only[c49_22,csW,reduceCtorEq,Nat.reduceEqDiff,cw]
    refine keep [0,2,3,4] ?_
    simp only[c49_66,l49_65,csW,reduceCtorEq,Nat.reduceEqDiff,cw,cops]
    (repeat refine And.intro (by first | omega | (simp;omega)) ?_)
    exact⟨j+1,by omega,by rw[hs'];exact (Sub.toG [0,2,3,4] [8,40,50,51,52] (by rfl) (by rfl) (by rfl) (by rfl)),by omega⟩
   ·have hz0:¬ sgnQ (cf r0 j)=0:=fun h=>hz (sgnQ_0.1 h)
    simp only[c49_68,c49_18,c49_16,l49_15,cw,csW,cops,reduceCtorEq,Nat.reduceEqDiff,hJ]
    refine keep [0,2,3,4,17] ?_
    simp only[c49_17,csW,reduceCtorEq,Nat.reduceEqDiff,cw]
    refine keep [0,2,3,4] ?_
    simp only[c49_67,c49_64,c49_63,c49_23,c49_21,l49_19,csW,reduceCtorEq,Nat.reduceEqDiff,cw,cops,csP,Nat.reduceLT,g0,getD_z hj0,Nat.reduceAdd]
    (repeat refine And.intro (by first | omega | (simp;omega)) ?_)
    refine⟨_,zSign (cf r0 j) n (b0 j) hnb,?_⟩
    simp only[l49_20,cops,csW,reduceCtorEq,Nat.reduceEqDiff,hz0]
    refine keep [0,2,3,4,27] ?_
    simp only[c49_22,csW,reduceCtorEq,Nat.reduceEqDiff,cw]
    refine keep [0,2,3,4] ?_
    simp only[c49_62,c49_25,l49_24,csW,reduceCtorEq,Nat.reduceEqDiff,cw,cops]
    refine keep [0,2,3,4,5] ?_
    simp only[c49_61,c49_44,c49_27,l49_26,csW,reduceCtorEq,Nat.reduceEqDiff,cw,cops]
    refine keep [0,2,3,4,5,6] ?_
    simp only[c49_43,csW,reduceCtorEq,Nat.reduceEqDiff,cw]
    refine loop_of (ι:=Nat) (fun i=>i≤k) (fun i=>⟨look [(0,.p (LM M)),(2,.ptr 2 0 0),(3,.ptr 3 0 0),(4,.p (J j)),(5,.slice 205 0 i),(6,.p (J ((i:Int)+1)))],
     lookM [(2,⟨47,4,.box (.p (.agg [.bool false,.list 3 1 [],.bool false,.list 3 1 []])),false⟩),(3,⟨47,4,.box (.p (qZ (dtP k M j))),false⟩),
      (205,⟨30,1,.row (((lessM M j).take i).map rZ),false⟩)]⟩) (fun i=>k-i) 0 (by omega) (Sub.nilG 5 205 30 1 (by rfl) (by rfl) (by decide) (by rfl) (by rfl)) ?_
    rintro i hi
    by_cases hik:i<k
    ·have hK:(i:Int)+1<(M.length:Int):=by omega
     have hi1:i+1<M.length:=by omega
     have hit:((i:Int)+1).toNat=i+1:=by omega
     have hjt:((j:Int)+1).toNat=j+1:=by omega
     obtain⟨r,hr⟩:∃ r,r=M.getD (i+1) []:=⟨_,rfl⟩
     have lr:r.length=k+1:=by rw[hr];exact rl _ (by omega)
     have g1:(M.map rZ).getD (i+1) default = .list 47 4 (r.map qZ):=by rw[hr];exact getD_r hi1
     have hd:(r.drop (j+1)).take (k+1-(j+1))=r.drop (j+1):=List.take_of_length_le (by rw[List.length_drop];omega)
     have hlt:=less_take hq (j:=j) hik
     rw[←hr] at hlt
     have htl:((lessM M j).take i).length=i:=by rw[List.length_take,lessM_len];omega
     have hrt:(r.take j).length=j:=by rw[List.length_take];omega
     have hdl:(r.drop (j+1)).length=k-j:=by rw[List.length_drop];omega
     have hjk2:j+(k-j)=k:=by omega
     have hcl:(r.take j++r.drop (j+1)).length=k:=by rw[List.length_append,hrt,hdl];omega
     have hct:(r.take j++r.drop (j+1)).take k=r.take j++r.drop (j+1):=List.take_of_length_le (by omega)
     unfold cutR at hlt
     simp only[c49_41,c49_31,c49_29,l49_28,cw,csW,cops,reduceCtorEq,Nat.reduceEqDiff,hK]
     refine keep [0,2,3,4,5,6,31] ?_
     simp only[c49_30,csW,reduceCtorEq,Nat.reduceEqDiff,cw]
     refine keep [0,2,3,4,5,6] ?_
     simp only[c49_40,c49_37,c49_36,c49_33,l49_32,csW,reduceCtorEq,Nat.reduceEqDiff,cw,cops,csP,hK,hit,g1,lr,hrt]
     (repeat refine And.intro (by first | omega | (simp;omega)) ?_)
     refine keep [0,2,3,4,5,6,7] ?_
     simp only[c49_35,l49_34,csW,reduceCtorEq,Nat.reduceEqDiff,cw,cops,csP,hK,hit,g1,lr,hjt,drop_z,hd,hrt,hdl,hjk2,app2_z,Bool.true_or,hcl,Nat.le_refl,hct,htl,Nat.reduceLeDiff,app_r]
     (repeat refine And.intro (by first | omega | (simp;omega)) ?_)
     refine keep [0,2,3,4,5,6] ?_
     simp only[c49_39,l49_38,csW,reduceCtorEq,Nat.reduceEqDiff,cw,cops]
     (repeat refine And.intro (by first | omega | (simp;omega)) ?_)
     exact⟨i+1,by omega,by rw[←hlt];exact (Sub.toG [0,2,3,4,5,6] [8,40,50,51] (by rfl) (by rfl) (by rfl) (by rfl)),by omega⟩
    ·have hK:¬ (i:Int)+1<(M.length:Int):=by omega
     obtain rfl:i=k:=by omega
     have hal:(lessM M j).take i=lessM M j:=List.take_of_length_le (by rw[lessM_len];omega)
     have hll:(lessM M j).length=i:=by rw[lessM_len];omega
     have hdet:=det_con i (lessM M j) (by omega) (hq.less hjk) (hb.less j)
     have hpb:=hb.prod (j:=j) (k:=i) (by omega)
     have hsb:=hb.part (j:=j) (k:=i) (by omega) (by omega)
     rw[←hr0] at hpb
     obtain⟨y,hy⟩:∃ y,y=cf r0 j*dt i (enM (lessM M j)):=⟨_,rfl⟩
     have hmul:=zMul (cf r0 j) (dt i (enM (lessM M j))) n (b0 j) ((hb.less j).dtb (by omega)) hnb
     rw[←hy] at hpb hmul
     by_cases hp:j % 2=1
     ·have hP:=parJ1 hp
      have hs':dtP i M (j+1)=dtP i M j + -y:=by rw[hs,Rat.mul_assoc,sg_neg hp,hy]
      simp only[c49_41,c49_31,c49_29,l49_28,cw,csW,cops,reduceCtorEq,Nat.reduceEqDiff,hK]
      refine keep [0,2,3,4,5,6,31] ?_
      simp only[c49_30,csW,reduceCtorEq,Nat.reduceEqDiff,cw]
      simp only[hal]
      refine keepF 205 _ [0,2,3,4,5] (by rfl) ?_
      simp only[c49_60,c49_48,l49_45,csW,reduceCtorEq,Nat.reduceEqDiff,cw,cops,csP,Nat.reduceLT,g0,getD_z hj0,Nat.reduceAdd,Bool.true_or,hll,Nat.le_refl,take_r,hal]
      (repeat refine And.intro (by first | omega | (simp;omega)) ?_)
      refine⟨_,hdet,?_⟩
      simp only[l49_46,cops,csW,reduceCtorEq,Nat.reduceEqDiff]
      refine⟨_,hmul,?_⟩
      simp only[l49_47,cops,csW,csP,Nat.reduceEqDiff,reduceCtorEq,Nat.reduceAdd]
      refine keep [0,2,3,4,8] ?_
      simp only[c49_59,c49_55,c49_50,l49_49,csW,reduceCtorEq,Nat.reduceEqDiff,cw,cops,hP]
      (repeat refine And.intro (by first | omega | (simp;omega)) ?_)
      refine keep [0,2,3,4,8,64] ?_
      simp only[c49_54,csW,reduceCtorEq,Nat.reduceEqDiff,cw]
      simp only[c49_53,l49_51,csW,cw,cops,reduceCtorEq,Nat.reduceEqDiff,csP,Nat.reduceAdd]
      refine⟨_,zNeg y n hpb hnb,?_⟩
      simp only[l49_52,cops,csW,reduceCtorEq,Nat.reduceEqDiff,csP,Nat.reduceAdd]
      refine keep [0,2,3,4,8] ?_
      simp only[c49_58,l49_56,csW,reduceCtorEq,Nat.reduceEqDiff,cw,cops,csP,Nat.reduceLT,Nat.reduceAdd]
      refine⟨_,zAdd _ _ n hsb hpb.neg hnb,?_⟩
      simp only[l49_57,cops,csW,reduceCtorEq,Nat.reduceEqDiff,csP,Nat.reduceAdd]
      refine keep [0,2,3,4] ?_
      simp only[c49_66,l49_65,csW,reduceCtorEq,Nat.reduceEqDiff,cw,cops]
      (repeat refine And.intro (by first | omega | (simp;omega)) ?_)
      exact⟨j+1,by omega,by rw[hs'];exact (Sub.toG [0,2,3,4] [8,40,50,51,52,205] (by rfl) (by rfl) (by rfl) (by rfl)),by omega⟩
     ·have hP:=parJ0 hp
      have hs':dtP i M (j+1)=dtP i M j+y:=by rw[hs,Rat.mul_assoc,sg_pos hp,hy]
      simp only[c49_41,c49_31,c49_29,l49_28,cw,csW,cops,reduceCtorEq,Nat.reduceEqDiff,hK]
      refine keep [0,2,3,4,5,6,31] ?_
      simp only[c49_30,csW,reduceCtorEq,Nat.reduceEqDiff,cw]
      simp only[hal]
      refine keepF 205 _ [0,2,3,4,5] (by rfl) ?_
      simp only[c49_60,c49_48,l49_45,csW,reduceCtorEq,Nat.reduceEqDiff,cw,cops,csP,Nat.reduceLT,g0,getD_z hj0,Nat.reduceAdd,Bool.true_or,hll,Nat.le_refl,take_r,hal]
      (repeat refine And.intro (by first | omega | (simp;omega)) ?_)
      refine⟨_,hdet,?_⟩
      simp only[l49_46,cops,csW,reduceCtorEq,Nat.reduceEqDiff]
      refine⟨_,hmul,?_⟩
      simp only[l49_47,cops,csW,csP,Nat.reduceEqDiff,reduceCtorEq,Nat.reduceAdd]
      refine keep [0,2,3,4,8] ?_
      simp only[c49_59,c49_55,c49_50,l49_49,csW,reduceCtorEq,Nat.reduceEqDiff,cw,cops,hP]
      (repeat refine And.intro (by first | omega | (simp;omega)) ?_)
      refine keep [0,2,3,4,8,64] ?_
      simp only[c49_54,csW,reduceCtorEq,Nat.reduceEqDiff,cw]
      refine keep [0,2,3,4,8] ?_
      simp only[c49_58,l49_56,csW,reduceCtorEq,Nat.reduceEqDiff,cw,cops,csP,Nat.reduceLT,Nat.reduceAdd]
      refine⟨_,zAdd _ _ n hsb hpb hnb,?_⟩
      simp only[l49_57,cops,csW,reduceCtorEq,Nat.reduceEqDiff,csP,Nat.reduceAdd]
      refine keep [0,2,3,4] ?_
      simp only[c49_66,l49_65,csW,reduceCtorEq,Nat.reduceEqDiff,cw,cops]
      (repeat refine And.intro (by first | omega | (simp;omega)) ?_)
      exact⟨j+1,by omega,by rw[hs'];exact (Sub.toG [0,2,3,4] [8,40,50,51,52,205] (by rfl) (by rfl) (by rfl) (by rfl)),by omega⟩
  ·have hJ:¬ (j:Int)<(M.length:Int):=by omega
   obtain rfl:j=k+1:=by omega
   have hJ':¬ (k:Int)+1<(M.length:Int):=by omega
   simp only[c49_68,c49_18,c49_16,l49_15,csW,cw,cops,reduceCtorEq,Nat.reduceEqDiff,hJ']
   refine keep [0,2,3,4,17] ?_
   simp only[c49_17,csW,reduceCtorEq,Nat.reduceEqDiff,cw]
   refine keep [2,3] ?_
   simp only[c49_74,c49_73,l49_72,csW,reduceCtorEq,Nat.reduceEqDiff,cw,cops,csP,Nat.reduceAdd]
   refine keep [2] ?_
   simp only[Ends,resD,resL,resV,csW,Nat.reduceEqDiff,csP,Nat.reduceAdd]
end Go.Proofs.Ytdjbfgfbpimakaa.M
