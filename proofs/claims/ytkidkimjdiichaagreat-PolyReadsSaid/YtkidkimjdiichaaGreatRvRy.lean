/- Polynomials: what all coefficients have in common is taken out: the reference. -/
import Derived.Test.YtkidkimjdiichaaGreatRvBy
namespace Go.Proofs.YtkidkimjdiichaaGreat.M
open Go.RowKit
set_option linter.unusedSimpArgs false
set_option linter.unusedVariables false
set_option linter.defProp false
def upQ (l : List Rat) : List Rat:=sclQ l (((lN l l.length : Nat) : Int) : Rat)
theorem up_len {l : List Rat} (nl : Nf l) : (upQ l).length = l.length:=scl_len_eq nl (lN_rat l _)
theorem up_num {l : List Rat} {i : Nat} (hi : i < l.length) : (cf (upQ l) i).num.natAbs = (cf l i).num.natAbs * (lN l l.length / (cf l i).den):=by
 unfold upQ
 rw [cf_scl,num_up_num (Nat.dvd_trans (den_dvd l i) (lN_up l (by omega))),Int.natAbs_mul,Int.natAbs_natCast]
theorem up_gN {l : List Rat} : ∀ i,i ≤ l.length → gN (upQ l) i = gP l (lN l l.length) i
 | 0,_ => rfl
 | i + 1,hi => by rw [gN,gP,up_gN i (by omega),up_num (by omega)]
theorem up_all {l : List Rat} : gN (upQ l) l.length = gN l l.length:=by rw [up_gN _ (Nat.le_refl _),gP_all]
theorem up_sgn {l : List Rat} (nl : Nf l) (h0 : l ≠ []) : sgnQ (ld (upQ l)) = sgnQ (ld l):=by
 have e : ld (upQ l) = ld l * (((lN l l.length : Nat) : Int) : Rat):=by
  unfold ld
  rw [up_len nl]
  unfold upQ
  rw [cf_scl]
 rw [e]
 refine sgn_up ?_ (lN_pos l _)
 have:=List.length_pos_iff.2 h0
 have h1:=den_dvd l (l.length - 1)
 rw [show l.length - 1 + 1 = l.length by omega] at h1
 exact h1
theorem PrB.up {l : List Rat} {s n : Nat} (h : PrB l s n) : Bl (s + s) (upQ l):=fun i => by
 unfold upQ
 rw [cf_scl]
 refine (h.bl i).mul ⟨?_,Nat.one_lt_two_pow (by have:=h.s1;omega)⟩
 exact h.lo l.length (Nat.le_refl _)
theorem gS_bt {l : List Rat} {s n : Nat} (h : PrB l s n) : Bt (gS l) n:=by
 have h1 : Bt (gN l l.length : Int) n:=(bt_nat (h.g _)).mono (by have:=h.sn;omega)
 unfold gS
 split
 ·exact h1.neg
 ·exact h1
theorem gS_bq {l : List Rat} {s n : Nat} (h : PrB l s n) (h0 : l ≠ []) : Bq s (Rat.divInt 1 (gS l)):=by
 have h1 : (gS l).natAbs < 2 ^ s:=by
  have:=h.g l.length
  unfold gS;split <;> omega
 have h2 : Rat.divInt 1 (gS l) = 1 / ((gS l : Int) : Rat):=by rw [Rat.divInt_eq_div];rfl
 rw [h2]
 exact Bq.inv ⟨h1,Nat.one_lt_two_pow (by have:=h.s1;omega)⟩
set_option maxHeartbeats 8000000 in
theorem pprim_con (l : List Rat) (s n : Nat) (h : PrB l s n) (hn : n ≤ big) : Con Tryz.prog AN 49 [LZ l] (LZ (primQ l)):=by
 have hlen:=h.len
 have hsn:=h.sn
 have hs1:=h.s1
 have hbig : big = 2048000000000:=rfl
 have hn8 : n ≤ 4147200000000:=by omega
 have up : ∀ k : Nat,k < 2 ^ s → Bt (k : Int) n:=fun k hk => (bt_nat hk).mono (by omega)
 have hupl:=up_len h.nf
 have hupb:=h.up
 refine fn49.con rfl (by simp) ?_
 simp only [c49,c49_79,c49_1,l49_0,init1,cw,csW,apartV,bne,cops,reduceCtorEq]
 refine keep [0] ?_
 simp only [c49_78,c49_3,l49_2,encZ_0,csW,reduceCtorEq,cw,apartV,bne,cops,csP,Nat.reduceEqDiff,Nat.reduceAdd]
 refine keep [0,3] ?_
 simp only [c49_77,c49_6,l49_4,csW,reduceCtorEq,Nat.reduceEqDiff,cw,apartV,bne,cops]
 refine ⟨_,cZOf 1 (by omega),?_⟩
 simp only [l49_5,encZ_0,csW,cops,csP,Nat.reduceEqDiff,reduceCtorEq,Nat.reduceAdd]
 refine keep [0,3,4] ?_
 simp only [c49_76,c49_28,c49_8,l49_7,csW,reduceCtorEq,Nat.reduceEqDiff,cw,apartV,bne,cops]
 refine keep [0,3,4,5] ?_
 simp only [c49_27,csW,reduceCtorEq,Nat.reduceEqDiff,cw]
 refine loop_of (ι:=Nat) (fun i => i ≤ l.length) (fun i => ⟨look [(0,.p (LZ l)),(3,.ptr 3 0 0),(4,.ptr 4 0 0),(5,.p (J i))],
  lookM [(3,⟨58,2,.box (.p (encZ ((0 : Nat) : Int))),false⟩),(4,⟨58,2,.box (.p (encZ (lN l i))),false⟩)]⟩) (fun i => l.length - i) 0 (by omega) (Sub.toG [0,3,4,5] [6,7,8] (by rfl) (by rfl) (by rfl) (by rfl)) ?_
 rintro i hi
 by_cases h' : i < l.length
 ·have hI : (i : Int) < (l.length : Int):=by omega
  obtain ⟨b,hb⟩ : ∃ b,b = (cf l i).den:=⟨_,rfl⟩
  obtain ⟨e,he⟩ : ∃ e,e = Nat.gcd (lN l i) b:=⟨_,rfl⟩
  have hb0 : 0 < b:=by rw [hb];exact (cf l i).den_pos
  have he0 : 0 < e:=by rw [he];exact Nat.gcd_pos_of_pos_right _ hb0
  have hbs : b < 2 ^ s:=by rw [hb];exact (h.bl i).2
  have heb : e ≤ b:=by rw [he];exact Nat.gcd_le_right _ hb0
  have hls : lN l (i + 1) = lN l i * (b / e):=by rw [lN,← hb,← he]
  have cE : Con Tryz.prog AN 136 [encZ (lN l i),encZ (b : Int)] (encZ (e : Int)):=by
   rw [he];exact cGcdZ _ _ n (up _ (h.lo i hi)) (up _ hbs) hn8
  have cD : Con Tryz.prog AN 135 [encZ (b : Int),encZ (e : Int)] (.tup [encZ ((b / e : Nat) : Int),encZ ((b % e : Nat) : Int),flt 0 0]):=cDivZ b e n (up _ hbs) (up _ (by omega)) hn8 (by omega)
  have cM : Con Tryz.prog AN 137 [encZ (lN l i),encZ ((b / e : Nat) : Int)] (encZ (lN l (i + 1))):=by
   rw [hls,Int.natCast_mul];exact cZMul _ _ n (up _ (h.lo i hi)) (up _ (Nat.lt_of_le_of_lt (Nat.div_le_self _ _) hbs)) hn8
  simp only [c49_25,c49_12,c49_10,l49_9,csW,cw,apartV,bne,cops,reduceCtorEq,Nat.reduceEqDiff,hI]
  refine keep [0,3,4,5,15] ?_
  simp only [c49_11,csW,reduceCtorEq,Nat.reduceEqDiff,cw]
  refine keep [0,3,4,5] ?_
  simp only [c49_24,c49_21,c49_20,c49_16,l49_13,csW,reduceCtorEq,Nat.reduceEqDiff,cw,apartV,bne,cops,csP,Nat.reduceLT,Nat.reduceAdd,hI,getD_z h',← hb]
  (repeat refine And.intro (by first | omega | (simp;omega)) ?_)
  refine ⟨_,cE,?_⟩
  simp only [l49_14,cops,csW,reduceCtorEq,Nat.reduceEqDiff]
  refine ⟨_,cD,?_⟩
  simp only [l49_15,encZ_0,csW,csP,cops,reduceCtorEq,Nat.reduceEqDiff,Nat.reduceAdd]
  refine keep [0,3,4,5,6] ?_
  simp only [c49_19,l49_17,csW,reduceCtorEq,Nat.reduceEqDiff,cw,apartV,bne,cops,csP,Nat.reduceLT,Nat.reduceAdd]
  refine ⟨_,cM,?_⟩
  simp only [l49_18,cops,csW,reduceCtorEq,Nat.reduceEqDiff,csP,Nat.reduceAdd]
  refine keep [0,3,4,5] ?_
  simp only [c49_23,l49_22,csW,reduceCtorEq,Nat.reduceEqDiff,cw,apartV,bne,cops]
  (repeat refine And.intro (by first | omega | (simp;omega)) ?_)
  exact ⟨i + 1,by omega,(Sub.toG [0,3,4,5] [6,7,8] (by rfl) (by rfl) (by rfl) (by rfl)),by omega⟩
 ·have hI : ¬ (i : Int) < (l.length : Int):=by omega
  have hiN : i = l.length:=by omega
  subst hiN
  have hLb : Bq s (((lN l l.length : Nat) : Int) : Rat):=⟨by have:=h.lo l.length (Nat.le_refl _);simpa using this,Nat.one_lt_two_pow (by omega)⟩
  have cU : Con Tryz.prog AN 48 [LZ l,qZ (((lN l l.length : Nat) : Int) : Rat)] (LZ (upQ l)):=pscale_con l _ n (h.bl.mono (by omega)) (hLb.mono (by omega)) (fun i => ((h.bl i).mul hLb).mono (by omega)) hn (by omega)
  simp only [c49_25,c49_12,c49_10,l49_9,csW,cw,apartV,bne,cops,reduceCtorEq,Nat.reduceEqDiff,hI]
  refine keep [0,3,4,5,15] ?_
  simp only [c49_11,csW,reduceCtorEq,Nat.reduceEqDiff,cw]
  refine keep [0,3,4] ?_
  simp only [c49_75,c49_32,l49_29,csW,reduceCtorEq,Nat.reduceEqDiff,cw,apartV,bne,cops,csP,Nat.reduceAdd]
  refine ⟨_,cZOf 1 (by omega),?_⟩
  simp only [l49_30,cops,csW,csP,Nat.reduceAdd,Nat.reduceLeDiff,reduceCtorEq,Nat.reduceEqDiff,fold_int']
  refine ⟨_,cU,?_⟩
  simp only [l49_31,cops,csW,reduceCtorEq,Nat.reduceEqDiff]
  refine keep [0,3] ?_
  simp only [c49_74,c49_49,c49_34,l49_33,csW,reduceCtorEq,Nat.reduceEqDiff,cw,apartV,bne,cops]
  refine keep [0,3,9] ?_
  simp only [c49_48,csW,reduceCtorEq,Nat.reduceEqDiff,cw]
  obtain ⟨m,hm⟩ : ∃ m,m = upQ l:=⟨_,rfl⟩
  rw [← hm]
  have hml : m.length = l.length:=by rw [hm];exact hupl
  have hmb : Bl (s + s) m:=by rw [hm];exact hupb
  refine loop_of (ι:=Nat) (fun i => i ≤ m.length) (fun i => ⟨look [(0,.p (LZ m)),(3,.ptr 3 0 0),(9,.p (J i))],
   lookM [(3,⟨58,2,.box (.p (encZ (gN m i))),false⟩)]⟩) (fun i => m.length - i) 0 (by omega) (Sub.toG [0,3,9] [4,6,7,8] (by rfl) (by rfl) (by rfl) (by rfl)) ?_
  rintro i hi
  by_cases h' : i < m.length
  ·have hI : (i : Int) < (m.length : Int):=by omega
   have hg : gN m i < 2 ^ (s + s):=by rw [hm,up_gN i (by omega)];exact h.p i (by omega)
   have cG : Con Tryz.prog AN 136 [encZ (gN m i),encZ (cf m i).num] (encZ (gN m (i + 1))):=cGcdZ _ _ n ((bt_nat hg).mono (by omega)) (((hmb i).n).mono (by omega)) hn8
   simp only [c49_46,c49_38,c49_36,l49_35,cw,csW,apartV,bne,cops,reduceCtorEq,Nat.reduceEqDiff,hI]
   refine keep [0,3,9,46] ?_
   simp only [c49_37,csW,reduceCtorEq,Nat.reduceEqDiff,cw]
   refine keep [0,3,9] ?_
   simp only [c49_45,c49_42,c49_41,l49_39,csW,reduceCtorEq,Nat.reduceEqDiff,cw,apartV,bne,cops,csP,Nat.reduceLT,Nat.reduceAdd,hI,getD_z h',Nat.reduceLeDiff]
   (repeat refine And.intro (by first | omega | (simp;omega)) ?_)
   refine ⟨_,cG,?_⟩
   simp only [l49_40,cops,csW,reduceCtorEq,Nat.reduceEqDiff,csP,Nat.reduceAdd]
   refine keep [0,3,9] ?_
   simp only [c49_44,l49_43,csW,reduceCtorEq,Nat.reduceEqDiff,cw,apartV,bne,cops]
   (repeat refine And.intro (by first | omega | (simp;omega)) ?_)
   exact ⟨i + 1,by omega,(Sub.toG [0,3,9] [4,6,7,8] (by rfl) (by rfl) (by rfl) (by rfl)),by omega⟩
  ·have hI : ¬ (i : Int) < (m.length : Int):=by omega
   have hiN : i = m.length:=by omega
   subst hiN
   simp only [c49_46,c49_38,c49_36,l49_35,cw,csW,apartV,bne,cops,reduceCtorEq,Nat.reduceEqDiff,hI]
   refine keep [0,3,9,46] ?_
   simp only [c49_37,csW,reduceCtorEq,Nat.reduceEqDiff,cw]
   by_cases h0 : l = []
   ·subst h0
    have hm0 : m = []:=hm
    subst hm0
    simp only [csW]
    refine keep [0,3] ?_
    simp only [c49_73,c49_56,c49_51,l49_50,csW,reduceCtorEq,Nat.reduceEqDiff,cw,apartV,bne,cops]
    refine keep [0,3,58] ?_
    simp only [c49_55,csW,reduceCtorEq,Nat.reduceEqDiff,cw]
    simp only [c49_54,c49_53,l49_52,cw,csW,apartV,bne,cops,reduceCtorEq,Nat.reduceEqDiff]
    refine keep [2] ?_
    simp only [Ends,resD,resL,resV,csW,reduceCtorEq,Nat.reduceEqDiff]
    rfl
   ·have hI0 : ¬ (m.length : Int) = 0:=by have:=List.length_pos_iff.2 h0;omega
    have hall : gN m m.length = gN l l.length:=by rw [hml,hm,up_all]
    have hsg : sgnQ (ld m) = sgnQ (ld l):=by rw [hm];exact up_sgn h.nf h0
    have hgb:=gS_bq h h0
    have hg0:=gS_ne h.nf h0
    have cF : Con Tryz.prog AN 128 [encZ 1,encZ (gS l)] (qZ (Rat.divInt 1 (gS l))):=by
     rw [← qZ_of hg0]
     exact cfover 1 (gS l) n (bt_one' n (by omega)) (gS_bt h) hn8 hg0
    have hpr : sclQ m (Rat.divInt 1 (gS l)) = primQ l:=by rw [hm];exact prim_ref h.nf h0
    have cS : Con Tryz.prog AN 48 [LZ m,qZ (Rat.divInt 1 (gS l))] (LZ (primQ l)):=by
     rw [← hpr]
     exact pscale_con m _ n (hmb.mono (by omega)) (hgb.mono (by omega)) (fun i => ((hmb i).mul hgb).mono (by omega)) hn (by omega)
    refine keep [0,3] ?_
    simp only [c49_73,c49_56,c49_51,l49_50,csW,reduceCtorEq,Nat.reduceEqDiff,cw,apartV,bne,cops,hI0]
    refine keep [0,3,58] ?_
    simp only [c49_55,csW,reduceCtorEq,Nat.reduceEqDiff,cw]
    refine keep [0,3] ?_
    simp only [c49_72,c49_65,c49_60,l49_57,csW,reduceCtorEq,Nat.reduceEqDiff,cw,apartV,bne,cops]
    refine ⟨_,plead_con m (by omega),?_⟩
    simp only [l49_58,cops,csW,reduceCtorEq,Nat.reduceEqDiff]
    refine ⟨_,zSign (ld m) n ((hmb _).mono (by omega)) hn,?_⟩
    simp only [l49_59,hsg,cops,csW,reduceCtorEq,Nat.reduceEqDiff]
    refine keep [0,3,63] ?_
    simp only [c49_64,csW,reduceCtorEq,Nat.reduceEqDiff,cw]
    refine ⟨fun hc => ?_,fun hc => ?_⟩
    ·have hgs : gS l = -((gN l l.length : Nat) : Int):=by unfold gS;rw [if_pos (by simpa using hc)]
     simp only [c49_63,l49_61,csW,cw,apartV,bne,cops,reduceCtorEq,Nat.reduceEqDiff,csP,Nat.reduceAdd]
     refine ⟨_,cZNeg (gN m m.length) n (by rw [hall];exact up _ (h.g _)) hn8,?_⟩
     simp only [l49_62,hall,← hgs,cops,csW,reduceCtorEq,Nat.reduceEqDiff,csP,Nat.reduceAdd]
     refine keep [0,3] ?_
     simp only [c49_71,c49_70,l49_66,csW,reduceCtorEq,Nat.reduceEqDiff,cw,apartV,bne,cops]
     refine ⟨_,cZOf 1 (by omega),?_⟩
     simp only [l49_67,cops,csW,reduceCtorEq,Nat.reduceEqDiff,csP,Nat.reduceAdd]
     refine ⟨_,cF,?_⟩
     simp only [l49_68,cops,csW,reduceCtorEq,Nat.reduceEqDiff]
     refine ⟨_,cS,?_⟩
     simp only [l49_69,cops,csW,reduceCtorEq,Nat.reduceEqDiff]
     refine keep [2] ?_
     simp only [Ends,resD,resL,resV,csW,reduceCtorEq,Nat.reduceEqDiff]
    ·have hgs : gS l = ((gN l l.length : Nat) : Int):=by unfold gS;rw [if_neg (by simpa using hc)]
     refine keep [0,3] ?_
     simp only [c49_71,c49_70,l49_66,csW,reduceCtorEq,Nat.reduceEqDiff,cw,apartV,bne,cops]
     refine ⟨_,cZOf 1 (by omega),?_⟩
     simp only [l49_67,hall,← hgs,cops,csW,reduceCtorEq,Nat.reduceEqDiff,csP,Nat.reduceAdd]
     refine ⟨_,cF,?_⟩
     simp only [l49_68,cops,csW,reduceCtorEq,Nat.reduceEqDiff]
     refine ⟨_,cS,?_⟩
     simp only [l49_69,cops,csW,reduceCtorEq,Nat.reduceEqDiff]
     refine keep [2] ?_
     simp only [Ends,resD,resL,resV,csW,reduceCtorEq,Nat.reduceEqDiff]
end Go.Proofs.YtkidkimjdiichaaGreat.M
