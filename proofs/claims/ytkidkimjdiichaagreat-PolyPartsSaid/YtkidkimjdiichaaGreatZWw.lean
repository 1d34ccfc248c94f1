/- The reference's word, digitsOf, zread, ZParse. -/
import Derived.Test.YtkidkimjdiichaaGreatK3w
import Derived.Test.YtkidkimjdiichaaGreatParseBw
namespace Go.Proofs.YtkidkimjdiichaaGreat.Z4
open Go.RowKit
theorem head48 {t:List UInt8} {f:Nat} (h:((t.drop f).head? == some 48)=true):f<t.length∧byt t f=48:=by
 rw[beq_iff_eq,List.head?_drop] at h
 obtain⟨h1,h2⟩:=List.getElem?_eq_some_iff.1 h
 exact⟨h1,by rw[byt_lt h1,h2];rfl⟩
theorem nhead48 {t:List UInt8} {f:Nat} (h:((t.drop f).head? == some 48)=false) (hl:f<t.length):byt t f≠48:=by
 intro e
 rw[beq_eq_false_iff_ne,List.head?_drop,List.getElem?_eq_getElem hl] at h
 rw[byt_lt hl] at e
 exact h (congrArg some (UInt8.toNat_inj.1 e))
theorem isNeg_byt {t:List UInt8} (h:isNeg t=true):0<t.length∧((byt t 0:Int) == 45)=true:=by
 have h0:=isNeg_pos h
 refine⟨h0,?_⟩
 match t,h with
 | c::r,h =>
  have:c=45:=by simpa[isNeg] using h
  subst this
  rfl
theorem nNeg_byt {t:List UInt8} (h:isNeg t=false) (hl:0<t.length):((byt t 0:Int) == 45)=false:=by
 match t,hl with
 | c::r,_ =>
  rw[beq_eq_false_iff_ne,byt_cons_zero]
  intro e
  have:c=45:=UInt8.toNat_inj.1 (by show c.toNat=45;omega)
  subst this
  cases h
set_option maxHeartbeats 400000 in
theorem word_neg (t:List UInt8) (w:World) (hs:t.length≤9223372036854775807) (hn:isNeg t=true) :
  Calls Tryz.prog 125 #[.string (bs t),.bool true,.bool true] w (fun e w'=>e = .returned (.tuple #[.int .i64 (numLen true t).1,.bool (numLen true t).2])∧Ext w w'):=by
 have hf:(if true&&isNeg t then 1 else 0)=1:=by simp[hn]
 obtain⟨hl,hb⟩:=isNeg_byt hn
 clear hn
 by_cases h48:((t.drop 1).head? == some 48)=true
 ·have H:=hd_ (numLen_zero hf h48)
  obtain⟨hl48,hb48⟩:=head48 h48
  have hb48':((byt t 1:Int) == 48)=true:=by rw[beq_iff_eq];omega
  replace hf:=hd_ hf
  clear h48 hb48
  go_enter Tryz.func125,Tryz.ntmps125
  go_wp2
  go_ret2
  exact⟨by rw[H.out];rfl,Ext.rf _⟩
 ·have h48:((t.drop 1).head? == some 48)=false:=by simpa using h48
  have H:Hd (∀ k:Nat,(1:Nat)+digRun (t.drop 1)=k→numLen true t=(k,decide (1<k))):=hd_ (fun k hk=>numLen_run hf h48 hk)
  have hnb:∀ h:1<t.length,((byt t 1:Int) == 48)=false:=fun h=>by rw[beq_eq_false_iff_ne];have:=nhead48 h48 h;omega
  replace hf:=hd_ hf
  clear h48
  by_cases hl48:1<t.length
  ·have hnb:=hnb hl48
   go_enter Tryz.func125,Tryz.ntmps125
   go_wp2
   go_loop [9] (fun i => ∃ k:Nat,i = .int .i64 k∧1≤k∧k≤t.length∧∀ j,1≤j→j<k→48≤byt t j∧byt t j≤57) (fun n=>t.length-(intOf n).toNat)
   case atStart=>exact⟨1,rfl,Nat.le_refl _,by omega,fun j h1 h2=>by omega⟩
   case round =>
    obtain⟨k,rfl,hk1,hk2,hall⟩:=hrel
    replace hall:=hd_ hall
    by_cases hlt:k<t.length
    ·by_cases hd:48≤byt t k∧byt t k≤57
     ·obtain⟨hd1,hd2⟩:=hd
      go_wp2
      go_round
      case rel=>exact⟨k+1,by go_num,by omega,by omega,fun j h1 h2=>if e:j=k then by subst e;exact⟨hd1,hd2⟩ else hall.out j h1 (by omega)⟩
      case measure=>first | (simp[intOf];done) | (simp[intOf];omega)
     ·have HK:=hd_ (H.out k (digRun_drop hk1 hk2 hall.out (.inr hd)))
      by_cases hd1:48≤byt t k
      ·have hd2:¬ byt t k≤57:=fun h=>hd ⟨hd1,h⟩
       clear hd
       go_wp2
       go_ret2
       exact⟨ret2_ib (by rw[HK.out]) (by rw[HK.out];try exact decide_eq_decide.2 (by omega)),Ext.rf _⟩
      ·clear hd
       go_wp2
       go_ret2
       exact⟨ret2_ib (by rw[HK.out]) (by rw[HK.out];try exact decide_eq_decide.2 (by omega)),Ext.rf _⟩
    ·have HK:=hd_ (H.out k (digRun_drop hk1 hk2 hall.out (.inl (by omega))))
     go_wp2
     go_ret2
     exact⟨ret2_ib (by rw[HK.out]) (by rw[HK.out];try exact decide_eq_decide.2 (by omega)),Ext.rf _⟩
  ·clear hnb
   first
   | (exfalso;omega)
   | (
     go_enter Tryz.func125,Tryz.ntmps125
     go_wp2
     go_loop [9] (fun i=>i = .int .i64 t.length∧1=t.length) (fun _=>0)
     case atStart=>exact⟨by congr 1;omega,by omega⟩
     case round =>
      obtain⟨rfl,hk⟩:=hrel
      have HK:=hd_ (H.out t.length (digRun_drop (by omega) (Nat.le_refl _) (fun j h1 h2=>by omega) (.inl rfl)))
      replace hk:=hd_ hk
      go_wp2
      go_ret2
      exact⟨ret2_ib (by rw[HK.out]) (by rw[HK.out];try first | exact decide_eq_decide.2 (by omega) | exact (decide_eq_false (by omega)).symm),Ext.rf _⟩)
set_option maxHeartbeats 400000 in
theorem word_pos (t:List UInt8) (w:World) (hs:t.length≤9223372036854775807) (hn:isNeg t=false) (hl:0<t.length) :
  Calls Tryz.prog 125 #[.string (bs t),.bool true,.bool true] w (fun e w'=>e = .returned (.tuple #[.int .i64 (numLen true t).1,.bool (numLen true t).2])∧Ext w w'):=by
 have hf:(if true&&isNeg t then 1 else 0)=0:=by simp[hn]
 have hb:=nNeg_byt hn hl
 clear hn
 by_cases h48:((t.drop 0).head? == some 48)=true
 ·have H:=hd_ (numLen_zero hf h48)
  obtain⟨hl48,hb48⟩:=head48 h48
  have hb48':((byt t 0:Int) == 48)=true:=by rw[beq_iff_eq];omega
  replace hf:=hd_ hf
  clear h48 hb48
  go_enter Tryz.func125,Tryz.ntmps125
  go_wp2
  go_ret2
  exact⟨by rw[H.out];rfl,Ext.rf _⟩
 ·have h48:((t.drop 0).head? == some 48)=false:=by simpa using h48
  have H:Hd (∀ k:Nat,(0:Nat)+digRun (t.drop 0)=k→numLen true t=(k,decide (0<k))):=hd_ (fun k hk=>numLen_run hf h48 hk)
  have hnb:∀ h:0<t.length,((byt t 0:Int) == 48)=false:=fun h=>by rw[beq_eq_false_iff_ne];have:=nhead48 h48 h;omega
  replace hf:=hd_ hf
  clear h48
  by_cases hl48:0<t.length
  ·have hnb:=hnb hl48
   go_enter Tryz.func125,Tryz.ntmps125
   go_wp2
   go_loop [9] (fun i => ∃ k:Nat,i = .int .i64 k∧0≤k∧k≤t.length∧∀ j,0≤j→j<k→48≤byt t j∧byt t j≤57) (fun n=>t.length-(intOf n).toNat)
   case atStart=>exact⟨0,rfl,Nat.le_refl _,by omega,fun j h1 h2=>by omega⟩
   case round =>
    obtain⟨k,rfl,hk1,hk2,hall⟩:=hrel
    replace hall:=hd_ hall
    by_cases hlt:k<t.length
    ·by_cases hd:48≤byt t k∧byt t k≤57
     ·obtain⟨hd1,hd2⟩:=hd
      go_wp2
      go_round
      case rel=>exact⟨k+1,by go_num,by omega,by omega,fun j h1 h2=>if e:j=k then by subst e;exact⟨hd1,hd2⟩ else hall.out j h1 (by omega)⟩
      case measure=>first | (simp[intOf];done) | (simp[intOf];omega)
     ·have HK:=hd_ (H.out k (digRun_drop hk1 hk2 hall.out (.inr hd)))
      by_cases hd1:48≤byt t k
      ·have hd2:¬ byt t k≤57:=fun h=>hd ⟨hd1,h⟩
       clear hd
       go_wp2
       go_ret2
       exact⟨ret2_ib (by rw[HK.out]) (by rw[HK.out];try exact decide_eq_decide.2 (by omega)),Ext.rf _⟩
      ·clear hd
       go_wp2
       go_ret2
       exact⟨ret2_ib (by rw[HK.out]) (by rw[HK.out];try exact decide_eq_decide.2 (by omega)),Ext.rf _⟩
    ·have HK:=hd_ (H.out k (digRun_drop hk1 hk2 hall.out (.inl (by omega))))
     go_wp2
     go_ret2
     exact⟨ret2_ib (by rw[HK.out]) (by rw[HK.out];try exact decide_eq_decide.2 (by omega)),Ext.rf _⟩
  ·clear hnb
   first
   | (exfalso;omega)
   | (
     go_enter Tryz.func125,Tryz.ntmps125
     go_wp2
     go_loop [9] (fun i=>i = .int .i64 t.length∧0=t.length) (fun _=>0)
     case atStart=>exact⟨by congr 1;omega,by omega⟩
     case round =>
      obtain⟨rfl,hk⟩:=hrel
      have HK:=hd_ (H.out t.length (digRun_drop (by omega) (Nat.le_refl _) (fun j h1 h2=>by omega) (.inl rfl)))
      replace hk:=hd_ hk
      go_wp2
      go_ret2
      exact⟨ret2_ib (by rw[HK.out]) (by rw[HK.out];try first | exact decide_eq_decide.2 (by omega) | exact (decide_eq_false (by omega)).symm),Ext.rf _⟩)
set_option maxHeartbeats 400000 in
theorem word_uns (t:List UInt8) (w:World) (hs:t.length≤9223372036854775807)  :
  Calls Tryz.prog 125 #[.string (bs t),.bool false,.bool false] w (fun e w'=>e = .returned (.tuple #[.int .i64 (numLen false t).1,.bool (numLen false t).2])∧Ext w w'):=by
 have hf:(if false&&isNeg t then 1 else 0)=0:=by simp[isNeg]
 skip
 by_cases h48:((t.drop 0).head? == some 48)=true
 ·have H:=hd_ (numLen_zero hf h48)
  obtain⟨hl48,hb48⟩:=head48 h48
  have hb48':((byt t 0:Int) == 48)=true:=by rw[beq_iff_eq];omega
  replace hf:=hd_ hf
  clear h48 hb48
  go_enter Tryz.func125,Tryz.ntmps125
  go_wp2
  go_ret2
  exact⟨by rw[H.out];rfl,Ext.rf _⟩
 ·have h48:((t.drop 0).head? == some 48)=false:=by simpa using h48
  have H:Hd (∀ k:Nat,(0:Nat)+digRun (t.drop 0)=k→numLen false t=(k,decide (0<k))):=hd_ (fun k hk=>numLen_run hf h48 hk)
  have hnb:∀ h:0<t.length,((byt t 0:Int) == 48)=false:=fun h=>by rw[beq_eq_false_iff_ne];have:=nhead48 h48 h;omega
  replace hf:=hd_ hf
  clear h48
  by_cases hl48:0<t.length
  ·have hnb:=hnb hl48
   go_enter Tryz.func125,Tryz.ntmps125
   go_wp2
   go_loop [9] (fun i => ∃ k:Nat,i = .int .i64 k∧0≤k∧k≤t.length∧∀ j,0≤j→j<k→48≤byt t j∧byt t j≤57) (fun n=>t.length-(intOf n).toNat)
   case atStart=>exact⟨0,rfl,Nat.le_refl _,by omega,fun j h1 h2=>by omega⟩
   case round =>
    obtain⟨k,rfl,hk1,hk2,hall⟩:=hrel
    replace hall:=hd_ hall
    by_cases hlt:k<t.length
    ·by_cases hd:48≤byt t k∧byt t k≤57
     ·obtain⟨hd1,hd2⟩:=hd
      go_wp2
      go_round
      case rel=>exact⟨k+1,by go_num,by omega,by omega,fun j h1 h2=>if e:j=k then by subst e;exact⟨hd1,hd2⟩ else hall.out j h1 (by omega)⟩
      case measure=>first | (simp[intOf];done) | (simp[intOf];omega)
     ·have HK:=hd_ (H.out k (digRun_drop hk1 hk2 hall.out (.inr hd)))
      by_cases hd1:48≤byt t k
      ·have hd2:¬ byt t k≤57:=fun h=>hd ⟨hd1,h⟩
       clear hd
       go_wp2
       go_ret2
       exact⟨ret2_ib (by rw[HK.out]) (by rw[HK.out];try exact decide_eq_decide.2 (by omega)),Ext.rf _⟩
      ·clear hd
       go_wp2
       go_ret2
       exact⟨ret2_ib (by rw[HK.out]) (by rw[HK.out];try exact decide_eq_decide.2 (by omega)),Ext.rf _⟩
    ·have HK:=hd_ (H.out k (digRun_drop hk1 hk2 hall.out (.inl (by omega))))
     go_wp2
     go_ret2
     exact⟨ret2_ib (by rw[HK.out]) (by rw[HK.out];try exact decide_eq_decide.2 (by omega)),Ext.rf _⟩
  ·clear hnb
   first
   | (exfalso;omega)
   | (
     go_enter Tryz.func125,Tryz.ntmps125
     go_wp2
     go_loop [9] (fun i=>i = .int .i64 t.length∧0=t.length) (fun _=>0)
     case atStart=>exact⟨by congr 1;omega,by omega⟩
     case round =>
      obtain⟨rfl,hk⟩:=hrel
      have HK:=hd_ (H.out t.length (digRun_drop (by omega) (Nat.le_refl _) (fun j h1 h2=>by omega) (.inl rfl)))
      replace hk:=hd_ hk
      go_wp2
      go_ret2
      exact⟨ret2_ib (by rw[HK.out]) (by rw[HK.out];try first | exact decide_eq_decide.2 (by omega) | exact (decide_eq_false (by omega)).symm),Ext.rf _⟩)
set_option maxHeartbeats 400000 in
theorem word_nil (w:World) :
  Calls Tryz.prog 125 #[.string (bs []),.bool true,.bool true] w (fun e w'=>e = .returned (.tuple #[.int .i64 (numLen true []).1,.bool (numLen true []).2])∧Ext w w'):=by
 go_enter Tryz.func125,Tryz.ntmps125
 go_wp2
 go_loop [9] (fun i=>i = .int .i64 0) (fun _=>0)
 case atStart=>rfl
 case round =>
  subst hrel
  go_wp2
  go_ret2
  exact⟨rfl,Ext.rf _⟩
theorem word_any (t:List UInt8) (sg:Bool) (w:World) (hs:t.length≤9223372036854775807) :
  Calls Tryz.prog 125 #[.string (bs t),.bool sg,.bool sg] w (fun e w'=>e = .returned (.tuple #[.int .i64 (numLen sg t).1,.bool (numLen sg t).2])∧Ext w w'):=by
 cases sg
 ·exact word_uns t w hs
 ·cases hn:isNeg t
  ·rcases Nat.eq_zero_or_pos t.length with h | h
   ·rw[List.eq_nil_of_length_eq_zero h];exact word_nil w
   ·exact word_pos t w hs hn h
  ·exact word_neg t w hs hn
set_option maxHeartbeats 400000 in
theorem digitsOf_any (t:List UInt8) (w:World) (hs:t.length≤9223372036854775807) :
  Calls Tryz.prog 126 #[.string (bs t)] w (fun e w'=>e = .returned (.int .i64 (body t).length)∧Ext w w'):=by
 have hb:=body_length t
 cases hn:isNeg t
 ·rw[hn] at hb
  have H:Hd ((body t).length=t.length):=hd_ (by simpa using hb)
  clear hb
  by_cases hl:0<t.length
  ·have hb:=nNeg_byt hn hl
   clear hn
   go_enter Tryz.func126,Tryz.ntmps126
   go_wp2
   go_ret
   exact⟨ret_i (by rw[H.out]),Ext.rf _⟩
  ·clear hn
   go_enter Tryz.func126,Tryz.ntmps126
   go_wp2
   go_ret
   exact⟨ret_i (by rw[H.out]),Ext.rf _⟩
 ·obtain⟨hl,hb2⟩:=isNeg_byt hn
  have H:Hd (((body t).length:Int)=t.length-1):=hd_ (by rw[hb,hn];simp;omega)
  clear hb hn
  go_enter Tryz.func126,Tryz.ntmps126
  go_wp2
  go_ret
  exact⟨ret_i (by rw[H.out]),Ext.rf _⟩
end Go.Proofs.YtkidkimjdiichaaGreat.Z4
