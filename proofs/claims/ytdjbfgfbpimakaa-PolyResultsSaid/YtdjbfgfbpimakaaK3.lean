/- Sign, Neg, Of, Cmp, Add, Sub, Mul. The reference's numbers: zmade. -/
import Derived.Test.YtdjbfgfbpimakaaNumCx
import Derived.Test.YtdjbfgfbpimakaaK1
section
namespace Go.Proofs.Ytdjbfgfbpimakaa
open Go.RowKit
set_option maxHeartbeats 400000 in
theorem sign_any (x:IV) (z:Int) (w:World) (h:IsI w x z) :
  Calls Try.prog 43 #[.agg #[.bool x.n,.slice x.s.a x.s.len x.s.cap]] w (fun e w'=>e = .returned (.int .i64 (sgnZ z))∧Ext w w'):=by
 obtain⟨l,hl,hn,hd,hle,hz,h0,hs⟩:=h.open_
 have hneg:=neg_iff hd hn h0
 obtain⟨n,s⟩:=x
 obtain⟨ao,cap,rfl,hcap,hcm,hop⟩:=hl.open_
 simp only at hz h0 hneg
 rw[←hz] at hneg
 have hz0:z=0↔l=[]:=by
  rw[hz,←valL_eq_zero hd hn]
  unfold sg;split<;>omega
 by_cases hl0:l=[]
 ·subst hl0
  have H:=hd_ (hz0.2 rfl)
  clear hz0 hz h0 hneg
  go_enter Try.func43,Try.ntmps43
  go_wp2
  go_ret
  exact⟨by rw[H.out];rfl,(Ext.rf _).al _⟩
 ·have hlen:0<l.length:=by
   rcases Nat.eq_zero_or_pos l.length with h | h
   ·exact absurd (List.eq_nil_of_length_eq_zero h) hl0
   ·exact h
  cases n
  ·have H:Hd (sgnZ z=1):=hd_ (by
    have:¬ z<0:=by simpa using hneg
    have:¬ z=0:=fun e=>hl0 (hz0.1 e)
    unfold sgnZ;rw[if_neg (by omega),if_neg (by omega)])
   clear hz0 hz h0 hneg hl0
   go_enter Try.func43,Try.ntmps43
   go_wp2
   go_ret
   exact⟨by rw[H.out];rfl,(Ext.rf _).al _⟩
  ·have H:Hd (sgnZ z = -1):=hd_ (by
    have:z<0:=by simpa using hneg
    unfold sgnZ;rw[if_pos (by omega)])
   clear hz0 hz h0 hneg hl0
   go_enter Try.func43,Try.ntmps43
   go_wp2
   go_ret
   exact⟨by rw[H.out];rfl,(Ext.rf _).al _⟩
theorem sg_not {n:Bool} {z:Int}:sg (!n) z = - sg n z:=by cases n<;>simp[sg]
set_option maxHeartbeats 400000 in
theorem neg_any (x:IV) (z:Int) (w:World) (h:IsI w x z) :
  Calls Try.prog 80 #[.agg #[.bool x.n,.slice x.s.a x.s.len x.s.cap]] w (RetI w (-z)):=by
 obtain⟨l,hl,hn,hd,hle,hz,h0,hs⟩:=h.open_
 replace hz:=hd_ hz
 replace h0:=hd_ h0
 go_enter Try.func80,Try.ntmps80
 go_wp2_with fail
 refine (made_any _ x.s l _ (hl.keep (((Ext.rf _).al _).al _)) (by rw[sg_not,←hz.out];exact hs.neg)).mono ?_
 rintro e w1 ⟨y,rfl,hy,hx⟩
 have hz1:=hx.size
 obtain⟨hc1,hf1⟩:=bcell hx
 go_wp2
 refine bodyPost_ret (v:=.agg #[.bool y.n,.slice y.s.a y.s.len y.s.cap]) (by simp[results,Try.results80,go_sem,hc1]) rfl ⟨y,rfl,?_,?_⟩
 ·rw[hz.out,←sg_not]
  exact hy.kept ((Kept.rf _ _).st2 ((Ty.new' (by simp)).keep hx) (by decide) _ _)
 ·exact (((Ext.rf w).al _).al _ |>.tr hx).st2 (by simp) _ _
theorem valL_two (x y:Int):valL [x,y]=x+4294967296*y:=by simp[valL]
theorem bt_i64 {n:Int} (h:-9223372036854775808≤n∧n≤9223372036854775807):Bt n 64:=by
 unfold Bt
 have:(2:Nat)^64=18446744073709551616:=by decide
 omega
theorem of_neg {n:Int} (h:-9223372036854775808≤n∧n<0):sg true (valL [IntKind.u64.wrap (-IntKind.u64.wrap n) % 4294967296,IntKind.u64.wrap (-IntKind.u64.wrap n) / 4294967296 % 4294967296])=n:=by
 have e:IntKind.u64.wrap (-IntKind.u64.wrap n) = -n:=by
  rw[IntKind.wrap_u64,IntKind.wrap_u64];omega
 rw[e,valL_two]
 simp only[sg,if_true]
 omega
theorem of_pos {n:Int}:sg false (valL [n % 4294967296,n / 4294967296])=n:=by
 rw[valL_two]
 simp only[sg,Bool.false_eq_true,if_false]
 omega
set_option maxHeartbeats 400000 in
theorem of_any (n:Int) (w:World) (h:-9223372036854775808≤n∧n≤9223372036854775807) :
  Calls Try.prog 38 #[.int .i64 n] w (RetI w n):=by
 have hb:=(bt_i64 h).sm (by omega)
 by_cases hn:n<0
 ·have hv:=hd_ (of_neg ⟨h.1,hn⟩)
  go_enter Try.func38,Try.ntmps38
  go_wp2_with fail
  refine (made_any _ ⟨some ⟨w.heap.size+1,0,none⟩,2,2⟩ [IntKind.u64.wrap (-IntKind.u64.wrap n) % 4294967296,IntKind.u64.wrap (-IntKind.u64.wrap n) / 4294967296 % 4294967296] _ ?_ (by rw[hv.out];exact hb)).mono ?_
  ·refine isL_new (by simp) rfl rfl (by simp) ?_
   intro x hx
   simp only[List.mem_cons,List.not_mem_nil,or_false] at hx
   rcases hx with rfl | rfl<;>(show 0≤_∧_≤_)<;>omega
  rintro e w1 ⟨y,rfl,hy,hx⟩
  obtain⟨hc1,hf1⟩:=bcell hx
  have hz1:=hx.size
  have k0:w1.cell? ⟨w.heap.size,0,none⟩=some (Value.bool false):=cell_later hx (by simp[go_sem])
  have k1:w1.cell? ⟨w.heap.size,1,none⟩=some (Value.slice none 0 0):=cell_later hx (by simp[go_sem])
  go_wp2
  refine bodyPost_ret (v:=.agg #[.bool y.n,.slice y.s.a y.s.len y.s.cap]) (by simp[results,Try.results38,go_sem,k0,k1]) rfl ⟨y,rfl,?_,?_⟩
  ·rw[hv.out] at hy
   exact hy.kept ((Kept.rf _ _).st2 (T':=37) ((Ty.keep (by first | exact Ty.new' (by simp) | exact (Ty.new' (by simp)).al _) hx)) (by decide) _ _)
  ·exact (((Ext.rf w).al _).al _ |>.tr hx).st2 (by simp) _ _
 ·have hv:=hd_ (of_pos (n:=n))
  go_enter Try.func38,Try.ntmps38
  go_wp2_with fail
  refine (made_any _ ⟨some ⟨w.heap.size+1,0,none⟩,2,2⟩ [n % 4294967296,n / 4294967296] _ ?_ (by rw[hv.out];exact hb)).mono ?_
  ·refine isL_new (by simp) rfl rfl (by simp) ?_
   intro x hx
   simp only[List.mem_cons,List.not_mem_nil,or_false] at hx
   rcases hx with rfl | rfl<;>(show 0≤_∧_≤_)<;>omega
  rintro e w1 ⟨y,rfl,hy,hx⟩
  obtain⟨hc1,hf1⟩:=bcell hx
  have hz1:=hx.size
  have k0:w1.cell? ⟨w.heap.size,0,none⟩=some (Value.bool false):=cell_later hx (by simp[go_sem])
  have k1:w1.cell? ⟨w.heap.size,1,none⟩=some (Value.slice none 0 0):=cell_later hx (by simp[go_sem])
  go_wp2
  refine bodyPost_ret (v:=.agg #[.bool y.n,.slice y.s.a y.s.len y.s.cap]) (by simp[results,Try.results38,go_sem,k0,k1]) rfl ⟨y,rfl,?_,?_⟩
  ·rw[hv.out] at hy
   exact hy.kept ((Kept.rf _ _).st2 (T':=37) ((Ty.keep (by first | exact Ty.new' (by simp) | exact (Ty.new' (by simp)).al _) hx)) (by decide) _ _)
  ·exact (((Ext.rf w).al _).al _ |>.tr hx).st2 (by simp) _ _
end Go.Proofs.Ytdjbfgfbpimakaa
end

section
namespace Go.Proofs.Ytdjbfgfbpimakaa.Z4
open Go.RowKit
def IsZ (w:World) (x:IV) (z:Int):Prop:=
 ∃ l,IsL w x.s .i64 l∧Dig l∧Norm l∧z=sg x.n (valL l)∧(l=[]→x.n=false)∧Sm z
theorem IsZ.keep {w w':World} {x:IV} {z:Int} (h:IsZ w x z) (e:Ext w w'):IsZ w' x z:=by
 obtain⟨l,h1,h2⟩:=h
 exact⟨l,h1.keep e,h2⟩
theorem IsZ.kept {w w':World} {x:IV} {z:Int} (h:IsZ w x z) (e:Kept 3 w w'):IsZ w' x z:=by
 obtain⟨l,h1,h2⟩:=h
 exact⟨l,h1.kept e,h2⟩
theorem isZ_zero (w:World):IsZ w ⟨false,⟨none,0,0⟩⟩ 0:=⟨[],isL_nil w _,(fun x hx=>by cases hx),.inl rfl,by simp[sg,valL],fun _=>rfl,sm_zero⟩
def RetZ (w:World) (z:Int) (e:Ending) (w':World):Prop:=
 ∃ x:IV,e = .returned (.agg #[.bool x.n,.slice x.s.a x.s.len x.s.cap])∧IsZ w' x z∧Ext w w'
def Av (W:World) (A:List SV) (s:SV):Prop:=∀ b off sp,s.a=some ⟨b,off,sp⟩→W.heap.size≤b∨∃ t∈A,∃ off' sp',t.a=some ⟨b,off',sp'⟩
theorem Av.same {W:World} {A:List SV} {s t:SV} (ht:t∈A) (h:s.a=t.a):Av W A s:=fun _ _ _ e => .inr ⟨t,ht,_,_,h.symm.trans e⟩
theorem Av.nil {W:World} {A:List SV} {s:SV} (h:s.a=none):Av W A s:=fun _ _ _ e=>by rw[h] at e;cases e
theorem Av.mono {W W':World} {A:List SV} {s:SV} (h:Av W' A s) (hs:W.heap.size≤W'.heap.size):Av W A s:=fun b off sp e=>(h b off sp e).imp (fun h=>Nat.le_trans hs h) id
theorem Av.trans {W:World} {A A':List SV} {s:SV} (h:Av W A' s) (hA:∀ t∈A',Av W A t):Av W A s:=fun b off sp e=>by
 rcases h b off sp e with h | ⟨t,ht,off',sp',e'⟩
 ·exact .inl h
 ·exact hA t ht b off' sp' e'
theorem Av.row {W w:World} {A:List SV} {s:SV} {base:Nat} {k:IntKind} {l:List Int} (h:Rw w base k s l) (hb:W.heap.size≤base):Av W A s:=fun b off sp e=>by
 rcases h.2 with⟨hv,hn⟩ | ⟨g,cap,cur,hv,hg,_⟩
 ·injection hv with h1 _ _;rw[h1] at e;cases e
 ·injection hv with h1 _ _;rw[h1] at e;injection e with e;injection e with e1 _ _;left;omega
theorem Av.own {W:World} {A:List SV} {s:SV} {b:Nat} {off:Nat} {sp} (h:s.a=some ⟨b,off,sp⟩) (hb:W.heap.size≤b):Av W A s:=fun b' off' sp' e=>by
 rw[h] at e;injection e with e;injection e with e1 _ _;left;omega
def RetZA (w:World) (A:List SV) (z:Int) (e:Ending) (w':World):Prop:=
 ∃ x:IV,e = .returned (.agg #[.bool x.n,.slice x.s.a x.s.len x.s.cap])∧IsZ w' x z∧Ext w w'∧Av w A x.s
theorem RetZA.ret {w:World} {A:List SV} {z:Int} {e:Ending} {w':World} (h:RetZA w A z e w'):RetZ w z e w':=by
 obtain⟨x,h1,h2,h3,_⟩:=h
 exact⟨x,h1,h2,h3⟩
theorem IsZ.open_ {w:World} {x:IV} {z:Int} (h:IsZ w x z):∃ l,IsL w x.s .i64 l∧Norm l∧Dig l∧l.length≤10825960652800∧z=sg x.n (valL l)∧(l=[]→x.n=false)∧Sm z:=by
 obtain⟨l,h1,hd,h2,h3,h4,h5⟩:=h
 refine⟨l,h1,h2,hd,?_,h3,h4,h5⟩
 have hb:Bt (valL l) maxBits:=by
  rw[h3] at h5
  exact h5.bt.le (by rw[natAbs_sg];exact Nat.le_refl _)
 have:=len_of_bt hd h2 hb
 rw[maxBits_eq] at this
 omega
theorem isZ_made {w:World} {neg:Bool} {ao:Option Addr} {cap k:Nat} {l:List Int} (h:IsL w ⟨ao,l.length,cap⟩ .i64 l) (hd:Dig l) (hk:k+1≤l.length)
  (hz:∀ j,k+1≤j→at_ l j=0) (hne:at_ l k≠0) (hcm:cap≤9223372036854775807) (hs:Sm (sg neg (valL l))):IsZ w ⟨neg,⟨ao,k+1,cap⟩⟩ (sg neg (valL l)):=by
 have hcap:l.length≤cap:=h.1.2.1
 refine⟨l.take (k+1),h.take hk (by omega) (by omega),fun x hx=>hd x (List.mem_of_mem_take hx),.inr ?_,by rw[valL_take hz],fun e => ?_,hs⟩
 ·have:(l.take (k+1)).length-1=k:=by simp;omega
  rw[this]
  simpa[at_] using hne
 ·have:=congrArg List.length e
  rw[List.length_take,List.length_nil] at this
  omega
set_option maxHeartbeats 400000 in
theorem made_av (neg:Bool) (s:SV) (l:List Int) (w:World) (h:IsL w s .i64 l) (hd:Dig l) (hs:Sm (sg neg (valL l))) :
  Calls Try.prog 87 #[.bool neg,.slice s.a s.len s.cap] w (RetZA w [s] (sg neg (valL l))):=by
 obtain⟨ao,cap,rfl,hcap,hcm,hop⟩:=h.open_
 replace hs:=hd_ hs
 go_enter Try.func87,Try.ntmps87
 go_wp2
 go_loop [5] (fun n => ∃ k:Nat,k≤l.length∧n = .int .i64 k∧(∀ j,k≤j→at_ l j=0)) (fun n=>(intOf n).toNat)
 case atStart=>exact⟨l.length,Nat.le_refl _,rfl,fun j hj=>at_ge hj⟩
 case round =>
  obtain⟨k,hk,rfl,hz⟩:=hrel
  match k,hk,hz with
  | 0,hk,hz =>
   have H0:=hd_ (valL_zero (fun j=>hz j (by omega)))
   clear hz
   go_wp2
   refine bodyPost_ret (v:=.agg #[.bool false,.slice none 0 0]) (by simp[results,Try.results87,go_sem]) rfl ⟨⟨false,⟨none,0,0⟩⟩,rfl,?_,(Ext.rf _).al _,Av.nil rfl⟩
   rw[H0.out]
   cases neg<;>exact isZ_zero _
  | k+1,hk,hz =>
   have Hz:=hd_ hz;clear hz
   obtain⟨b,off,rfl,hb,hc⟩:=hop (by omega)
   have hbl:=hb.lt
   have hc:=hc k (by omega)
   have hf:=hd.at_ k
   by_cases h0:at_ l k=0
   ·have h0':(at_ l k == 0)=true:=by simp[h0]
    have H0:=hd_ h0;clear h0
    go_wp2
    go_round
    case rel=>exact⟨k,by omega,by go_num,fun j hj=>if e:j=k then by rw[e];exact H0.out else Hz.out j (by omega)⟩
    case measure=>first | (simp[intOf];done) | (simp[intOf];omega)
   ·have h0':(at_ l k == 0)=false:=by simp[h0]
    go_wp2
    refine bodyPost_ret (v:=.agg #[.bool neg,.slice (some ⟨b,off,none⟩) (k+1) cap]) (by simp[results,Try.results87,go_sem]) rfl ⟨⟨neg,⟨some ⟨b,off,none⟩,k+1,cap⟩⟩,rfl,?_,?_,Av.same (.head _) rfl⟩
    ·exact (isZ_made h hd hk Hz.out h0 hcm hs.out).keep (((Ext.rf _).al _))
    ·exact (Ext.rf _).al _
theorem made_any (neg:Bool) (s:SV) (l:List Int) (w:World) (h:IsL w s .i64 l) (hd:Dig l) (hs:Sm (sg neg (valL l))) :
  Calls Try.prog 87 #[.bool neg,.slice s.a s.len s.cap] w (RetZ w (sg neg (valL l))):=(made_av neg s l w h hd hs).mono fun _ _ h=>h.ret
set_option maxHeartbeats 400000 in
theorem sign_any (x:IV) (z:Int) (w:World) (h:IsZ w x z) :
  Calls Try.prog 78 #[.agg #[.bool x.n,.slice x.s.a x.s.len x.s.cap]] w (fun e w'=>e = .returned (.int .i64 (sgnZ z))∧Ext w w'):=by
 obtain⟨l,hl,hn,hd,hle,hz,h0,hs⟩:=h.open_
 have hneg:=neg_iff hd hn h0
 obtain⟨n,s⟩:=x
 obtain⟨ao,cap,rfl,hcap,hcm,hop⟩:=hl.open_
 simp only at hz h0 hneg
 rw[←hz] at hneg
 have hz0:z=0↔l=[]:=by
  rw[hz,←valL_eq_zero hd hn]
  unfold sg;split<;>omega
 by_cases hl0:l=[]
 ·subst hl0
  have H:=hd_ (hz0.2 rfl)
  have hn0:=h0 rfl
  subst hn0
  clear hz0 hz h0 hneg
  go_enter Try.func78,Try.ntmps78
  go_wp2
  go_ret
  exact⟨by rw[H.out];rfl,(Ext.rf _).al _⟩
 ·have hlen:0<l.length:=by
   rcases Nat.eq_zero_or_pos l.length with h | h
   ·exact absurd (List.eq_nil_of_length_eq_zero h) hl0
   ·exact h
  cases n
  ·have H:Hd (sgnZ z=1):=hd_ (by
    have:¬ z<0:=by simpa using hneg
    have:¬ z=0:=fun e=>hl0 (hz0.1 e)
    unfold sgnZ;rw[if_neg (by omega),if_neg (by omega)])
   clear hz0 hz h0 hneg hl0
   go_enter Try.func78,Try.ntmps78
   go_wp2
   go_ret
   exact⟨by rw[H.out];rfl,(Ext.rf _).al _⟩
  ·have H:Hd (sgnZ z = -1):=hd_ (by
    have:z<0:=by simpa using hneg
    unfold sgnZ;rw[if_pos (by omega)])
   clear hz0 hz h0 hneg hl0
   go_enter Try.func78,Try.ntmps78
   go_wp2
   go_ret
   exact⟨by rw[H.out];rfl,(Ext.rf _).al _⟩
set_option maxHeartbeats 400000 in
theorem neg_av (x:IV) (z:Int) (w:World) (h:IsZ w x z) :
  Calls Try.prog 55 #[.agg #[.bool x.n,.slice x.s.a x.s.len x.s.cap]] w (RetZA w [x.s] (-z)):=by
 obtain⟨l,hl,hn,hd,hle,hz,h0,hs⟩:=h.open_
 replace hz:=hd_ hz
 replace h0:=hd_ h0
 go_enter Try.func55,Try.ntmps55
 go_wp2_with fail
 refine (made_av _ x.s l _ (hl.keep (((Ext.rf _).al _).al _)) hd (by rw[sg_not,←hz.out];exact hs.neg)).mono ?_
 rintro e w1 ⟨y,rfl,hy,hx,hav⟩
 have hz1:=hx.size
 obtain⟨hc1,hf1⟩:=bcell hx
 go_wp2
 refine bodyPost_ret (v:=.agg #[.bool y.n,.slice y.s.a y.s.len y.s.cap]) (by simp[results,Try.results55,go_sem,hc1]) rfl ⟨y,rfl,?_,?_,hav.mono (by simp;omega)⟩
 ·rw[hz.out,←sg_not]
  exact hy.kept ((Kept.rf _ _).st2 ((Ty.new' (by simp)).keep hx) (by decide) _ _)
 ·exact (((Ext.rf w).al _).al _ |>.tr hx).st2 (by simp) _ _
theorem neg_any (x:IV) (z:Int) (w:World) (h:IsZ w x z) :
  Calls Try.prog 55 #[.agg #[.bool x.n,.slice x.s.a x.s.len x.s.cap]] w (RetZ w (-z)):=(neg_av x z w h).mono fun _ _ h=>h.ret
end Go.Proofs.Ytdjbfgfbpimakaa.Z4
end
