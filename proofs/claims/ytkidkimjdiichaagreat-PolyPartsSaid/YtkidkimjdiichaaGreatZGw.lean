/- The reference's ZOf, ZSmall. -/
import Derived.Test.YtkidkimjdiichaaGreatK5w
import Derived.Test.YtkidkimjdiichaaGreatZMw
import Derived.Test.YtkidkimjdiichaaGreatZTw
import Derived.Test.YtkidkimjdiichaaGreatK4w
namespace Go.Proofs.YtkidkimjdiichaaGreat.Z4
open Go.RowKit
theorem p4_le {j:Nat} (h:j≤5):(1:Int)≤10000^j∧(10000:Int)^j≤100000000000000000000:=by
 match j,h with
 | 0,_=>decide
 | 1,_=>decide
 | 2,_=>decide
 | 3,_=>decide
 | 4,_=>decide
 | 5,_=>decide
theorem p4_five {v:Int} (h:0≤v∧v≤9223372036854775808):0≤v∧v<10000^(5-0):=by
 have:(10000:Int)^(5-0)=100000000000000000000:=by decide
 omega
theorem of_step {v:Int} {k:Nat} (h:0≤v∧v<10000^(5-k)) (h0:0<v):k<5∧0≤v / 10000∧v / 10000<10000^(5-(k+1)):=by
 rcases Nat.lt_or_ge k 5 with hk | hk
 ·refine⟨hk,by omega,?_⟩
  have e:5-k=5-(k+1)+1:=by omega
  rw[e,Int.pow_succ] at h
  generalize (10000:Int)^(5-(k+1))=p at *
  omega
 ·rw[show 5-k=0 by omega] at h
  simp at h
  omega
theorem of_abs {n:Int} (h:-9223372036854775808≤n∧n<0):IntKind.u64.wrap (-IntKind.u64.wrap n) = -n:=by
 rw[IntKind.wrap_u64,IntKind.wrap_u64];omega
set_option maxRecDepth 100000 in
set_option maxHeartbeats 1000000 in
theorem of_any (n:Int) (w:World) (h:-9223372036854775808≤n∧n≤9223372036854775807) :
  Calls Tryz.prog 124 #[.int .i64 n] w (RetZ w n):=by
 have hsm:=hd_ ((bt_i64 h).sm (by omega))
 by_cases hn:n<0
 ·have hv:=hd_ (of_abs ⟨h.1,hn⟩)
  have HV:=hd_ (show sg true (-n)=n by simp[sg])
  have HB:=hd_ (show 0≤-n∧-n<10000^(5-0) from p4_five (by omega))
  go_enter Tryz.func124,Tryz.ntmps124
  go_wp2
  rw[hv.out]
  go_loopw [3,4] (fun uv ov wr => ∃ (v:Int) (so:SV) (o:List Int),uv = .int .u64 v∧ov = .slice so.a so.len so.cap∧Rw wr (w.heap.size+1) .i64 so o∧Dig o∧(0≤v∧v<10000^(5-o.length))∧valL o+v*10000^o.length=(-n)∧o.length≤5 ∧
    Ext (w.alloc (Obj.cells #[Value.bool false,Value.slice none 0 0] 58)) wr) (fun uv _ _=>(intOf uv).toNat)
  case atStart=>exact⟨_,⟨none,0,0⟩,[],rfl,rfl,Rw.nil_ _ _ _,(fun x hx=>by cases hx),HB.out,by simp[valL],by simp,Ext.rf _⟩
  case round =>
   obtain⟨v,so,o,rfl,rfl,hown,hdo,hv1,hval,ho5,hx⟩:=hrel
   have hsl:=hown.len
   obtain⟨oa,on,oc⟩:=so
   simp only at hsl
   subst hsl
   have hp:=(p4_le (j:=5-o.length) (by omega)).2
   have HV1:=hd_ hv1
   have hvb:0≤v∧v≤100000000000000000000:=by omega
   clear hp hv1
   replace hval:=hd_ hval
   have hvt:v<18446744073709551616:=by
    have h1:=hval.out
    have h2:=valL_nonneg hdo
    have h3:=(p4_le (j:=o.length) ho5).1
    have h4:=Int.mul_le_mul_of_nonneg_left h3 hvb.1
    omega
   by_cases hz:0<v
   ·have hs:=hd_ (of_step HV1.out hz)
    have hs5:o.length<5:=hs.out.1
    go_wp2_with ((refine wpL_app1 _ rfl _ _ 56 rfl .i64 8 Tryz.underlying56 infoI64 (w.alloc (Obj.cells #[Value.bool false,Value.slice none 0 0] 58)) ⟨oa,o.length,oc⟩ o _ rfl rfl (by simpa using hown) hx (by omega) (by omega) ?_);intro s5 w5 hrw5 hx5 hk5;rw[World.size_alloc] at hrw5)
    go_roundw
    case rel =>
     refine⟨v / 10000,s5,o++[v % 10000],rfl,rfl,hrw5,hdo.snoc (by omega),by rw[List.length_append];exact hs.out.2,?_,by simp;omega,hx5⟩
     have h1:=hval.out
     rw[valL_snoc,List.length_append,List.length_singleton,Int.pow_succ,←h1]
     generalize (10000:Int)^o.length=p
     have h2:v=10000*(v / 10000)+v % 10000:=by omega
     generalize v / 10000=a at *
     generalize v % 10000=b at *
     subst h2
     grind
    case measure=>first | (simp[intOf];done) | (simp[intOf];omega)
   ·obtain rfl:v=0:=by omega
    have HO:=hd_ (show valL o=(-n) by have:=hval.out;omega)
    go_wp2_with fail
    refine (made_any _ ⟨oa,o.length,oc⟩ o _ (hown.isL hdo.fit) hdo (by rw[HO.out,HV.out];exact hsm.out)).mono ?_
    rintro e w2 ⟨y,rfl,hy,hx2⟩
    rw[HO.out,HV.out] at hy
    have k0:w2.cell? ⟨w.heap.size,0,none⟩=some (Value.bool false):=cell_later hx2 (cell_later hx (by simp))
    have k1:w2.cell? ⟨w.heap.size,1,none⟩=some (Value.slice none 0 0):=cell_later hx2 (cell_later hx (by simp))
    have hsz:=hx.size
    have hsz2:=hx2.size
    simp only[World.size_alloc] at hsz
    have f0:∀ i,w2.frozen? ⟨w.heap.size,i,none⟩=false:=fun i=>(hx2.frozen (p:=⟨w.heap.size,i,none⟩) (by show w.heap.size<_;omega)).trans ((hx.frozen (p:=⟨w.heap.size,i,none⟩) (by simp)).trans (by simp))
    go_wp2
    refine bodyPost_ret (v:=.agg #[.bool y.n,.slice y.s.a y.s.len y.s.cap]) (by simp[results,Tryz.results124,go_sem,k0,k1]) rfl ⟨y,rfl,?_,?_⟩
    ·exact hy.kept ((Kept.rf _ _).st2 (T':=58) (((Ty.new' rfl).keep hx).keep hx2) (by decide) _ _)
    ·exact ((((Ext.rf w).al _).tr hx).tr hx2).st2 (Nat.le_refl _) _ _
 ·have HV:=hd_ (show sg (decide (n<0)) n=n by simp[sg,hn])
  have HB:=hd_ (show 0≤n∧n<10000^(5-0) from p4_five (by omega))
  go_enter Tryz.func124,Tryz.ntmps124
  go_wp2
  go_loopw [3,4] (fun uv ov wr => ∃ (v:Int) (so:SV) (o:List Int),uv = .int .u64 v∧ov = .slice so.a so.len so.cap∧Rw wr (w.heap.size+1) .i64 so o∧Dig o∧(0≤v∧v<10000^(5-o.length))∧valL o+v*10000^o.length=n∧o.length≤5 ∧
    Ext (w.alloc (Obj.cells #[Value.bool false,Value.slice none 0 0] 58)) wr) (fun uv _ _=>(intOf uv).toNat)
  case atStart=>exact⟨_,⟨none,0,0⟩,[],rfl,rfl,Rw.nil_ _ _ _,(fun x hx=>by cases hx),HB.out,by simp[valL],by simp,Ext.rf _⟩
  case round =>
   obtain⟨v,so,o,rfl,rfl,hown,hdo,hv1,hval,ho5,hx⟩:=hrel
   have hsl:=hown.len
   obtain⟨oa,on,oc⟩:=so
   simp only at hsl
   subst hsl
   have hp:=(p4_le (j:=5-o.length) (by omega)).2
   have HV1:=hd_ hv1
   have hvb:0≤v∧v≤100000000000000000000:=by omega
   clear hp hv1
   replace hval:=hd_ hval
   have hvt:v<18446744073709551616:=by
    have h1:=hval.out
    have h2:=valL_nonneg hdo
    have h3:=(p4_le (j:=o.length) ho5).1
    have h4:=Int.mul_le_mul_of_nonneg_left h3 hvb.1
    omega
   by_cases hz:0<v
   ·have hs:=hd_ (of_step HV1.out hz)
    have hs5:o.length<5:=hs.out.1
    go_wp2_with ((refine wpL_app1 _ rfl _ _ 56 rfl .i64 8 Tryz.underlying56 infoI64 (w.alloc (Obj.cells #[Value.bool false,Value.slice none 0 0] 58)) ⟨oa,o.length,oc⟩ o _ rfl rfl (by simpa using hown) hx (by omega) (by omega) ?_);intro s5 w5 hrw5 hx5 hk5;rw[World.size_alloc] at hrw5)
    go_roundw
    case rel =>
     refine⟨v / 10000,s5,o++[v % 10000],rfl,rfl,hrw5,hdo.snoc (by omega),by rw[List.length_append];exact hs.out.2,?_,by simp;omega,hx5⟩
     have h1:=hval.out
     rw[valL_snoc,List.length_append,List.length_singleton,Int.pow_succ,←h1]
     generalize (10000:Int)^o.length=p
     have h2:v=10000*(v / 10000)+v % 10000:=by omega
     generalize v / 10000=a at *
     generalize v % 10000=b at *
     subst h2
     grind
    case measure=>first | (simp[intOf];done) | (simp[intOf];omega)
   ·obtain rfl:v=0:=by omega
    have HO:=hd_ (show valL o=n by have:=hval.out;omega)
    go_wp2_with fail
    refine (made_any _ ⟨oa,o.length,oc⟩ o _ (hown.isL hdo.fit) hdo (by rw[HO.out,HV.out];exact hsm.out)).mono ?_
    rintro e w2 ⟨y,rfl,hy,hx2⟩
    rw[HO.out,HV.out] at hy
    have k0:w2.cell? ⟨w.heap.size,0,none⟩=some (Value.bool false):=cell_later hx2 (cell_later hx (by simp))
    have k1:w2.cell? ⟨w.heap.size,1,none⟩=some (Value.slice none 0 0):=cell_later hx2 (cell_later hx (by simp))
    have hsz:=hx.size
    have hsz2:=hx2.size
    simp only[World.size_alloc] at hsz
    have f0:∀ i,w2.frozen? ⟨w.heap.size,i,none⟩=false:=fun i=>(hx2.frozen (p:=⟨w.heap.size,i,none⟩) (by show w.heap.size<_;omega)).trans ((hx.frozen (p:=⟨w.heap.size,i,none⟩) (by simp)).trans (by simp))
    go_wp2
    refine bodyPost_ret (v:=.agg #[.bool y.n,.slice y.s.a y.s.len y.s.cap]) (by simp[results,Tryz.results124,go_sem,k0,k1]) rfl ⟨y,rfl,?_,?_⟩
    ·exact hy.kept ((Kept.rf _ _).st2 (T':=58) (((Ty.new' rfl).keep hx).keep hx2) (by decide) _ _)
    ·exact ((((Ext.rf w).al _).tr hx).tr hx2).st2 (Nat.le_refl _) _ _
end Go.Proofs.YtkidkimjdiichaaGreat.Z4
