/- right, takeAway, giveBack. -/
import Derived.Test.YtdjbfgfbpimakaaK4
namespace Go.Proofs.Ytdjbfgfbpimakaa
open Go.RowKit
def RetRight (w:World) (n:Nat) (p z:Int) (e:Ending) (w':World):Prop:=
 ∃ (s:SV) (l:List Int) (b:Bool),e = .returned (.tuple #[.slice s.a s.len s.cap,.bool b])∧IsL w' s .u32 l∧l.length=n∧p*valL l=z∧Ext w w'
theorem right_dig {r:Nat} {x:Int} (hr:r<32) (hx:0≤x∧x≤4294967295):0≤x / 2^r∧x / 2^r≤4294967295:=by
 have h2:=pow2_le hr
 refine⟨Int.ediv_nonneg hx.1 (by omega),?_⟩
 have:=Int.ediv_le_self (2^r) hx.1
 omega
theorem right_cells {r:Nat} {x y:Int} (hr:r<32) (hr0:0<r) (hx:0≤x∧x≤4294967295) (_hy:0≤y∧y≤4294967295) :
  bits BinOp.or IntKind.u32 (x / 2^r) (y*2^(32-r) % 4294967296)=x / 2^r+(y % 2^r)*2^(32-r)∧0≤x / 2^r+(y % 2^r)*2^(32-r)∧x / 2^r+(y % 2^r)*2^(32-r)≤4294967295:=by
 have h2:=pow2_le hr
 have h3:=pow2_le (r:=32-r) (by omega)
 have e:y*2^(32-r) % 4294967296=(y % 2^r)*2^(32-r):=by
  rw[h2.2.2,Int.mul_comm y,Int.mul_comm (2^r) (2^(32-r)),Int.mul_emod_mul_of_pos _ _ (by omega),Int.mul_comm]
 have hl:0≤y*2^(32-r) % 4294967296∧y*2^(32-r) % 4294967296≤4294967295:=by omega
 rw[e] at hl ⊢
 have hc:0≤x / 2^r∧x / 2^r<2^(32-r):=⟨(right_dig hr hx).1,Int.ediv_lt_of_lt_mul (by omega) (by rw[Int.mul_comm,←h2.2.2];omega)⟩
 have hj:=or_join32 (r:=32-r) (by omega) hc hl (Int.mul_emod_left _ _)
 exact⟨hj.1,by omega,hj.2.2⟩
theorem right_step0 {V A c a p bk:Int} (h:p*V=A-c+(a % p)*bk):p*(V+a / p*bk)=A+a*bk-c:=by
 have h1:=Int.mul_ediv_add_emod a p
 generalize a / p=q at *
 generalize a % p=s at *
 subst h1
 rw[Int.mul_add,h]
 grind
theorem right_step {V A c a s2 p p' bk:Int} (h:p*V=A-c+(a % p)*bk) (hp:p*p'=4294967296):p*(V+(a / p+s2*p')*bk)=A+a*bk-c+s2*(bk*4294967296):=by
 have h1:=Int.mul_ediv_add_emod a p
 generalize a / p=q at *
 generalize a % p=s at *
 subst h1
 rw[Int.mul_add,h,←hp]
 grind
set_option maxRecDepth 100000 in
set_option maxHeartbeats 1000000 in
theorem right_pos (s:SV) (a:List Int) (r:Nat) (w:World) (ha:IsL w s .u32 a) (hla:a.length≤13000000000000) (h0:0<a.length) (hr:r<32) (hr0:0<r) :
  Calls Try.prog 110 #[.slice s.a s.len s.cap,.int .i64 r] w (RetRight w a.length (2^r) (valL a-at_ a 0 % 2^r)):=by
 have da:Dig a:=ha.2
 obtain⟨ao,ca,rfl,hca,hcam,hopa⟩:=ha.open_
 obtain⟨ba,oa,rfl,hba,ga⟩:=hopa h0
 have g0:=ga 0 h0
 simp only[Nat.add_zero] at g0
 have hbl:=hba.lt
 have hne:¬ a=[]:=by rintro rfl;simp at h0
 have e1:(r:Int) / 32=0:=by omega
 have e2:(r:Int) % 32=r:=by omega
 go_enter Try.func110,Try.ntmps110
 go_wp2
 all_goals
  go_loop [6,39] (fun b i=>(∃ B:Bool,b = .bool B)∧i = .int .i64 0) (fun _ _=>0)
  case atStart=>exact⟨⟨_,rfl⟩,rfl⟩
  case round =>
   obtain⟨⟨B,rfl⟩,rfl⟩:=hrel
   go_wp2_with (at_make;refine wpL_make _ rfl _ _ 35 rfl 116 .u32 4 Try.underlying35 infoU32 _ _ _ _ a.length rfl rfl (by omega) (by omega) (by omega) (by omega) ?_;intro w1 hown1 hx1 hlt1)
   go_loopw [57] (fun i wr => ∃ (k:Nat) (o:List Int),i = .int .i64 k∧k≤a.length∧Own wr w.heap.size 116 .u32 o∧o.length=a.length∧Dig o ∧
     2^r*valL (o.take k)=valL (a.take k)-at_ a 0 % 2^r+(at_ a k % 2^r)*4294967296^k∧Ext w wr) (fun i _=>a.length-(intOf i).toNat)
   case atStart=>exact⟨0,_,rfl,Nat.zero_le _,hown1,by simp,dig_zeros _,by rw[List.take_zero,List.take_zero,Int.pow_zero,Int.mul_one];generalize at_ a 0 % 2^r=c;simp only[valL,Int.mul_zero];omega,hx1⟩
   case round =>
    obtain⟨k,o,rfl,hk,hown,hol,hdo,hval,hx⟩:=hrel
    clear hown1
    replace hval:=hd_ hval
    replace hol:=hd_ hol
    by_cases hlt:k<a.length
    ·have gc:=(hx.cell (p:=⟨ba,oa+k,none⟩) hbl).trans (ga k hlt)
     have fa:=da.at_ k
     have go:=hown.cell (i:=k) (by have:=hol.out;omega)
     have gf:=hown.frozen k
     by_cases hlt2:k+1<a.length
     ·have gc2:=(hx.cell (p:=⟨ba,oa+(k+1),none⟩) hbl).trans (ga (k+1) hlt2)
      have fa2:=da.at_ (k+1)
      obtain⟨c1,c2,c3⟩:=right_cells hr hr0 fa fa2
      go_wp2
      have hos:=hown.set k (at_ a k / 2^r)
      have gos:=hos.cell (i:=k) (by rw[List.length_set];have:=hol.out;omega)
      rw[at_set_eq (by have:=hol.out;omega)] at gos
      have gfs:=hos.frozen k
      have gcs:(wr.setCell ⟨w.heap.size,k,none⟩ (.int .u32 (at_ a k / 2^r))).cell? ⟨ba,oa+(k+1),none⟩=some (.int .u32 (at_ a (k+1))):=by
       rw[World.cell?_setCell_other _ _ _ _ (by simp)];exact gc2
      go_region
      go_wp2
      go_roundw
      case rel =>
       refine⟨k+1,(o.set k _).set k _,rfl,by omega,(hos.set k _).dr,by rw[List.length_set,List.length_set];exact hol.out,(hdo.set k (right_dig hr fa)).set k ⟨c2,c3⟩,?_,((hx.st (Nat.le_refl _) _).st (Nat.le_refl _) _).dr⟩
       rw[List.set_set,valL_set (by have:=hol.out;omega),valL_take_succ,Int.pow_succ]
       exact right_step hval.out (pow2_le hr).2.2.symm
      case measure=>first | (simp[intOf];done) | (simp[intOf];omega)
     ·go_wp2
      go_roundw
      case rel =>
       have hz:at_ a (k+1)=0:=at_ge (by omega)
       refine⟨k+1,o.set k _,rfl,by omega,hown.set k _,by rw[List.length_set];exact hol.out,hdo.set k (right_dig hr fa),?_,hx.st (Nat.le_refl _) _⟩
       rw[valL_set (by have:=hol.out;omega),valL_take_succ,hz,Int.zero_emod,Int.zero_mul,Int.add_zero]
       exact right_step0 hval.out
      case measure=>first | (simp[intOf];done) | (simp[intOf];omega)
    ·obtain rfl:k=a.length:=by omega
     go_wp2
     go_ret2
     have h1:=hval.out
     rw[at_ge (l:=a) (i:=a.length) (by omega),List.take_of_length_le (by have:=hol.out;omega),List.take_of_length_le (Nat.le_refl _)] at h1
     refine⟨⟨some ⟨w.heap.size,0,none⟩,a.length,a.length⟩,o,_,rfl,?_,hol.out,by simpa using h1,hx⟩
     have:=hown.isL (by have:=hol.out;omega) hdo
     rw[hol.out] at this
     exact this
set_option maxRecDepth 100000 in
set_option maxHeartbeats 1000000 in
theorem right_zero (s:SV) (a:List Int) (w:World) (ha:IsL w s .u32 a) (hla:a.length≤13000000000000) (h0:0<a.length) :
  Calls Try.prog 110 #[.slice s.a s.len s.cap,.int .i64 0] w (RetRight w a.length 1 (valL a)):=by
 have da:Dig a:=ha.2
 obtain⟨ao,ca,rfl,hca,hcam,hopa⟩:=ha.open_
 obtain⟨ba,oa,rfl,hba,ga⟩:=hopa h0
 have g0:=ga 0 h0
 simp only[Nat.add_zero] at g0
 have hbl:=hba.lt
 have hne:¬ a=[]:=by rintro rfl;simp at h0
 go_enter Try.func110,Try.ntmps110
 go_wp2
 all_goals
  go_loop [6,39] (fun b i=>(∃ B:Bool,b = .bool B)∧i = .int .i64 0) (fun _ _=>0)
  case atStart=>exact⟨⟨_,rfl⟩,rfl⟩
  case round =>
   obtain⟨⟨B,rfl⟩,rfl⟩:=hrel
   go_wp2_with (at_make;refine wpL_make _ rfl _ _ 35 rfl 116 .u32 4 Try.underlying35 infoU32 _ _ _ _ a.length rfl rfl (by omega) (by omega) (by omega) (by omega) ?_;intro w1 hown1 hx1 hlt1)
   go_loopw [57] (fun i wr => ∃ (k:Nat) (o:List Int),i = .int .i64 k∧k≤a.length∧Own wr w.heap.size 116 .u32 o∧o.length=a.length∧Dig o ∧
     valL (o.take k)=valL (a.take k)∧Ext w wr) (fun i _=>a.length-(intOf i).toNat)
   case atStart=>exact⟨0,_,rfl,Nat.zero_le _,hown1,by simp,dig_zeros _,by simp,hx1⟩
   case round =>
    obtain⟨k,o,rfl,hk,hown,hol,hdo,hval,hx⟩:=hrel
    clear hown1
    replace hval:=hd_ hval
    replace hol:=hd_ hol
    by_cases hlt:k<a.length
    ·have gc:=(hx.cell (p:=⟨ba,oa+k,none⟩) hbl).trans (ga k hlt)
     have fa:=da.at_ k
     have go:=hown.cell (i:=k) (by have:=hol.out;omega)
     have gf:=hown.frozen k
     by_cases hlt2:k+1<a.length
     all_goals
      go_wp2
      go_roundw
      case rel =>
       refine⟨k+1,o.set k _,rfl,by omega,hown.set k _,by rw[List.length_set];exact hol.out,hdo.set k fa,?_,hx.st (Nat.le_refl _) _⟩
       rw[valL_set (by have:=hol.out;omega),valL_take_succ,hval.out]
      case measure=>first | (simp[intOf];done) | (simp[intOf];omega)
    ·obtain rfl:k=a.length:=by omega
     go_wp2
     go_ret2
     have h1:=hval.out
     rw[List.take_of_length_le (by have:=hol.out;omega),List.take_of_length_le (Nat.le_refl _)] at h1
     refine⟨⟨some ⟨w.heap.size,0,none⟩,a.length,a.length⟩,o,_,rfl,?_,hol.out,by rw[Int.one_mul];exact h1,hx⟩
     have:=hown.isL (by have:=hol.out;omega) hdo
     rw[hol.out] at this
     exact this
theorem right_any (s:SV) (a:List Int) (r:Nat) (w:World) (ha:IsL w s .u32 a) (hla:a.length≤13000000000000) (h0:0<a.length) (hr:r<32) :
  Calls Try.prog 110 #[.slice s.a s.len s.cap,.int .i64 r] w (RetRight w a.length (2^r) (valL a-at_ a 0 % 2^r)):=by
 rcases Nat.eq_zero_or_pos r with h | h
 ·subst h
  have:=right_zero s a w ha hla h0
  rw[Int.pow_zero,Int.emod_one,Int.sub_zero]
  exact this
 ·exact right_pos s a r w ha hla h0 hr h
end Go.Proofs.Ytdjbfgfbpimakaa
