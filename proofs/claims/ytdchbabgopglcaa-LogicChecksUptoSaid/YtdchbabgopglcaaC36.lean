/- Lemmas. -/
import Derived.Test.YtdchbabgopglcaaC28
import Derived.Test.YtdchbabgopglcaaC35
import Derived.Test.YtdchbabgopglcaaC21
import Derived.Test.YtdchbabgopglcaaC18
set_option linter.unusedSimpArgs false
set_option linter.unusedVariables false
namespace Go.Proofs.Ytdchbabgopglcaa.M
open Go.RowKit
theorem FY (t:List UInt8) (w:World) (hok:bT t=true) (hl:(body t).length≤1000) :
  Calls Try.prog 39 #[.string (bs t)] w (Z4.RetZ w (parseZ t)):=by
 have e:parseZ t=dz t:=by unfold parseZ;rw[if_pos hok,if_pos hl]
 have h1:=cp t;rw[e] at h1 ⊢;exact Z4.zread_any t w (by have:=fL t;split at this<;>omega) (jq hok).1.digs (h1.sm (by omega))
theorem pn (t:List UInt8) (sg:Bool) (hs:t.length≤9223372036854775807):Con Try.prog AN 37 [.str t,.bool sg,.bool sg] (.tup [.int .i64 (ar sg t).1,.bool (ar sg t).2]):=FC fun base w v1 v2 v3 hav h1 h2 h3=>by
 cases fP h1;cases fQ h2;cases fQ h3;exact (Z4.word_any t sg w hs).mono fun e w' h=>⟨_,h.1,fun _ _=>iu (.int _ _) (.bool _),h.2⟩
theorem iy (t:List UInt8) (hs:t.length≤9223372036854775807):Con Try.prog AN 38 [.str t] (.int .i64 (body t).length):=eV fun base w v1 hav h1=>by
 cases fP h1;exact (Z4.digitsOf_any t w hs).mono fun e w' h=>⟨_,h.1,fun _ _ => .int _ _,h.2⟩
theorem jE (t:List UInt8) (hok:bT t=true) (hl:(body t).length≤1000):Con Try.prog AN 39 [.str t] (aF (parseZ t)):=eV fun base w v1 hav h1=>by
 cases fP h1;exact (FY t w hok hl).mono fun e w' ⟨x,h1,h2,h3⟩=>⟨_,h1,fun _ hav=>FG h2 hav,h3⟩
theorem lD (n:Int) (hn:0≤n∧n≤9223372036854775807):Con Try.prog AN 36 [.int .i64 n] (aF n):=by
 obtain⟨m,rfl⟩:=Int.eq_ofNat_of_zero_le hn.1;exact (jm m (by omega)).mono (by simp)
theorem FZ (a b:Int) (n:Nat) (ba:Bt a n) (bb:Bt b n) (hn:n≤4147200000000) (hb0:b≠0):Con Try.prog AN 55 [aF a,aF b] (.tup [cB (frN a b) (frD a b),flt 0 0]):=(M4 a b n ba bb (by omega) hb0).mono (by simp)
set_option maxHeartbeats 2000000 in
theorem EU (a b:Int) (n:Nat) (ba:Bt a n) (bb:Bt b n) (hn:n≤4147200000000) (hb0:b≠0):Con Try.prog AN 40 [aF a,aF b] (cB (frN a b) (frD a b)):=by
 refine PH.con rfl (by simp) ?_;(repeat first|with_reducible refine kp [2,3,4] ?_|simp only[kV,simprocAttr,csM,aw]|refine aN ?_);refine⟨_,cx (FZ a b n ba bb hn hb0),ulc ?_⟩;(repeat first|with_reducible refine kp [4,5] ?_|simp only[kV,simprocAttr,csM,ac,af,ae,ah]|refine aN ?_)
end Go.Proofs.Ytdchbabgopglcaa.M
