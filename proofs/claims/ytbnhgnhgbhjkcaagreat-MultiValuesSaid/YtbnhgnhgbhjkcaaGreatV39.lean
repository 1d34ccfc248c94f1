/- Lemmas. -/
import Derived.Test.YtbnhgnhgbhjkcaaGreatV32
import Derived.Test.YtbnhgnhgbhjkcaaGreatV38
import Derived.Test.YtbnhgnhgbhjkcaaGreatV24
import Derived.Test.YtbnhgnhgbhjkcaaGreatV22
import Derived.Test.YtbnhgnhgbhjkcaaGreatV1
set_option linter.defProp false
set_option linter.unusedSimpArgs false
set_option linter.unusedVariables false
namespace Go.Proofs.YtbnhgnhgbhjkcaaGreat.M
open Go.RowKit
theorem zi8 (t:List UInt8) (w:World) (hok:ck t=true) (hl:(body t).length≤1000) :
  Calls Tryz.prog 65 #[.string (bs t)] w (Z4.RetZ w (parseZ t)):=by
 have e:parseZ t=dZ t:=by unfold parseZ;rw[if_pos hok,if_pos hl]
 have h1:=cE t;rw[e] at h1 ⊢;exact Z4.zread_any t w (by have:=gW t;split at this<;>omega) (l7 hok).1.digs (h1.sm (by omega))
theorem vX (t:List UInt8) (sg:Bool) (hs:t.length≤9223372036854775807):Con Tryz.prog AN 63 [.str t,.bool sg,.bool sg] (.tup [.int .i64 (av sg t).1,.bool (av sg t).2]):=zbx fun base w v1 v2 v3 hav h1 h2 h3=>by
 cases fS h1;cases gO h2;cases gO h3;exact (Z4.word_any t sg w hs).mono fun e w' h=>⟨_,h.1,fun _ _=>jy (.int _ _) (.bool _),h.2⟩
theorem jM (t:List UInt8) (hs:t.length≤9223372036854775807):Con Tryz.prog AN 64 [.str t] (.int .i64 (body t).length):=ez fun base w v1 hav h1=>by
 cases fS h1;exact (Z4.digitsOf_any t w hs).mono fun e w' h=>⟨_,h.1,fun _ _ => .int _ _,h.2⟩
theorem me (t:List UInt8) (hok:ck t=true) (hl:(body t).length≤1000):Con Tryz.prog AN 65 [.str t] (aG (parseZ t)):=ez fun base w v1 hav h1=>by
 cases fS h1;exact (zi8 t w hok hl).mono fun e w' ⟨x,h1,h2,h3⟩=>⟨_,h1,fun _ hav=>zbA h2 hav,h3⟩
theorem jN (n:Int) (hn:0≤n∧n≤9223372036854775807):Con Tryz.prog AN 62 [.int .i64 n] (aG n):=by
 obtain⟨m,rfl⟩:=Int.eq_ofNat_of_zero_le hn.1;exact (l6 m (by omega)).mono (by simp)
theorem jO (a b:Int) (n:Nat) (ba:Bt a n) (bb:Bt b n) (hn:n≤4147200000000):Con Tryz.prog AN 69 [aG a,aG b] (aG (a*b)):=by
 have:=bO ba;have:=bO bb;exact (mD a b (by omega)).mono (by simp)
theorem zi9 (a b:Int) (n:Nat) (ba:Bt a n) (bb:Bt b n) (hn:n≤4147200000000) (hb0:b≠0):Con Tryz.prog AN 97 [aG a,aG b] (.tup [bR (frN a b) (frD a b),flt 0 0]):=(x9 a b n ba bb (by omega) hb0).mono (by simp)
theorem zja (a b:Int) (n:Nat) (ba:Bt a n) (bb:Bt b n) (hn:n≤4147200000000):Con Tryz.prog AN 98 [aG a,aG b] (aG (a+b)):=by
 have:=bO ba;have:=bO bb;exact (o7 a b (by omega) (by omega)).mono (by simp)
theorem zjb (a:Int) (n:Nat) (ba:Bt a n) (hn:n≤4147200000000):Con Tryz.prog AN 77 [aG a] (.int .i64 (bJ a)):=(sD a).mono (by simp)
set_option maxHeartbeats 2000000
theorem X8 (a b c d:Int) (n:Nat) (ba:Bt a n) (bb:Bt b n) (bc:Bt c n) (bd:Bt d n) (hn:n≤2048000000000) (hb:0<b) (hd:0<d):Con Tryz.prog AN 112 [bQ a b,bQ c d] (bQ (frN (a*d+c*b) (b*d)) (frD (a*d+c*b) (b*d))):=by
 have h1:Bt (a*d) (n+n):=ba.mul bd;have h2:Bt (c*b) (n+n):=bc.mul bb;have h3:Bt (a*d+c*b) (n+n+1):=h1.add h2;have h4:Bt (b*d) (n+n+1):=(bb.mul bd).mono (by omega);have h5:b*d≠0:=Int.ne_of_gt (Int.mul_pos hb hd);refine Ke.con rfl (by simp) ?_;(repeat first|with_reducible refine kp [2,3,4] ?_|simp only[kV,simprocAttr,csM,aq,ar,ax]|refine aN ?_);refine⟨_,cx (gC c d n bc bd hn),ulc ?_⟩;(repeat first|simp only[kV,simprocAttr,csM,aq,ar]|refine aN ?_);refine⟨_,cx (ja a d n ba bd (by omega)),ulc ?_⟩;(repeat first|simp only[kV,simprocAttr,csM,aq,ar]|refine aN ?_);refine⟨_,cx (gC a b n ba bb hn),ulc ?_⟩;(repeat first|simp only[kV,simprocAttr,csM,aq,ar]|refine aN ?_);refine⟨_,cx (ja c b n bc bb (by omega)),ulc ?_⟩;(repeat first|simp only[kV,simprocAttr,csM,aq,ar]|refine aN ?_);refine⟨_,cx (mR _ _ (n+n) h1 h2 (by omega)),ulc ?_⟩;(repeat first|simp only[kV,simprocAttr,csM,aq,ar]|refine aN ?_);refine⟨_,cx (gC a b n ba bb hn),ulc ?_⟩;(repeat first|simp only[kV,simprocAttr,csM,aq,ar]|refine aN ?_);refine⟨_,cx (gC c d n bc bd hn),ulc ?_⟩;(repeat first|simp only[kV,simprocAttr,csM,aq,ar]|refine aN ?_);refine⟨_,cx (ja b d n bb bd (by omega)),ulc ?_⟩;(repeat first|simp only[kV,simprocAttr,csM,aq,ar]|refine aN ?_);refine⟨_,cx (mF _ _ (n+n+1) h3 h4 (by omega) h5),ulc ?_⟩;(repeat first|with_reducible refine kp [4] ?_|simp only[kV,simprocAttr,csM,aq,ar,ac,ah,ae,af]|refine aN ?_)
theorem nF (a b:Int) (n:Nat) (ba:Bt a n) (bb:Bt b n) (hn:n≤4147200000000) (hb0:b≠0):Con Tryz.prog AN 66 [aG a,aG b] (bR (frN a b) (frD a b)):=by
 refine KN.con rfl (by simp) ?_;(repeat first|with_reducible refine kp [2,3,4] ?_|simp only[kV,simprocAttr,csM,aq,ar,ax]|refine aN ?_);refine⟨_,cx (zi9 a b n ba bb hn hb0),ulc ?_⟩;(repeat first|with_reducible refine kp [4,5] ?_|simp only[kV,simprocAttr,csM,aq,ar,ac,ah,ae,af]|refine aN ?_)
theorem X9 (a b c d:Int) (n:Nat) (ba:Bt a n) (bb:Bt b n) (bc:Bt c n) (bd:Bt d n) (hn:n≤2048000000000) (hb:0<b) (hd:0<d):Con Tryz.prog AN 68 [bR a b,bR c d] (bR (frN (a*d+c*b) (b*d)) (frD (a*d+c*b) (b*d))):=by
 have h1:Bt (a*d) (n+n):=ba.mul bd;have h2:Bt (c*b) (n+n):=bc.mul bb;have h3:Bt (a*d+c*b) (n+n+1):=h1.add h2;have h4:Bt (b*d) (n+n+1):=(bb.mul bd).mono (by omega);have h5:b*d≠0:=Int.ne_of_gt (Int.mul_pos hb hd);refine Ky.con rfl (by simp) ?_;(repeat first|with_reducible refine kp [2,3,4] ?_|simp only[kV,simprocAttr,csM,aq,ar,ax]|refine aN ?_);refine⟨_,cx (jO a d n ba bd (by omega)),ulc ?_⟩;(repeat first|simp only[kV,simprocAttr,csM,aq,ar]|refine aN ?_);refine⟨_,cx (jO c b n bc bb (by omega)),ulc ?_⟩;(repeat first|simp only[kV,simprocAttr,csM,aq,ar]|refine aN ?_);refine⟨_,cx (zja _ _ (n+n) h1 h2 (by omega)),ulc ?_⟩;(repeat first|simp only[kV,simprocAttr,csM,aq,ar]|refine aN ?_);refine⟨_,cx (jO b d n bb bd (by omega)),ulc ?_⟩;(repeat first|simp only[kV,simprocAttr,csM,aq,ar]|refine aN ?_);refine⟨_,cx (nF _ _ (n+n+1) h3 h4 (by omega) h5),ulc ?_⟩;(repeat first|with_reducible refine kp [4] ?_|simp only[kV,simprocAttr,csM,aq,ar,ac,ah,ae,af]|refine aN ?_)
theorem Ya (a b c d:Int) (n:Nat) (ba:Bt a n) (bb:Bt b n) (bc:Bt c n) (bd:Bt d n) (hn:n≤2048000000000) (hb:0<b) (hd:0<d):Con Tryz.prog AN 86 [bQ a b,bQ c d] (bQ (frN (a*c) (b*d)) (frD (a*c) (b*d))):=by
 have h3:Bt (a*c) (n+n):=ba.mul bc;have h4:Bt (b*d) (n+n):=bb.mul bd;have h5:b*d≠0:=Int.ne_of_gt (Int.mul_pos hb hd);refine Km.con rfl (by simp) ?_;(repeat first|with_reducible refine kp [2,3,4] ?_|simp only[kV,simprocAttr,csM,aq,ar,ax]|refine aN ?_);refine⟨_,cx (ja a c n ba bc (by omega)),ulc ?_⟩;(repeat first|simp only[kV,simprocAttr,csM,aq,ar]|refine aN ?_);refine⟨_,cx (gC a b n ba bb hn),ulc ?_⟩;(repeat first|simp only[kV,simprocAttr,csM,aq,ar]|refine aN ?_);refine⟨_,cx (gC c d n bc bd hn),ulc ?_⟩;(repeat first|simp only[kV,simprocAttr,csM,aq,ar]|refine aN ?_);refine⟨_,cx (ja b d n bb bd (by omega)),ulc ?_⟩;(repeat first|simp only[kV,simprocAttr,csM,aq,ar]|refine aN ?_);refine⟨_,cx (mF _ _ (n+n) h3 h4 (by omega) h5),ulc ?_⟩;(repeat first|with_reducible refine kp [4] ?_|simp only[kV,simprocAttr,csM,aq,ar,ac,ah,ae,af]|refine aN ?_)
theorem Yb (a b c d:Int) (n:Nat) (ba:Bt a n) (bb:Bt b n) (bc:Bt c n) (bd:Bt d n) (hn:n≤2048000000000) (hb:0<b) (hd:0<d):Con Tryz.prog AN 32 [bR a b,bR c d] (bR (frN (a*c) (b*d)) (frD (a*c) (b*d))):=by
 have h3:Bt (a*c) (n+n):=ba.mul bc;have h4:Bt (b*d) (n+n):=bb.mul bd;have h5:b*d≠0:=Int.ne_of_gt (Int.mul_pos hb hd);refine KE.con rfl (by simp) ?_;(repeat first|with_reducible refine kp [2,3,4] ?_|simp only[kV,simprocAttr,csM,aq,ar,ax]|refine aN ?_);refine⟨_,cx (jO a c n ba bc (by omega)),ulc ?_⟩;(repeat first|simp only[kV,simprocAttr,csM,aq,ar]|refine aN ?_);refine⟨_,cx (jO b d n bb bd (by omega)),ulc ?_⟩;(repeat first|simp only[kV,simprocAttr,csM,aq,ar]|refine aN ?_);refine⟨_,cx (nF _ _ (n+n) h3 h4 (by omega) h5),ulc ?_⟩;(repeat first|with_reducible refine kp [4] ?_|simp only[kV,simprocAttr,csM,aq,ar,ac,ah,ae,af]|refine aN ?_)
theorem Yc (a b:Int) (n:Nat) (ba:Bt a n) (bb:Bt b n) (hn:n≤2048000000000):Con Tryz.prog AN 78 [bQ a b] (.int .i64 (bJ a)):=by
 refine Kq.con rfl (by simp) ?_;(repeat first|with_reducible refine kp [1] ?_|simp only[kV,simprocAttr,csM,aq,ar,bf]|refine aN ?_);refine⟨_,cx (mT a n ba (by omega)),ulc ?_⟩;(repeat first|with_reducible refine kp [2] ?_|simp only[kV,simprocAttr,csM,aq,ar,ac,ah,ae,af]|refine aN ?_)
theorem Yd (a b:Int) (n:Nat) (ba:Bt a n) (bb:Bt b n) (hn:n≤2048000000000):Con Tryz.prog AN 40 [bR a b] (.int .i64 (bJ a)):=by
 refine KI.con rfl (by simp) ?_;(repeat first|with_reducible refine kp [1] ?_|simp only[kV,simprocAttr,csM,aq,ar,bf]|refine aN ?_);refine⟨_,cx (zjb a n ba (by omega)),ulc ?_⟩;(repeat first|with_reducible refine kp [2] ?_|simp only[kV,simprocAttr,csM,aq,ar,ac,ah,ae,af]|refine aN ?_)
set_option maxRecDepth 20000
set_option maxHeartbeats 8000000
theorem zcN (t:List UInt8) (ht:t.length≤9223372036854775807):Con Tryz.prog AN 25 [.str t] (.tup [bR (bn t).1 (bn t).2.1,flt (bn t).2.2.1 (bn t).2.2.2]):=by
 obtain⟨n,hn⟩:∃n,n=(av true t).1:=⟨_,rfl⟩
 obtain⟨ok,hok⟩:∃ok,ok=(av true t).2:=⟨_,rfl⟩
 have hnl:n≤t.length:=by rw[hn];exact jS true t
 have hho:ok=true→ck (t.take n)=true:=by rw[hok,hn];exact x7
 have hFn:=pG (t:=t);have hFw:=pH (t:=t);have hFc:=pI (t:=t);rw[←hn,←hok] at hFn hFw hFc;have hW:=vX t true ht;rw[←hn,←hok] at hW;refine J1.con rfl (by simp) ?_;(repeat first|with_reducible refine kp [0,2,3] ?_|simp only[kV,simprocAttr,csM,bf]|refine aN ?_);refine⟨_,cx (jN 1 (by omega)),ulc ?_⟩;(repeat first|with_reducible refine kp [0,2,3,4] ?_|simp only[kV,simprocAttr,csM]|refine aN ?_);cases ok
 ·have hF:=hFn (.inl rfl);refine⟨_,cx (hW),ulc ?_⟩;(repeat first|with_reducible refine kp [0,2,3,4,5,6,7,32] ?_|simp only[kV,simprocAttr,csM]|refine aN ?_);refine ulk ?_;(repeat first|with_reducible refine kp [0,2,3,4,5,6,7,53] ?_|simp only[kV,simprocAttr,csM]|refine aN ?_);refine ulk ?_;(repeat first|with_reducible refine kp [2,3] ?_|simp only[kV,simprocAttr,csM,ac,ah,ae,af]|refine aN ?_);rw[hF]
 ·have hho2:=hho rfl;by_cases hlt:n<t.length
  ·have hltI:(n:Int)<(t.length:Int):=by omega
   by_cases h47:byt t n=47
   ·have hF:=hFc rfl hlt h47;have h47I:(byt t n:Int)=47:=by omega
    obtain⟨k,hk⟩:∃k,k=(av false (t.drop (n+1))).1:=⟨_,rfl⟩
    obtain⟨more,hmore⟩:∃more,more=(av false (t.drop (n+1))).2:=⟨_,rfl⟩
    have hul:(t.drop (n+1)).length=t.length-(n+1):=List.length_drop;have hW2:=vX (t.drop (n+1)) false (by omega);have hku:k≤(t.drop (n+1)).length:=by rw[hk];exact jS false _
    rw[←hk,←hmore] at hF hW2;have hun:=fun h:more=true=>jX (u:=t.drop (n+1)) (hmore.symm.trans h)
    have hut:=fun h:more=true=>pV (u:=t.drop (n+1)) (hmore.symm.trans h)
    rw[←hk] at hun hut;have hnt2:(t.take n).length≤9223372036854775807:=by simp;omega
    refine⟨_,cx (hW),ulc ?_⟩;(repeat first|with_reducible refine kp [0,2,3,4,5,6,7,32] ?_|simp only[kV,simprocAttr,csM,hltI,h47I]|refine aN ?_);refine ulk ?_;(repeat first|simp only[kV,simprocAttr,csM]|refine aN ?_);cases more
    ·rw[if_neg (by simp)] at hF;refine⟨_,cx (hW2),ulc ?_⟩;(repeat first|with_reducible refine kp [0,2,3,4,5,6,7,8,9,53] ?_|simp only[kV,simprocAttr,csM]|refine aN ?_);refine ulk ?_;(repeat first|with_reducible refine kp [2,3] ?_|simp only[kV,simprocAttr,csM,ac,ah,ae,af]|refine aN ?_);rw[hF]
    ·by_cases hkl:n+1+k<t.length
     ·rw[if_neg (by rintro⟨_,h⟩;omega)] at hF;have hkI:(n:Int)+1+(k:Int)<(t.length:Int):=by omega
      refine⟨_,cx (hW2),ulc ?_⟩;(repeat first|with_reducible refine kp [0,2,3,4,5,6,7,8,9,53] ?_|simp only[kV,simprocAttr,csM,hkI]|refine aN ?_);refine ulk ?_;(repeat first|with_reducible refine kp [2,3] ?_|simp only[kV,simprocAttr,csM,ac,ah,ae,af]|refine aN ?_);rw[hF]
     ·have hkI:¬ (n:Int)+1+(k:Int)<(t.length:Int):=by omega
      have hkk:k=(t.drop (n+1)).length:=by omega
      rw[if_pos ⟨rfl,by omega⟩] at hF;refine⟨_,cx (hW2),ulc ?_⟩;(repeat first|with_reducible refine kp [0,2,3,4,5,6,7,8,9,53] ?_|simp only[kV,simprocAttr,csM,hkI]|refine aN ?_);refine ulk ?_;(repeat first|with_reducible refine kp [0,2,3,4,5,7] ?_|simp only[kV,simprocAttr,csM]|refine aN ?_);by_cases hb1:(body (t.take n)).length≤1000
      ·have hb1I:¬ (1000:Int)<((body (t.take n)).length:Int):=by omega
       by_cases hb2:(t.drop (n+1)).length≤1000
       ·have hb2I:¬ (1000:Int)<(n:Int)+1+(k:Int)-(n:Int)-1:=by omega
        rw[if_pos ⟨hb1,hb2⟩] at hF;have hmn:(n:Int)<(n:Int)+1+(k:Int):=by omega
        have hut2:=hut rfl (by omega);have hbu:(body (t.drop (n+1))).length≤1000:=by rw[gW];omega
        have hunz:=hun rfl (by omega) hb2;refine⟨_,cx (jM (t.take n) hnt2),ulc ?_⟩;(repeat first|with_reducible refine kp [0,2,3,4,5,7,68] ?_|simp only[kV,simprocAttr,csM,hb1I,hb2I]|refine aN ?_);refine ulk ?_;(repeat first|with_reducible refine kp [0,2,3,4,5,7] ?_|simp only[kV,simprocAttr,csM]|refine aN ?_);refine⟨_,cx (me (t.take n) hho2 hb1),ulc ?_⟩;(repeat first|simp only[kV,simprocAttr,csM]|refine aN ?_);refine⟨_,cx (jN 1 (by omega)),ulc ?_⟩;(repeat first|with_reducible refine kp [0,2,3,4,5,7,10,79] ?_|simp only[kV,simprocAttr,csM,hmn]|refine aN ?_);refine ulk ?_;(repeat first|simp only[kV,simprocAttr,csM]|refine aN ?_);refine⟨_,cx (me (t.take n) hho2 hb1),ulc ?_⟩;(repeat first|simp only[kV,simprocAttr,csM]|refine aN ?_);refine⟨_,cx (me (t.drop (n+1)) hut2.1 hbu),ulc ?_⟩;(repeat first|simp only[kV,simprocAttr,csM]|refine aN ?_);refine⟨_,cx (nF _ _ 4000 (cE _) (cE _) (by omega) hunz),ulc ?_⟩;(repeat first|with_reducible refine kp [0,2,3,4,10] ?_|simp only[kV,simprocAttr,csM]|refine aN ?_);by_cases heq:frText (frN (parseZ (t.take n)) (parseZ (t.drop (n+1)))) (frD (parseZ (t.take n)) (parseZ (t.drop (n+1))))=t
        ·rw[if_pos heq] at hF;refine⟨_,cx (km _ _ 4000 (jT (cE _)) (jU (cE _)) (by omega)),ulc ?_⟩;(repeat first|with_reducible refine kp [2,3,4,10,93] ?_|simp only[kV,simprocAttr,csM,heq]|refine aN ?_);refine ulk ?_;(repeat first|with_reducible refine kp [2,3,10] ?_|simp only[kV,simprocAttr,csM,ac,ah,ae,af]|refine aN ?_);rw[hF]
        ·rw[if_neg heq] at hF;refine⟨_,cx (km _ _ 4000 (jT (cE _)) (jU (cE _)) (by omega)),ulc ?_⟩;(repeat first|with_reducible refine kp [2,3,4,10,93] ?_|simp only[kV,simprocAttr,csM,heq]|refine aN ?_);refine ulk ?_;(repeat first|with_reducible refine kp [2,3] ?_|simp only[kV,simprocAttr,csM,ac,ah,ae,af]|refine aN ?_);rw[hF]
       ·have hb2I:(1000:Int)<(n:Int)+1+(k:Int)-(n:Int)-1:=by omega
        rw[if_neg (fun h=>hb2 h.2)] at hF;refine⟨_,cx (jM (t.take n) hnt2),ulc ?_⟩;(repeat first|with_reducible refine kp [0,2,3,4,5,7,68] ?_|simp only[kV,simprocAttr,csM,hb1I,hb2I]|refine aN ?_);refine ulk ?_;(repeat first|with_reducible refine kp [2,3] ?_|simp only[kV,simprocAttr,csM,ac,ah,ae,af]|refine aN ?_);rw[hF]
      ·have hb1I:(1000:Int)<((body (t.take n)).length:Int):=by omega
       rw[if_neg (fun h=>hb1 h.1)] at hF;refine⟨_,cx (jM (t.take n) hnt2),ulc ?_⟩;(repeat first|with_reducible refine kp [0,2,3,4,5,7,68] ?_|simp only[kV,simprocAttr,csM,hb1I]|refine aN ?_);refine ulk ?_;(repeat first|with_reducible refine kp [2,3] ?_|simp only[kV,simprocAttr,csM,ac,ah,ae,af]|refine aN ?_);rw[hF]
   ·have hF:=hFn (.inr ⟨hlt,h47⟩);have h47I:¬ (byt t n:Int)=47:=by omega
    refine⟨_,cx (hW),ulc ?_⟩;(repeat first|with_reducible refine kp [0,2,3,4,5,6,7,32] ?_|simp only[kV,simprocAttr,csM,hltI,h47I]|refine aN ?_);refine ulk ?_;(repeat first|with_reducible refine kp [0,2,3,4,5,6,7,53] ?_|simp only[kV,simprocAttr,csM,hltI]|refine aN ?_);refine ulk ?_;(repeat first|with_reducible refine kp [2,3] ?_|simp only[kV,simprocAttr,csM,ac,ah,ae,af]|refine aN ?_);rw[hF]
  ·have hltI:¬ (n:Int)<(t.length:Int):=by omega
   have hF:=hFw rfl (by omega);have hnn:n=t.length:=by omega
   have hnt:t.take n=t:=List.take_of_length_le (by omega);have hnt2:(t.take n).length≤9223372036854775807:=by simp;omega
   refine⟨_,cx (hW),ulc ?_⟩;(repeat first|with_reducible refine kp [0,2,3,4,5,6,7,32] ?_|simp only[kV,simprocAttr,csM,hltI]|refine aN ?_);refine ulk ?_;(repeat first|with_reducible refine kp [0,2,3,4,5,6,7,53] ?_|simp only[kV,simprocAttr,csM,hltI]|refine aN ?_);refine ulk ?_;(repeat first|with_reducible refine kp [0,2,3,4,5,7] ?_|simp only[kV,simprocAttr,csM,hltI]|refine aN ?_);by_cases hb:(body t).length≤1000
   ·rw[if_pos hb] at hF;have hb1I:¬ (1000:Int)<((body t).length:Int):=by omega
    have hb2I:¬ (1000:Int)<0-1:=by omega
    have hmn:¬ (n:Int)<(n:Int):=by omega
    rw[hnt] at hho2;have hpc:cN t=0:=by unfold cN;rw[if_pos hho2,if_pos hb]
    have htx:frText (parseZ t) 1=t:=by unfold frText;rw[if_pos rfl];exact s8 hpc
    rw[hnt];refine⟨_,cx (jM t (by omega)),ulc ?_⟩;(repeat first|with_reducible refine kp [0,2,3,4,5,7,68] ?_|simp only[kV,simprocAttr,csM,hb1I,hb2I,Int.sub_self]|refine aN ?_);(try simp only[kV,simprocAttr,csM,hnt]);refine ulk ?_;(repeat first|with_reducible refine kp [0,2,3,4,5,7] ?_|simp only[kV,simprocAttr,csM,hnt]|refine aN ?_);refine⟨_,cx (me t hho2 hb),ulc ?_⟩;(repeat first|simp only[kV,simprocAttr,csM]|refine aN ?_);refine⟨_,cx (jN 1 (by omega)),ulc ?_⟩;(repeat first|with_reducible refine kp [0,2,3,4,5,7,10,79] ?_|simp only[kV,simprocAttr,csM,hmn,Int.lt_irrefl]|refine aN ?_);refine ulk ?_;(repeat first|with_reducible refine kp [0,2,3,4,10] ?_|simp only[kV,simprocAttr,csM]|refine aN ?_);refine⟨_,cx (km _ _ 4000 (cE _) (gB) (by omega)),ulc ?_⟩;(repeat first|with_reducible refine kp [2,3,4,10,93] ?_|simp only[kV,simprocAttr,csM,htx]|refine aN ?_);refine ulk ?_;(repeat first|with_reducible refine kp [2,3,10] ?_|simp only[kV,simprocAttr,csM,ac,ah,ae,af]|refine aN ?_);rw[hF]
   ·rw[if_neg hb] at hF;have hb1I:(1000:Int)<((body t).length:Int):=by omega
    rw[hnt];refine⟨_,cx (jM t (by omega)),ulc ?_⟩;(repeat first|with_reducible refine kp [0,2,3,4,5,7,68] ?_|simp only[kV,simprocAttr,csM,hb1I]|refine aN ?_);refine ulk ?_;(repeat first|with_reducible refine kp [2,3] ?_|simp only[kV,simprocAttr,csM,ac,ah,ae,af]|refine aN ?_);rw[hF]
theorem V2 {a b:Int} (h:b≠0):0<frD a b:=by
 have hg:=vZ (a:=a) h;have hd:(Int.gcd a b:Int)*(b / (Int.gcd a b:Int))=b:=Int.mul_ediv_cancel' (Int.gcd_dvd_right ..);have hne:b / (Int.gcd a b:Int)≠0:=by
  intro e;rw[e,Int.mul_zero] at hd;exact h hd.symm
 unfold frD;split<;>omega
theorem V3 (t:List UInt8):0<(bn t).2.1∧Bt (bn t).1 4000∧Bt (bn t).2.1 4000:=by
 unfold bn;split
 ·split
  ·rename_i h2;split
   ·rename_i h3;split
    ·exact⟨V2 (jX h2.1 h2.2 h3.2),jT (cE _),jU (cE _)⟩
    ·exact⟨Int.zero_lt_one,f8 _,gB⟩
   ·exact⟨Int.zero_lt_one,f8 _,gB⟩
  ·exact⟨Int.zero_lt_one,f8 _,gB⟩
 ·split
  ·split
   ·exact⟨Int.zero_lt_one,cE _,gB⟩
   ·exact⟨Int.zero_lt_one,f8 _,gB⟩
  ·exact⟨Int.zero_lt_one,f8 _,gB⟩
theorem oE {a b:Int} (h:b≠0):(0:Int)<Int.gcd a b:=by
 have:Int.gcd a b≠0:=fun e=>h (Int.gcd_eq_zero_iff.1 e).2
 omega
theorem lF {a b:Int} (h:b≠0):b / (Int.gcd a b:Int)<0↔b<0:=by
 have hg:=oE (a:=a) h;constructor
 ·intro hh;rcases Int.lt_or_le b 0 with h1 | h1
  ·exact h1
  ·have:=Int.ediv_nonneg h1 (Int.le_of_lt hg);omega
 ·intro hh;exact Int.ediv_neg_of_neg_of_pos hh hg
theorem oF {a b:Int} (h:b≠0):frN a b=(Rat.divInt a b).num:=by
 have hg:=oE (a:=a) h;have hd:(Int.gcd a b:Int)∣a:=Int.gcd_dvd_left ..;unfold frN;rw[Rat.num_divInt,Int.gcd_comm b a];by_cases hb:b<0
 ·rw[if_pos ((lF h).2 hb),Int.sign_eq_neg_one_of_neg hb,Int.neg_mul,Int.one_mul,Int.neg_ediv_of_dvd hd]
 ·rw[if_neg (fun e=>hb ((lF h).1 e)),Int.sign_eq_one_of_pos (by omega),Int.one_mul]
theorem oG {a b:Int} (h:b≠0):frD a b=((Rat.divInt a b).den:Int):=by
 have hg:=oE (a:=a) h;have hd:(Int.gcd a b:Int)∣b:=Int.gcd_dvd_right ..;unfold frD;rw[Rat.den_divInt,if_neg h,Int.gcd_comm b a];by_cases hb:b<0
 ·rw[if_pos ((lF h).2 hb),←Int.neg_ediv_of_dvd hd,Int.natCast_ediv];congr 1;omega
 ·rw[if_neg (fun e=>hb ((lF h).1 e)),Int.natCast_ediv];congr 1;omega
theorem uA (x y:Rat):Rat.divInt (x.num*y.den+y.num*x.den) ((x.den:Int)*y.den)=x+y:=by
 rw[Rat.add_def',←Rat.divInt_ofNat,Int.natCast_mul]
theorem uB (x y:Rat):Rat.divInt (x.num*y.num) ((x.den:Int)*y.den)=x*y:=by
 rw[Rat.mul_def',←Rat.divInt_ofNat,Int.natCast_mul]
theorem eC (x:Rat):(0:Int)<x.den:=by have:=x.den_pos;omega
theorem Bq.n {n:Nat}{x:Rat} (h:Bq n x):Bt x.num n:=h.1
theorem Bq.d {n:Nat}{x:Rat} (h:Bq n x):Bt (x.den:Int) n:=by have:=h.2;unfold Bt;simpa using this
theorem Bq.of {n:Nat}{x:Rat} (h1:Bt x.num n) (h2:Bt (x.den:Int) n):Bq n x:=⟨h1,by unfold Bt at h2;simpa using h2⟩
def qI (x:Rat):D:=bQ x.num x.den
def qZ (x:Rat):D:=bR x.num x.den
theorem uC {a b:Int} (h:b≠0):bQ (frN a b) (frD a b)=qI (Rat.divInt a b):=by rw[oF h,oG h];rfl
theorem uD {a b:Int} (h:b≠0):bR (frN a b) (frD a b)=qZ (Rat.divInt a b):=by rw[oF h,oG h];rfl
theorem lG {x y:Rat}:((x.den:Int)*y.den)≠0:=Int.ne_of_gt (Int.mul_pos (eC x) (eC y))
def fh (x:Rat):Int:=bJ x.num
theorem jA {x:Rat}:fh x=0↔x=0:=by
 unfold fh bJ;rw[←Rat.num_eq_zero];(repeat' split)<;>omega
section
variable (x y:Rat) (n:Nat) (hx:Bq n x) (hy:Bq n y) (hn:n≤2048000000000)
include hx hy hn
theorem zcg:Con Tryz.prog AN 112 [qI x,qI y] (qI (x+y)):=by
 have h:=X8 x.num x.den y.num y.den n hx.n hx.d hy.n hy.d hn (eC x) (eC y);rw[uC lG,uA] at h;exact h
theorem uE:Con Tryz.prog AN 86 [qI x,qI y] (qI (x*y)):=by
 have h:=Ya x.num x.den y.num y.den n hx.n hx.d hy.n hy.d hn (eC x) (eC y);rw[uC lG,uB] at h;exact h
theorem uF:Con Tryz.prog AN 68 [qZ x,qZ y] (qZ (x+y)):=by
 have h:=X9 x.num x.den y.num y.den n hx.n hx.d hy.n hy.d hn (eC x) (eC y);rw[uD lG,uA] at h;exact h
theorem oH:Con Tryz.prog AN 32 [qZ x,qZ y] (qZ (x*y)):=by
 have h:=Yb x.num x.den y.num y.den n hx.n hx.d hy.n hy.d hn (eC x) (eC y);rw[uD lG,uB] at h;exact h
end
section
variable (x:Rat) (n:Nat) (hx:Bq n x) (hn:n≤2048000000000)
include hx hn
theorem zch:Con Tryz.prog AN 78 [qI x] (.int .i64 (fh x)):=Yc x.num x.den n hx.n hx.d hn
theorem lH:Con Tryz.prog AN 40 [qZ x] (.int .i64 (fh x)):=Yd x.num x.den n hx.n hx.d hn
theorem oI:Con Tryz.prog AN 59 [qI x] (.str (frText x.num x.den)):=mG x.num x.den n hx.n hx.d hn
theorem uG:Con Tryz.prog AN 27 [qZ x] (.str (frText x.num x.den)):=km x.num x.den n hx.n hx.d hn
end
theorem zci (z:Int) (n:Nat) (hz:Bt z n) (hn:n≤2048000000000):Con Tryz.prog AN 94 [aT z] (qI (z:Rat)):=IO z n hz hn
theorem zcj {a b:Int} (h:b≠0):∃x:Rat,frN a b=x.num∧frD a b=(x.den:Int):=⟨Rat.divInt a b,oF h,oG h⟩
theorem fi (t:List UInt8):∃x:Rat,(bn t).1=x.num∧(bn t).2.1=(x.den:Int)∧Bq 4000 x:=by
 have key:∃x:Rat,(bn t).1=x.num∧(bn t).2.1=(x.den:Int):=by
  unfold bn;split
  ·split
   ·rename_i h2;split
    ·rename_i h3;split
     ·exact zcj (jX h2.1 h2.2 h3.2)
     ·exact⟨0,rfl,rfl⟩
    ·exact⟨0,rfl,rfl⟩
   ·exact⟨0,rfl,rfl⟩
  ·split
   ·split
    ·exact⟨(parseZ t:Rat),rfl,rfl⟩
    ·exact⟨0,rfl,rfl⟩
   ·exact⟨0,rfl,rfl⟩
 obtain⟨x,h1,h2⟩:=key;obtain⟨_,b1,b2⟩:=V3 t;exact⟨x,h1,h2,Bq.of (h1 ▸ b1) (h2 ▸ b2)⟩
noncomputable def qR (t:List UInt8):Rat:=(fi t).choose
def cR (t:List UInt8):Int:=(bn t).2.2.1
def aR (t:List UInt8):Int:=(bn t).2.2.2
theorem jB (t:List UInt8):Bq 4000 (qR t):=(fi t).choose_spec.2.2
theorem lJ (t:List UInt8) (hs:t.length≤9223372036854775807):Con Tryz.prog AN 45 [.str t] (.tup [qI (qR t),flt (cR t) (aR t)]):=by
 have h:=za9 t hs;have e:bQ (bn t).1 (bn t).2.1=qI (qR t):=congr (congrArg bQ (fi t).choose_spec.1) (fi t).choose_spec.2.1;rw[e] at h;exact h
theorem lK (t:List UInt8) (hs:t.length≤9223372036854775807):Con Tryz.prog AN 25 [.str t] (.tup [qZ (qR t),flt (cR t) (aR t)]):=by
 have h:=zcN t hs;have e:bR (bn t).1 (bn t).2.1=qZ (qR t):=congr (congrArg bR (fi t).choose_spec.1) (fi t).choose_spec.2.1;rw[e] at h;exact h
theorem zck (x:Rat):(qZ x).one=false:=rfl
theorem zcl (x:Rat):(qZ x).isAgg=true:=rfl
theorem zcm (x:Rat):(qZ x).cells=[hZ x.num,lZ x.num,hZ (x.den:Int),lZ (x.den:Int)]:=rfl
theorem uH (x:Rat):D.agg [hI x.num,lI x.num,hI ((x.den:Int)-1),lI ((x.den:Int)-1)]=qI x:=rfl
theorem oJ (x:Rat):D.agg [hZ x.num,lZ x.num,hZ (x.den:Int),lZ (x.den:Int)]=qZ x:=rfl
theorem zcn:D.agg [.bool false,.list 173 1 [],.bool false,.list 173 1 []]=qI 0:=by
 have e:digs 4294967296 0=[]:=by rw[digs];simp
 unfold qI bQ;rw[show ((0:Rat).num).natAbs=0 from rfl,show (((0:Rat).den:Int)-1).natAbs=0 from rfl,e];rfl
end Go.Proofs.YtbnhgnhgbhjkcaaGreat.M
