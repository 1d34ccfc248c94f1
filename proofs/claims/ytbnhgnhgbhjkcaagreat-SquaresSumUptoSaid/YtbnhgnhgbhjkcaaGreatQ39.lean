/- Lemmas. -/
import Derived.Test.YtbnhgnhgbhjkcaaGreatQ32
import Derived.Test.YtbnhgnhgbhjkcaaGreatQ38
import Derived.Test.YtbnhgnhgbhjkcaaGreatQ23
import Derived.Test.YtbnhgnhgbhjkcaaGreatQ20
import Derived.Test.YtbnhgnhgbhjkcaaGreatQ1
import Derived.Test.YtbnhgnhgbhjkcaaGreatQ4
import Derived.Test.YtbnhgnhgbhjkcaaGreatQ27
set_option linter.defProp false
set_option linter.unusedSimpArgs false
set_option linter.unusedVariables false
namespace Go.Proofs.YtbnhgnhgbhjkcaaGreat.M
set_option linter.unusedSimpArgs false
open Go.RowKit
theorem zh6 (t:List UInt8) (w:World) (hok:cE t=true) (hl:(body t).length≤1000) :
  Calls Tryz.prog 65 #[.string (bs t)] w (Z4.RetZ w (parseZ t)):=by
 have e:parseZ t=el t:=by unfold parseZ;rw[if_pos hok,if_pos hl]
 have h1:=cT t;rw[e] at h1 ⊢;exact Z4.zread_any t w (by have:=gW t;split at this<;>omega) (mp hok).1.digs (h1.sm (by omega))
theorem wI (t:List UInt8) (sg:Bool) (hs:t.length≤9223372036854775807):Con Tryz.prog AN 63 [.str t,.bool sg,.bool sg] (.tup [.int .i64 (ay sg t).1,.bool (ay sg t).2]):=uL fun base w v1 v2 v3 hav h1 h2 h3=>by
 cases fZ h1;cases gO h2;cases gO h3;exact (Z4.word_any t sg w hs).mono fun e w' h=>⟨_,h.1,fun _ _=>jD (.int _ _) (.bool _),h.2⟩
theorem jS (t:List UInt8) (hs:t.length≤9223372036854775807):Con Tryz.prog AN 64 [.str t] (.int .i64 (body t).length):=fw fun base w v1 hav h1=>by
 cases fZ h1;exact (Z4.digitsOf_any t w hs).mono fun e w' h=>⟨_,h.1,fun _ _ => .int _ _,h.2⟩
theorem ms (t:List UInt8) (hok:cE t=true) (hl:(body t).length≤1000):Con Tryz.prog AN 65 [.str t] (aH (parseZ t)):=fw fun base w v1 hav h1=>by
 cases fZ h1;exact (zh6 t w hok hl).mono fun e w' ⟨x,h1,h2,h3⟩=>⟨_,h1,fun _ hav=>zaE h2 hav,h3⟩
theorem jT (n:Int) (hn:0≤n∧n≤9223372036854775807):Con Tryz.prog AN 62 [.int .i64 n] (aH n):=by
 obtain⟨m,rfl⟩:=z9W hn.1;exact (mo m (by omega)).mono (by simp)
theorem jU (a b:Int) (n:Nat) (ba:Bt a n) (bb:Bt b n) (hn:n≤4147200000000):Con Tryz.prog AN 69 [aH a,aH b] (aH (a*b)):=by
 have:=bW ba;have:=bW bb;exact (m7 a b (by omega)).mono (by simp)
theorem zh7 (a b:Int) (n:Nat) (ba:Bt a n) (bb:Bt b n) (hn:n≤4147200000000) (hb0:b≠0):Con Tryz.prog AN 97 [aH a,aH b] (.tup [bY (frN a b) (frD a b),flt 0 0]):=(yL a b n ba bb (by omega) hb0).mono (by simp)
theorem zh8 (a b:Int) (n:Nat) (ba:Bt a n) (bb:Bt b n) (hn:n≤4147200000000):Con Tryz.prog AN 98 [aH a,aH b] (aH (a+b)):=by
 have:=bW ba;have:=bW bb;exact (pL a b (by omega) (by omega)).mono (by simp)
theorem zh9 (a:Int) (n:Nat) (ba:Bt a n) (hn:n≤4147200000000):Con Tryz.prog AN 77 [aH a] (.int .i64 (bM a)):=(tk a).mono (by simp)
set_option linter.unusedSimpArgs false
set_option maxHeartbeats 2000000
open Go.RowKit
theorem W4 (a b c d:Int) (n:Nat) (ba:Bt a n) (bb:Bt b n) (bc:Bt c n) (bd:Bt d n) (hn:n≤2048000000000) (hb:0<b) (hd:0<d):Con Tryz.prog AN 112 [cr a b,cr c d] (cr (frN (a*d+c*b) (b*d)) (frD (a*d+c*b) (b*d))):=by
 have h1:Bt (a*d) (n+n):=ba.mul bd;have h2:Bt (c*b) (n+n):=bc.mul bb;have h3:Bt (a*d+c*b) (n+n+1):=h1.add h2;have h4:Bt (b*d) (n+n+1):=(bb.mul bd).mono (by omega);have h5:b*d≠0:=Int.ne_of_gt (Int.mul_pos hb hd);refine rA.con rfl (by simp) ?_;(repeat first|with_reducible refine kp [2,3,4] ?_|simp only[kV,simprocAttr,csM,av,aw,ax]|refine aN ?_);refine⟨_,cx (gD c d n bc bd hn),ulc ?_⟩;(repeat first|simp only[kV,simprocAttr,csM,av,aw]|refine aN ?_);refine⟨_,cx (jh a d n ba bd (by omega)),ulc ?_⟩;(repeat first|simp only[kV,simprocAttr,csM,av,aw]|refine aN ?_);refine⟨_,cx (gD a b n ba bb hn),ulc ?_⟩;(repeat first|simp only[kV,simprocAttr,csM,av,aw]|refine aN ?_);refine⟨_,cx (jh c b n bc bb (by omega)),ulc ?_⟩;(repeat first|simp only[kV,simprocAttr,csM,av,aw]|refine aN ?_);refine⟨_,cx (nn _ _ (n+n) h1 h2 (by omega)),ulc ?_⟩;(repeat first|simp only[kV,simprocAttr,csM,av,aw]|refine aN ?_);refine⟨_,cx (gD a b n ba bb hn),ulc ?_⟩;(repeat first|simp only[kV,simprocAttr,csM,av,aw]|refine aN ?_);refine⟨_,cx (gD c d n bc bd hn),ulc ?_⟩;(repeat first|simp only[kV,simprocAttr,csM,av,aw]|refine aN ?_);refine⟨_,cx (jh b d n bb bd (by omega)),ulc ?_⟩;(repeat first|simp only[kV,simprocAttr,csM,av,aw]|refine aN ?_);refine⟨_,cx (m9 _ _ (n+n+1) h3 h4 (by omega) h5),ulc ?_⟩;(repeat first|with_reducible refine kp [4] ?_|simp only[kV,simprocAttr,csM,av,aw,af,ai,aq,ah]|refine aN ?_)
theorem oh (a b:Int) (n:Nat) (ba:Bt a n) (bb:Bt b n) (hn:n≤4147200000000) (hb0:b≠0):Con Tryz.prog AN 66 [aH a,aH b] (bY (frN a b) (frD a b)):=by
 refine NR.con rfl (by simp) ?_;(repeat first|with_reducible refine kp [2,3,4] ?_|simp only[kV,simprocAttr,csM,av,aw,ax]|refine aN ?_);refine⟨_,cx (zh7 a b n ba bb hn hb0),ulc ?_⟩;(repeat first|with_reducible refine kp [4,5] ?_|simp only[kV,simprocAttr,csM,av,aw,af,ai,aq,ah]|refine aN ?_)
theorem W5 (a b c d:Int) (n:Nat) (ba:Bt a n) (bb:Bt b n) (bc:Bt c n) (bd:Bt d n) (hn:n≤2048000000000) (hb:0<b) (hd:0<d):Con Tryz.prog AN 68 [bY a b,bY c d] (bY (frN (a*d+c*b) (b*d)) (frD (a*d+c*b) (b*d))):=by
 have h1:Bt (a*d) (n+n):=ba.mul bd;have h2:Bt (c*b) (n+n):=bc.mul bb;have h3:Bt (a*d+c*b) (n+n+1):=h1.add h2;have h4:Bt (b*d) (n+n+1):=(bb.mul bd).mono (by omega);have h5:b*d≠0:=Int.ne_of_gt (Int.mul_pos hb hd);refine NC.con rfl (by simp) ?_;(repeat first|with_reducible refine kp [2,3,4] ?_|simp only[kV,simprocAttr,csM,av,aw,ax]|refine aN ?_);refine⟨_,cx (jU a d n ba bd (by omega)),ulc ?_⟩;(repeat first|simp only[kV,simprocAttr,csM,av,aw]|refine aN ?_);refine⟨_,cx (jU c b n bc bb (by omega)),ulc ?_⟩;(repeat first|simp only[kV,simprocAttr,csM,av,aw]|refine aN ?_);refine⟨_,cx (zh8 _ _ (n+n) h1 h2 (by omega)),ulc ?_⟩;(repeat first|simp only[kV,simprocAttr,csM,av,aw]|refine aN ?_);refine⟨_,cx (jU b d n bb bd (by omega)),ulc ?_⟩;(repeat first|simp only[kV,simprocAttr,csM,av,aw]|refine aN ?_);refine⟨_,cx (oh _ _ (n+n+1) h3 h4 (by omega) h5),ulc ?_⟩;(repeat first|with_reducible refine kp [4] ?_|simp only[kV,simprocAttr,csM,av,aw,af,ai,aq,ah]|refine aN ?_)
theorem W6 (a b c d:Int) (n:Nat) (ba:Bt a n) (bb:Bt b n) (bc:Bt c n) (bd:Bt d n) (hn:n≤2048000000000) (hb:0<b) (hd:0<d):Con Tryz.prog AN 86 [cr a b,cr c d] (cr (frN (a*c) (b*d)) (frD (a*c) (b*d))):=by
 have h3:Bt (a*c) (n+n):=ba.mul bc;have h4:Bt (b*d) (n+n):=bb.mul bd;have h5:b*d≠0:=Int.ne_of_gt (Int.mul_pos hb hd);refine rB.con rfl (by simp) ?_;(repeat first|with_reducible refine kp [2,3,4] ?_|simp only[kV,simprocAttr,csM,av,aw,ax]|refine aN ?_);refine⟨_,cx (jh a c n ba bc (by omega)),ulc ?_⟩;(repeat first|simp only[kV,simprocAttr,csM,av,aw]|refine aN ?_);refine⟨_,cx (gD a b n ba bb hn),ulc ?_⟩;(repeat first|simp only[kV,simprocAttr,csM,av,aw]|refine aN ?_);refine⟨_,cx (gD c d n bc bd hn),ulc ?_⟩;(repeat first|simp only[kV,simprocAttr,csM,av,aw]|refine aN ?_);refine⟨_,cx (jh b d n bb bd (by omega)),ulc ?_⟩;(repeat first|simp only[kV,simprocAttr,csM,av,aw]|refine aN ?_);refine⟨_,cx (m9 _ _ (n+n) h3 h4 (by omega) h5),ulc ?_⟩;(repeat first|with_reducible refine kp [4] ?_|simp only[kV,simprocAttr,csM,av,aw,af,ai,aq,ah]|refine aN ?_)
theorem W7 (a b c d:Int) (n:Nat) (ba:Bt a n) (bb:Bt b n) (bc:Bt c n) (bd:Bt d n) (hn:n≤2048000000000) (hb:0<b) (hd:0<d):Con Tryz.prog AN 32 [bY a b,bY c d] (bY (frN (a*c) (b*d)) (frD (a*c) (b*d))):=by
 have h3:Bt (a*c) (n+n):=ba.mul bc;have h4:Bt (b*d) (n+n):=bb.mul bd;have h5:b*d≠0:=Int.ne_of_gt (Int.mul_pos hb hd);refine NI.con rfl (by simp) ?_;(repeat first|with_reducible refine kp [2,3,4] ?_|simp only[kV,simprocAttr,csM,av,aw,ax]|refine aN ?_);refine⟨_,cx (jU a c n ba bc (by omega)),ulc ?_⟩;(repeat first|simp only[kV,simprocAttr,csM,av,aw]|refine aN ?_);refine⟨_,cx (jU b d n bb bd (by omega)),ulc ?_⟩;(repeat first|simp only[kV,simprocAttr,csM,av,aw]|refine aN ?_);refine⟨_,cx (oh _ _ (n+n) h3 h4 (by omega) h5),ulc ?_⟩;(repeat first|with_reducible refine kp [4] ?_|simp only[kV,simprocAttr,csM,av,aw,af,ai,aq,ah]|refine aN ?_)
theorem W8 (a b:Int) (n:Nat) (ba:Bt a n) (bb:Bt b n) (hn:n≤2048000000000):Con Tryz.prog AN 78 [cr a b] (.int .i64 (bM a)):=by
 refine rC.con rfl (by simp) ?_;(repeat first|with_reducible refine kp [1] ?_|simp only[kV,simprocAttr,csM,av,aw,aP]|refine aN ?_);refine⟨_,cx (np a n ba (by omega)),ulc ?_⟩;(repeat first|with_reducible refine kp [2] ?_|simp only[kV,simprocAttr,csM,av,aw,af,ai,aq,ah]|refine aN ?_)
theorem W9 (a b:Int) (n:Nat) (ba:Bt a n) (bb:Bt b n) (hn:n≤2048000000000):Con Tryz.prog AN 40 [bY a b] (.int .i64 (bM a)):=by
 refine NM.con rfl (by simp) ?_;(repeat first|with_reducible refine kp [1] ?_|simp only[kV,simprocAttr,csM,av,aw,aP]|refine aN ?_);refine⟨_,cx (zh9 a n ba (by omega)),ulc ?_⟩;(repeat first|with_reducible refine kp [2] ?_|simp only[kV,simprocAttr,csM,av,aw,af,ai,aq,ah]|refine aN ?_)
set_option linter.unusedSimpArgs false
set_option maxRecDepth 20000
set_option maxHeartbeats 8000000
open Go.RowKit
theorem zbI (t:List UInt8) (ht:t.length≤9223372036854775807):Con Tryz.prog AN 25 [.str t] (.tup [bY (bJ t).1 (bJ t).2.1,flt (bJ t).2.2.1 (bJ t).2.2.2]):=by
 obtain⟨n,hn⟩:∃n,n=(ay true t).1:=⟨_,rfl⟩
 obtain⟨ok,hok⟩:∃ok,ok=(ay true t).2:=⟨_,rfl⟩
 have hnl:n≤t.length:=by rw[hn];exact jY true t
 have hho:ok=true→cE (t.take n)=true:=by rw[hok,hn];exact yJ
 have hFn:=qb (t:=t);have hFw:=qc (t:=t);have hFc:=qd (t:=t);rw[←hn,←hok] at hFn hFw hFc;have hW:=wI t true ht;rw[←hn,←hok] at hW;refine M4.con rfl (by simp) ?_;(repeat first|with_reducible refine kp [0,2,3] ?_|simp only[kV,simprocAttr,csM,aP]|refine aN ?_);refine⟨_,cx (jT 1 (by omega)),ulc ?_⟩;(repeat first|with_reducible refine kp [0,2,3,4] ?_|simp only[kV,simprocAttr,csM]|refine aN ?_);cases ok
 ·have hF:=hFn (.inl rfl);refine⟨_,cx (hW),ulc ?_⟩;(repeat first|with_reducible refine kp [0,2,3,4,5,6,7,32] ?_|simp only[kV,simprocAttr,csM]|refine aN ?_);refine ulk ?_;(repeat first|with_reducible refine kp [0,2,3,4,5,6,7,53] ?_|simp only[kV,simprocAttr,csM]|refine aN ?_);refine ulk ?_;(repeat first|with_reducible refine kp [2,3] ?_|simp only[kV,simprocAttr,csM,af,ai,aq,ah]|refine aN ?_);rw[hF]
 ·have hho2:=hho rfl;by_cases hlt:n<t.length
  ·have hltI:(n:Int)<(t.length:Int):=by omega
   by_cases h47:byt t n=47
   ·have hF:=hFc rfl hlt h47;have h47I:(byt t n:Int)=47:=by omega
    obtain⟨k,hk⟩:∃k,k=(ay false (t.drop (n+1))).1:=⟨_,rfl⟩
    obtain⟨more,hmore⟩:∃more,more=(ay false (t.drop (n+1))).2:=⟨_,rfl⟩
    have hul:(t.drop (n+1)).length=t.length-(n+1):=z86;have hW2:=wI (t.drop (n+1)) false (by omega);have hku:k≤(t.drop (n+1)).length:=by rw[hk];exact jY false _
    rw[←hk,←hmore] at hF hW2;have hun:=fun h:more=true=>j8 (u:=t.drop (n+1)) (hmore.symm.trans h)
    have hut:=fun h:more=true=>qu (u:=t.drop (n+1)) (hmore.symm.trans h)
    rw[←hk] at hun hut;have hnt2:(t.take n).length≤9223372036854775807:=by simp;omega
    refine⟨_,cx (hW),ulc ?_⟩;(repeat first|with_reducible refine kp [0,2,3,4,5,6,7,32] ?_|simp only[kV,simprocAttr,csM,hltI,h47I]|refine aN ?_);refine ulk ?_;(repeat first|simp only[kV,simprocAttr,csM]|refine aN ?_);cases more
    ·rw[if_neg (by simp)] at hF;refine⟨_,cx (hW2),ulc ?_⟩;(repeat first|with_reducible refine kp [0,2,3,4,5,6,7,8,9,53] ?_|simp only[kV,simprocAttr,csM]|refine aN ?_);refine ulk ?_;(repeat first|with_reducible refine kp [2,3] ?_|simp only[kV,simprocAttr,csM,af,ai,aq,ah]|refine aN ?_);rw[hF]
    ·by_cases hkl:n+1+k<t.length
     ·rw[if_neg (by rintro⟨_,h⟩;omega)] at hF;have hkI:(n:Int)+1+(k:Int)<(t.length:Int):=by omega
      refine⟨_,cx (hW2),ulc ?_⟩;(repeat first|with_reducible refine kp [0,2,3,4,5,6,7,8,9,53] ?_|simp only[kV,simprocAttr,csM,hkI]|refine aN ?_);refine ulk ?_;(repeat first|with_reducible refine kp [2,3] ?_|simp only[kV,simprocAttr,csM,af,ai,aq,ah]|refine aN ?_);rw[hF]
     ·have hkI:¬ (n:Int)+1+(k:Int)<(t.length:Int):=by omega
      have hkk:k=(t.drop (n+1)).length:=by omega
      rw[if_pos ⟨rfl,by omega⟩] at hF;refine⟨_,cx (hW2),ulc ?_⟩;(repeat first|with_reducible refine kp [0,2,3,4,5,6,7,8,9,53] ?_|simp only[kV,simprocAttr,csM,hkI]|refine aN ?_);refine ulk ?_;(repeat first|with_reducible refine kp [0,2,3,4,5,7] ?_|simp only[kV,simprocAttr,csM]|refine aN ?_);by_cases hb1:(body (t.take n)).length≤1000
      ·have hb1I:¬ (1000:Int)<((body (t.take n)).length:Int):=by omega
       by_cases hb2:(t.drop (n+1)).length≤1000
       ·have hb2I:¬ (1000:Int)<(n:Int)+1+(k:Int)-(n:Int)-1:=by omega
        rw[if_pos ⟨hb1,hb2⟩] at hF;have hmn:(n:Int)<(n:Int)+1+(k:Int):=by omega
        have hut2:=hut rfl (by omega);have hbu:(body (t.drop (n+1))).length≤1000:=by rw[gW];omega
        have hunz:=hun rfl (by omega) hb2;refine⟨_,cx (jS (t.take n) hnt2),ulc ?_⟩;(repeat first|with_reducible refine kp [0,2,3,4,5,7,68] ?_|simp only[kV,simprocAttr,csM,hb1I,hb2I]|refine aN ?_);refine ulk ?_;(repeat first|with_reducible refine kp [0,2,3,4,5,7] ?_|simp only[kV,simprocAttr,csM]|refine aN ?_);refine⟨_,cx (ms (t.take n) hho2 hb1),ulc ?_⟩;(repeat first|simp only[kV,simprocAttr,csM]|refine aN ?_);refine⟨_,cx (jT 1 (by omega)),ulc ?_⟩;(repeat first|with_reducible refine kp [0,2,3,4,5,7,10,79] ?_|simp only[kV,simprocAttr,csM,hmn]|refine aN ?_);refine ulk ?_;(repeat first|simp only[kV,simprocAttr,csM]|refine aN ?_);refine⟨_,cx (ms (t.take n) hho2 hb1),ulc ?_⟩;(repeat first|simp only[kV,simprocAttr,csM]|refine aN ?_);refine⟨_,cx (ms (t.drop (n+1)) hut2.1 hbu),ulc ?_⟩;(repeat first|simp only[kV,simprocAttr,csM]|refine aN ?_);refine⟨_,cx (oh _ _ 4000 (cT _) (cT _) (by omega) hunz),ulc ?_⟩;(repeat first|with_reducible refine kp [0,2,3,4,10] ?_|simp only[kV,simprocAttr,csM]|refine aN ?_);by_cases heq:cN (frN (parseZ (t.take n)) (parseZ (t.drop (n+1)))) (frD (parseZ (t.take n)) (parseZ (t.drop (n+1))))=t
        ·rw[if_pos heq] at hF;refine⟨_,cx (kG _ _ 4000 (jZ (cT _)) (j5 (cT _)) (by omega)),ulc ?_⟩;(repeat first|with_reducible refine kp [2,3,4,10,93] ?_|simp only[kV,simprocAttr,csM,heq]|refine aN ?_);refine ulk ?_;(repeat first|with_reducible refine kp [2,3,10] ?_|simp only[kV,simprocAttr,csM,af,ai,aq,ah]|refine aN ?_);rw[hF]
        ·rw[if_neg heq] at hF;refine⟨_,cx (kG _ _ 4000 (jZ (cT _)) (j5 (cT _)) (by omega)),ulc ?_⟩;(repeat first|with_reducible refine kp [2,3,4,10,93] ?_|simp only[kV,simprocAttr,csM,heq]|refine aN ?_);refine ulk ?_;(repeat first|with_reducible refine kp [2,3] ?_|simp only[kV,simprocAttr,csM,af,ai,aq,ah]|refine aN ?_);rw[hF]
       ·have hb2I:(1000:Int)<(n:Int)+1+(k:Int)-(n:Int)-1:=by omega
        rw[if_neg (fun h=>hb2 h.2)] at hF;refine⟨_,cx (jS (t.take n) hnt2),ulc ?_⟩;(repeat first|with_reducible refine kp [0,2,3,4,5,7,68] ?_|simp only[kV,simprocAttr,csM,hb1I,hb2I]|refine aN ?_);refine ulk ?_;(repeat first|with_reducible refine kp [2,3] ?_|simp only[kV,simprocAttr,csM,af,ai,aq,ah]|refine aN ?_);rw[hF]
      ·have hb1I:(1000:Int)<((body (t.take n)).length:Int):=by omega
       rw[if_neg (fun h=>hb1 h.1)] at hF;refine⟨_,cx (jS (t.take n) hnt2),ulc ?_⟩;(repeat first|with_reducible refine kp [0,2,3,4,5,7,68] ?_|simp only[kV,simprocAttr,csM,hb1I]|refine aN ?_);refine ulk ?_;(repeat first|with_reducible refine kp [2,3] ?_|simp only[kV,simprocAttr,csM,af,ai,aq,ah]|refine aN ?_);rw[hF]
   ·have hF:=hFn (.inr ⟨hlt,h47⟩);have h47I:¬ (byt t n:Int)=47:=by omega
    refine⟨_,cx (hW),ulc ?_⟩;(repeat first|with_reducible refine kp [0,2,3,4,5,6,7,32] ?_|simp only[kV,simprocAttr,csM,hltI,h47I]|refine aN ?_);refine ulk ?_;(repeat first|with_reducible refine kp [0,2,3,4,5,6,7,53] ?_|simp only[kV,simprocAttr,csM,hltI]|refine aN ?_);refine ulk ?_;(repeat first|with_reducible refine kp [2,3] ?_|simp only[kV,simprocAttr,csM,af,ai,aq,ah]|refine aN ?_);rw[hF]
  ·have hltI:¬ (n:Int)<(t.length:Int):=by omega
   have hF:=hFw rfl (by omega);have hnn:n=t.length:=by omega
   have hnt:t.take n=t:=z93 (by omega);have hnt2:(t.take n).length≤9223372036854775807:=by simp;omega
   refine⟨_,cx (hW),ulc ?_⟩;(repeat first|with_reducible refine kp [0,2,3,4,5,6,7,32] ?_|simp only[kV,simprocAttr,csM,hltI]|refine aN ?_);refine ulk ?_;(repeat first|with_reducible refine kp [0,2,3,4,5,6,7,53] ?_|simp only[kV,simprocAttr,csM,hltI]|refine aN ?_);refine ulk ?_;(repeat first|with_reducible refine kp [0,2,3,4,5,7] ?_|simp only[kV,simprocAttr,csM,hltI]|refine aN ?_);by_cases hb:(body t).length≤1000
   ·rw[if_pos hb] at hF;have hb1I:¬ (1000:Int)<((body t).length:Int):=by omega
    have hb2I:¬ (1000:Int)<0-1:=by omega
    have hmn:¬ (n:Int)<(n:Int):=by omega
    rw[hnt] at hho2;have hpc:c6 t=0:=by unfold c6;rw[if_pos hho2,if_pos hb]
    have htx:cN (parseZ t) 1=t:=by unfold cN;rw[if_pos rfl];exact tN hpc
    rw[hnt];refine⟨_,cx (jS t (by omega)),ulc ?_⟩;(repeat first|with_reducible refine kp [0,2,3,4,5,7,68] ?_|simp only[kV,simprocAttr,csM,hb1I,hb2I,Int.sub_self]|refine aN ?_);(try simp only[kV,simprocAttr,csM,hnt]);refine ulk ?_;(repeat first|with_reducible refine kp [0,2,3,4,5,7] ?_|simp only[kV,simprocAttr,csM,hnt]|refine aN ?_);refine⟨_,cx (ms t hho2 hb),ulc ?_⟩;(repeat first|simp only[kV,simprocAttr,csM]|refine aN ?_);refine⟨_,cx (jT 1 (by omega)),ulc ?_⟩;(repeat first|with_reducible refine kp [0,2,3,4,5,7,10,79] ?_|simp only[kV,simprocAttr,csM,hmn,Int.lt_irrefl]|refine aN ?_);refine ulk ?_;(repeat first|with_reducible refine kp [0,2,3,4,10] ?_|simp only[kV,simprocAttr,csM]|refine aN ?_);refine⟨_,cx (kG _ _ 4000 (cT _) (gC) (by omega)),ulc ?_⟩;(repeat first|with_reducible refine kp [2,3,4,10,93] ?_|simp only[kV,simprocAttr,csM,htx]|refine aN ?_);refine ulk ?_;(repeat first|with_reducible refine kp [2,3,10] ?_|simp only[kV,simprocAttr,csM,af,ai,aq,ah]|refine aN ?_);rw[hF]
   ·rw[if_neg hb] at hF;have hb1I:(1000:Int)<((body t).length:Int):=by omega
    rw[hnt];refine⟨_,cx (jS t (by omega)),ulc ?_⟩;(repeat first|with_reducible refine kp [0,2,3,4,5,7,68] ?_|simp only[kV,simprocAttr,csM,hb1I]|refine aN ?_);refine ulk ?_;(repeat first|with_reducible refine kp [2,3] ?_|simp only[kV,simprocAttr,csM,af,ai,aq,ah]|refine aN ?_);rw[hF]
set_option linter.unusedSimpArgs false
open Go.RowKit
theorem U9 {a b:Int} (h:b≠0):0<frD a b:=by
 have hg:=wK (a:=a) h;have hd:(Int.gcd a b:Int)*(b / (Int.gcd a b:Int))=b:=Int.mul_ediv_cancel' (Int.gcd_dvd_right ..);have hne:b / (Int.gcd a b:Int)≠0:=by
  intro e;rw[e,Int.mul_zero] at hd;exact h hd.symm
 unfold frD;split<;>omega
theorem Va (t:List UInt8):0<(bJ t).2.1∧Bt (bJ t).1 4000∧Bt (bJ t).2.1 4000:=by
 unfold bJ;split
 ·split
  ·rename_i h2;split
   ·rename_i h3;split
    ·exact⟨U9 (j8 h2.1 h2.2 h3.2),jZ (cT _),j5 (cT _)⟩
    ·exact⟨Int.zero_lt_one,gn _,gC⟩
   ·exact⟨Int.zero_lt_one,gn _,gC⟩
  ·exact⟨Int.zero_lt_one,gn _,gC⟩
 ·split
  ·split
   ·exact⟨Int.zero_lt_one,cT _,gC⟩
   ·exact⟨Int.zero_lt_one,gn _,gC⟩
  ·exact⟨Int.zero_lt_one,gn _,gC⟩
set_option linter.unusedSimpArgs false
open Go.RowKit
theorem ph {a b:Int} (h:b≠0):(0:Int)<Int.gcd a b:=by
 have:Int.gcd a b≠0:=fun e=>h (Int.gcd_eq_zero_iff.1 e).2
 omega
theorem lW {a b:Int} (h:b≠0):b / (Int.gcd a b:Int)<0↔b<0:=by
 have hg:=ph (a:=a) h;constructor
 ·intro hh;rcases Int.lt_or_le b 0 with h1 | h1
  ·exact h1
  ·have:=Int.ediv_nonneg h1 (Int.le_of_lt hg);omega
 ·intro hh;exact Int.ediv_neg_of_neg_of_pos hh hg
theorem pi {a b:Int} (h:b≠0):frN a b=(Rat.divInt a b).num:=by
 have hg:=ph (a:=a) h;have hd:(Int.gcd a b:Int)∣a:=Int.gcd_dvd_left ..;unfold frN;rw[Rat.num_divInt,Int.gcd_comm b a];by_cases hb:b<0
 ·rw[if_pos ((lW h).2 hb),Int.sign_eq_neg_one_of_neg hb,Int.neg_mul,Int.one_mul,Int.neg_ediv_of_dvd hd]
 ·rw[if_neg (fun e=>hb ((lW h).1 e)),Int.sign_eq_one_of_pos (by omega),Int.one_mul]
theorem pj {a b:Int} (h:b≠0):frD a b=((Rat.divInt a b).den:Int):=by
 have hg:=ph (a:=a) h;have hd:(Int.gcd a b:Int)∣b:=Int.gcd_dvd_right ..;unfold frD;rw[Rat.den_divInt,if_neg h,Int.gcd_comm b a];by_cases hb:b<0
 ·rw[if_pos ((lW h).2 hb),←Int.neg_ediv_of_dvd hd,Int.natCast_ediv];congr 1;omega
 ·rw[if_neg (fun e=>hb ((lW h).1 e)),Int.natCast_ediv];congr 1;omega
theorem ve (x y:Rat):Rat.divInt (x.num*y.den+y.num*x.den) ((x.den:Int)*y.den)=x+y:=by
 rw[Rat.add_def',←Rat.divInt_ofNat,Int.natCast_mul]
theorem vf (x y:Rat):Rat.divInt (x.num*y.num) ((x.den:Int)*y.den)=x*y:=by
 rw[Rat.mul_def',←Rat.divInt_ofNat,Int.natCast_mul]
theorem eL (x:Rat):(0:Int)<x.den:=by have:=x.den_pos;omega
theorem Bq.n {n:Nat}{x:Rat} (h:Bq n x):Bt x.num n:=h.1
theorem Bq.d {n:Nat}{x:Rat} (h:Bq n x):Bt (x.den:Int) n:=by have:=h.2;unfold Bt;simpa using this
theorem Bq.of {n:Nat}{x:Rat} (h1:Bt x.num n) (h2:Bt (x.den:Int) n):Bq n x:=⟨h1,by unfold Bt at h2;simpa using h2⟩
def qI (x:Rat):D:=cr x.num x.den
def qZ (x:Rat):D:=bY x.num x.den
theorem vg {a b:Int} (h:b≠0):cr (frN a b) (frD a b)=qI (Rat.divInt a b):=by rw[pi h,pj h];rfl
theorem vh {a b:Int} (h:b≠0):bY (frN a b) (frD a b)=qZ (Rat.divInt a b):=by rw[pi h,pj h];rfl
theorem lX {x y:Rat}:((x.den:Int)*y.den)≠0:=Int.ne_of_gt (Int.mul_pos (eL x) (eL y))
def d5 (x:Rat):Int:=bM x.num
theorem jF {x:Rat}:d5 x=0↔x=0:=by
 unfold d5 bM;rw[←Rat.num_eq_zero];(repeat' split)<;>omega
section
variable (x y:Rat) (n:Nat) (hx:Bq n x) (hy:Bq n y) (hn:n≤2048000000000)
include hx hy hn
theorem zbe:Con Tryz.prog AN 112 [qI x,qI y] (qI (x+y)):=by
 have h:=W4 x.num x.den y.num y.den n hx.n hx.d hy.n hy.d hn (eL x) (eL y);rw[vg lX,ve] at h;exact h
theorem vi:Con Tryz.prog AN 86 [qI x,qI y] (qI (x*y)):=by
 have h:=W6 x.num x.den y.num y.den n hx.n hx.d hy.n hy.d hn (eL x) (eL y);rw[vg lX,vf] at h;exact h
theorem vj:Con Tryz.prog AN 68 [qZ x,qZ y] (qZ (x+y)):=by
 have h:=W5 x.num x.den y.num y.den n hx.n hx.d hy.n hy.d hn (eL x) (eL y);rw[vh lX,ve] at h;exact h
theorem pk:Con Tryz.prog AN 32 [qZ x,qZ y] (qZ (x*y)):=by
 have h:=W7 x.num x.den y.num y.den n hx.n hx.d hy.n hy.d hn (eL x) (eL y);rw[vh lX,vf] at h;exact h
end
section
variable (x:Rat) (n:Nat) (hx:Bq n x) (hn:n≤2048000000000)
include hx hn
theorem vk:Con Tryz.prog AN 78 [qI x] (.int .i64 (d5 x)):=W8 x.num x.den n hx.n hx.d hn
theorem iN:Con Tryz.prog AN 40 [qZ x] (.int .i64 (d5 x)):=W9 x.num x.den n hx.n hx.d hn
theorem zbf:Con Tryz.prog AN 59 [qI x] (.str (cN x.num x.den)):=nc x.num x.den n hx.n hx.d hn
theorem zbg:Con Tryz.prog AN 27 [qZ x] (.str (cN x.num x.den)):=kG x.num x.den n hx.n hx.d hn
end
theorem zbh {a b:Int} (h:b≠0):∃x:Rat,frN a b=x.num∧frD a b=(x.den:Int):=⟨Rat.divInt a b,pi h,pj h⟩
theorem iO (t:List UInt8):∃x:Rat,(bJ t).1=x.num∧(bJ t).2.1=(x.den:Int)∧Bq 4000 x:=by
 have key:∃x:Rat,(bJ t).1=x.num∧(bJ t).2.1=(x.den:Int):=by
  unfold bJ;split
  ·split
   ·rename_i h2;split
    ·rename_i h3;split
     ·exact zbh (j8 h2.1 h2.2 h3.2)
     ·exact⟨0,rfl,rfl⟩
    ·exact⟨0,rfl,rfl⟩
   ·exact⟨0,rfl,rfl⟩
  ·split
   ·split
    ·exact⟨(parseZ t:Rat),rfl,rfl⟩
    ·exact⟨0,rfl,rfl⟩
   ·exact⟨0,rfl,rfl⟩
 obtain⟨x,h1,h2⟩:=key;obtain⟨_,b1,b2⟩:=Va t;exact⟨x,h1,h2,Bq.of (h1 ▸ b1) (h2 ▸ b2)⟩
noncomputable def qR (t:List UInt8):Rat:=(iO t).choose
def cR (t:List UInt8):Int:=(bJ t).2.2.1
def aR (t:List UInt8):Int:=(bJ t).2.2.2
theorem iP (t:List UInt8):Bq 4000 (qR t):=(iO t).choose_spec.2.2
theorem lY (t:List UInt8) (hs:t.length≤9223372036854775807):Con Tryz.prog AN 45 [.str t] (.tup [qI (qR t),flt (cR t) (aR t)]):=by
 have h:=Z5 t hs;have e:cr (bJ t).1 (bJ t).2.1=qI (qR t):=congr (congrArg cr (iO t).choose_spec.1) (iO t).choose_spec.2.1;rw[e] at h;exact h
theorem jG (t:List UInt8) (hs:t.length≤9223372036854775807):Con Tryz.prog AN 25 [.str t] (.tup [qZ (qR t),flt (cR t) (aR t)]):=by
 have h:=zbI t hs;have e:bY (bJ t).1 (bJ t).2.1=qZ (qR t):=congr (congrArg bY (iO t).choose_spec.1) (iO t).choose_spec.2.1;rw[e] at h;exact h
theorem zbi (x:Rat):(qZ x).one=false:=rfl
theorem zbj (x:Rat):(qZ x).isAgg=true:=rfl
theorem zbk (x:Rat):(qZ x).cells=[hZ x.num,lZ x.num,hZ (x.den:Int),lZ (x.den:Int)]:=rfl
theorem pn (x:Rat):D.agg [hZ x.num,lZ x.num,hZ (x.den:Int),lZ (x.den:Int)]=qZ x:=rfl
set_option linter.unusedSimpArgs false
set_option maxRecDepth 20000
set_option maxHeartbeats 2000000
open Go.RowKit
abbrev Zm:=Rat×Mp.Mo
def tZ (t:Zm):D:=.agg [hZ t.1.num,lZ t.1.num,hZ (t.1.den:Int),lZ (t.1.den:Int),.list 3 1 (t.2.map (D.int .i64))]
abbrev TZ:Nat:=73
abbrev MZ (l:Mp.TL):D:=.list TZ 5 (l.map tZ)
theorem md (a b:Mp.TL):MZ (a++b) = .list TZ 5 (a.map tZ++b.map tZ):=congrArg (D.list TZ 5) z9U
def zt (l:Mp.TL) (i:Nat):Zm:=l.getD i (0,[])
theorem fF {l:Mp.TL}{i:Nat} (h:i<l.length):zt l i=l[i]:=by simp[zt,h]
theorem cO {l:Mp.TL}{i:Nat} (h:i<l.length):zt l i∈l:=by rw[fF h];exact z9a h
theorem zb5 {l:Mp.TL}{i:Nat} (h:i<l.length):l.drop i=zt l i::l.drop (i+1):=by rw[z9k h,fF h]
theorem jN {l:Mp.TL}{i:Nat} (h:i<l.length):l.take (i+1)=l.take i++[zt l i]:=by rw[z9c h,fF h]
theorem fG {l:Mp.TL}{i:Nat} (h:i<l.length):(l.map tZ).getD i default = .agg [hZ (zt l i).1.num,lZ (zt l i).1.num,hZ ((zt l i).1.den:Int),lZ ((zt l i).1.den:Int),.list 3 1 ((zt l i).2.map (D.int .i64))]:=by
 simp[zt,tZ,h]
theorem dO {l:List Int}{i:Nat} (h:i<l.length):(l.map (D.int .i64)).getD i default = .int .i64 (l.getD i 0):=by simp[h]
theorem zb6 (G:FuncId→List D→D→Prop) (dd:Option Nat) (T:Nat) (sz:Nat) (z:D) (n:Nat) (parts:List (Nat×Opd)) (g:Option (Nat×Bool)) (K:St→Prop) (s:St):step G ⟨dd,.buildSliceP T sz z n parts,g⟩ K s=fin dd K (ev (.buildSliceP T sz z n parts) (dd.getD 0) s):=rfl
theorem zb7 (T:Nat) (sz:Nat) (z:D) (n:Nat) (parts:List (Nat×Opd)) (id:Nat) (s:St):ev (.buildSliceP T sz z n parts) id s=(match s.m id with
  |none=>match eg sz (List.replicate n z) s.r parts with
   |some l=>some (true,.slice id 0 n,⟨s.r,upd s.m id (some ⟨T,sz,.row l,false⟩)⟩)
   |none=>none
  |some _=>none):=rfl
def csZ:=an @zb6 (an @zb7 (an @eg.eq_1 (an @eg.eq_2 (an @zbi (an @zbj (an @zbk (an @pn (an @List.length_map.{0,0} (an @Nat.mul_one (an @and_false (an @false_and (an @Nat.zero_add csM))))))))))))
theorem vQ (A:List TypeId) (T U:Nat) (a b:List Int) (hl:a.length=b.length) (h1:a.length≤1000000000):Con Tryz.prog A 88 [.list T 1 (a.map (D.int .i64)),.list U 1 (b.map (D.int .i64))] (.bool (decide (a=b))):=by
 refine Con.mono (A:=[]) ?_ (by simp);refine O4.con rfl (by simp) ?_;(repeat first|simp only[kV,simprocAttr,csZ,ax]|refine aN ?_);refine kp [0,1] ?_;(repeat first|simp only[kV,simprocAttr,csZ,ax]|refine aN ?_);refine kp [0,1,5] ?_;(repeat first|simp only[kV,simprocAttr,csZ,ax]|refine aN ?_);refine aB (ι:=Nat) (fun i=>i≤a.length∧∀k,k<i→a.getD k 0=b.getD k 0) (fun i=>⟨ar [(0,.p (.list T 1 (a.map (D.int .i64)))),(1,.p (.list U 1 (b.map (D.int .i64)))),(5,.p (.int .i64 i))],au []⟩) (fun i=>a.length-i) 0 ⟨z9O _,fun k hk=>by omega⟩ (Sub.toG [0,1,5] []) ?_;rintro i ⟨hi,he⟩;by_cases h:i<a.length
 ·have hI:(i:Int)<(a.length:Int):=by omega
  have hI2:(i:Int)<(b.length:Int):=by omega
  have hb:i<b.length:=by omega
  have g1:=dO h;have g2:=dO hb;(repeat first|with_reducible refine kp [0,1,5,9] ?_|simp only[kV,simprocAttr,csZ,hI]|refine aN ?_);(try simp only[kV,simprocAttr,csZ,hI,hI2,g1,g2,h,hb]);refine ulk ?_;(repeat first|with_reducible refine kp [0,1,5,20] ?_|simp only[kV,simprocAttr,csZ,hI,hI2,g1,g2,h,hb]|refine aN ?_);by_cases hc:a.getD i 0=b.getD i 0
  ·refine⟨fun h1=>absurd h1 (by rw[hc];simp),fun _ => ?_⟩;(try simp only[kV,simprocAttr,csZ]);refine ulk ?_;(repeat first|with_reducible refine kp [0,1,5] ?_|simp only[kV,simprocAttr,csZ]|refine aN ?_);exact⟨i+1,⟨h,fun k hk=>by
    by_cases hki:k<i
    ·exact he k hki
    ·obtain rfl:k=i:=by omega
     exact hc⟩,(Sub.toG [0,1,5] []),by omega⟩
  ·refine⟨fun _ => ?_,fun h1=>absurd h1 (by rw[z8R hc];simp)⟩;have hne:a≠b:=fun e=>hc (by rw[e])
   rw[z8R hne];(try simp only[kV,simprocAttr,csZ]);refine ulk ?_;(repeat first|with_reducible refine kp [4] ?_|simp only[kV,simprocAttr,csZ,af,ai,aq,ah]|refine aN ?_)
 ·have hI:¬ (i:Int)<(a.length:Int):=by omega
  have heq:a=b:=List.ext_getElem hl fun k h1 h2=>by
   have:=he k (by omega)
   rwa[z91,z91,z9P h1,z9P h2] at this
  rw[decide_eq_true heq];(repeat first|with_reducible refine kp [0,1,5,9] ?_|simp only[kV,simprocAttr,csZ,hI]|refine aN ?_);refine ulk ?_;(repeat first|with_reducible refine kp [4] ?_|simp only[kV,simprocAttr,csZ,af,ai,aq,ah,hI]|refine aN ?_)
theorem zb8 {m:Mp.TL}{t:Zm}{i:Nat} (h:i<m.length) (h0:∀k,k<i→(zt m k).2≠t.2) (he:(zt m i).2=t.2):Mp.grow m t=m.take i++(if (zt m i).1+t.1=0 then [] else [((zt m i).1+t.1,t.2)])++m.drop (i+1):=by
 have e:m=m.take i++(zt m i::m.drop (i+1)):=by rw[←zb5 h,z8X]
 conv=>lhs;rw[e]
 rw[Mp.grow_skip fun x hx=>by
  obtain⟨k,hk,rfl⟩:=z85.1 hx;rw[z9N] at hk;have:=h0 k (by omega);rw[fF (by omega)] at this;rw[List.getElem_take];exact this]
 rw[Mp.grow,if_pos he,z9A];congr 1
 split<;>rfl
theorem zb9 {m:Mp.TL}{t:Zm} (h0:∀k,k<m.length→(zt m k).2≠t.2):Mp.grow m t=m++(if t.1=0 then [] else [t]):=by
 have:=Mp.grow_skip (l:=m) (m:=[]) (t:=t) fun x hx=>by
  obtain⟨k,hk,rfl⟩:=z85.1 hx;have:=h0 k hk
  rwa[fF hk] at this
 rw[List.append_nil] at this;rw[this];rfl
theorem zca (m:Mp.TL) (t:Zm){p:Nat} (hw:∀x∈m,x.2.length=t.2.length) (hb:∀x∈m,Bq p x.1∧Bq p (x.1+t.1)) (ht:Bq p t.1) (hl:m.length≤1000000000) (hn:t.2.length≤1000000000) (hp:p≤2048000000000) :
  Con Tryz.prog AN 53 [MZ m,tZ t] (MZ (Mp.grow m t)):=by
 obtain⟨c,e⟩:=t;simp only at hw hb ht hn;refine Pu.con rfl (by simp) ?_;(repeat first|simp only[kV,simprocAttr,csZ,ax,tZ]|refine aN ?_);refine kp [0,3] ?_;(repeat first|simp only[kV,simprocAttr,csZ,ax,tZ]|refine aN ?_);refine kp [0,3,5] ?_;(repeat first|simp only[kV,simprocAttr,csZ,ax,tZ]|refine aN ?_);refine aB (ι:=Nat) (fun i=>i≤m.length∧∀k,k<i→(zt m k).2≠e) (fun i=>⟨ar [(0,.p (MZ m)),(3,.ptr 3 0 0),(5,.p (.int .i64 i))],au [(3,⟨TZ,5,.box (.p (.agg [hZ c.num,lZ c.num,hZ (c.den:Int),lZ (c.den:Int),.list 3 1 (e.map (D.int .i64))])),false⟩)]⟩) (fun i=>m.length-i) 0 ⟨z9O _,fun k hk=>by omega⟩ (Sub.toG [0,3,5] [6,33,42,43,49,56,59]) ?_;rintro i ⟨hi,h0⟩;by_cases h:i<m.length
 ·have hI:(i:Int)<(m.length:Int):=by omega
  have g1:=fG h;have hx:=hb _ (cO h);have hwx:=hw _ (cO h);by_cases hc:(zt m i).2=e
  ·have hga:=zb8 (t:=(c,e)) h h0 hc;simp only at hga;generalize zt m i=x at *;(repeat first|with_reducible refine kp [0,3,5,11] ?_|simp only[kV,simprocAttr,csZ,hI]|refine aN ?_);(try simp only[kV,simprocAttr,csZ,hI,g1,h]);refine ulk ?_;(repeat first|with_reducible refine kp [0,3,5] ?_|simp only[kV,simprocAttr,csZ,hI,g1,h]|refine aN ?_);refine⟨_,cx (vQ AN _ _ x.2 e hwx (by omega)),?_⟩;(repeat first|with_reducible refine kp [0,3,5,21] ?_|simp only[kV,simprocAttr,csZ,hc]|refine aN ?_);(try simp only[kV,simprocAttr,csZ,hI,g1,h]);refine ulk ?_;(repeat first|simp only[kV,simprocAttr,csZ,hI,g1,h]|refine aN ?_);have hle:(i:Int)≤(m.length:Int):=by omega
   have hle1:(i:Int)+1≤(m.length:Int):=by omega
   have e1:List.take i (m.map tZ)=(m.take i).map tZ:=List.map_take.symm;have e2:List.take (m.length-(i+1)) (List.drop (i+1) (m.map tZ))=(m.drop (i+1)).map tZ:=by rw[←List.map_drop,z93 (by simp)]
   have l1:(m.take i).length=i:=by rw[z9N,z9f hi]
   have l2:(m.drop (i+1)).length=m.length-(i+1):=z86;generalize m.take i=m1 at *;generalize m.drop (i+1)=m2 at *;refine⟨_,cx (vj x.1 c p hx.1 ht hp),ulc ?_⟩;(repeat first|with_reducible refine kp [0,3,5,6,7] ?_|simp only[kV,simprocAttr,csZ,hI,g1,h,hle,hi,e1,l1]|refine aN ?_);by_cases hs:x.1+c=0
   ·have s0:d5 (x.1+c)=0:=jF.2 hs;rw[if_pos hs,List.append_nil] at hga;refine⟨_,cx (iN (x.1+c) p hx.2 hp),ulc ?_⟩;(repeat first|with_reducible refine kp [0,3,5,6,7,36] ?_|simp only[kV,simprocAttr,csZ,s0]|refine aN ?_);(try simp only[kV,simprocAttr,csZ,hI,hle,hle1,h,hi,e1,e2,l1,l2,z96]);refine ulk ?_;(repeat first|with_reducible refine kp [0,4,5,7] ?_|simp only[kV,simprocAttr,csZ,af,ai,aq,ah,hI,hle,hle1,h,hi,e1,e2,l1,l2,z96]|refine aN ?_);rw[hga];simp only[Bool.or_true,if_true];rw[z93 (by simp[l1,l2]),md]
   ·have s0:¬ d5 (x.1+c)=0:=fun h=>hs (jF.1 h)
    rw[if_neg hs] at hga;refine⟨_,cx (iN (x.1+c) p hx.2 hp),ulc ?_⟩;(repeat first|with_reducible refine kp [0,3,5,6,7,36] ?_|simp only[kV,simprocAttr,csZ,s0]|refine aN ?_);(try simp only[kV,simprocAttr,csZ,s0,hI,hle,hle1,h,hi,e1,e2,l1,l2,z96,List.length_cons,List.length_nil]);refine ulk ?_;(repeat first|with_reducible refine kp [0,4,5,7] ?_|simp only[kV,simprocAttr,csZ,af,ai,aq,ah,s0,hI,hle,hle1,h,hi,e1,e2,l1,l2,z96,List.length_cons,List.length_nil]|refine aN ?_);rw[hga];simp only[Bool.or_true,if_true];rw[z93 (by simp[l1,l2];omega),md,z9U];rfl
  ·have hnx:∀k,k<i+1→(zt m k).2≠e:=fun k hk=>by
    by_cases hki:k<i
    ·exact h0 k hki
    ·obtain rfl:k=i:=by omega
     exact hc
   generalize zt m i=x at *;(repeat first|with_reducible refine kp [0,3,5,11] ?_|simp only[kV,simprocAttr,csZ,hI]|refine aN ?_);(try simp only[kV,simprocAttr,csZ,hI,g1,h]);refine ulk ?_;(repeat first|with_reducible refine kp [0,3,5] ?_|simp only[kV,simprocAttr,csZ,hI,g1,h]|refine aN ?_);refine⟨_,cx (vQ AN _ _ x.2 e hwx (by omega)),?_⟩;(repeat first|with_reducible refine kp [0,3,5,21] ?_|simp only[kV,simprocAttr,csZ,hc]|refine aN ?_);refine ulk ?_;(repeat first|with_reducible refine kp [0,3,5] ?_|simp only[kV,simprocAttr,csZ]|refine aN ?_);exact⟨i+1,⟨h,hnx⟩,(Sub.toG [0,3,5] [6,33,42,43,49,56,59]),by omega⟩
 ·have hI:¬ (i:Int)<(m.length:Int):=by omega
  have hga:=zb9 (t:=(c,e)) fun k hk=>h0 k (by omega)
  simp only at hga;by_cases hs:c=0
  ·have s0:d5 c=0:=jF.2 hs;rw[if_pos hs,List.append_nil] at hga;(repeat first|with_reducible refine kp [0,3,5,11] ?_|simp only[kV,simprocAttr,csZ,hI]|refine aN ?_);refine ulk ?_;(repeat first|with_reducible refine kp [0,3] ?_|simp only[kV,simprocAttr,csZ,hI]|refine aN ?_);refine⟨_,cx (iN c p ht hp),ulc ?_⟩;(repeat first|with_reducible refine kp [0,3,53] ?_|simp only[kV,simprocAttr,csZ,s0]|refine aN ?_);refine ulk ?_;(repeat first|with_reducible refine kp [4] ?_|simp only[kV,simprocAttr,csZ,af,ai,aq,ah]|refine aN ?_);rw[hga]
  ·have s0:¬ d5 c=0:=fun h=>hs (jF.1 h)
   rw[if_neg hs] at hga;(repeat first|with_reducible refine kp [0,3,5,11] ?_|simp only[kV,simprocAttr,csZ,hI]|refine aN ?_);refine ulk ?_;(repeat first|with_reducible refine kp [0,3] ?_|simp only[kV,simprocAttr,csZ,hI]|refine aN ?_);refine⟨_,cx (iN c p ht hp),ulc ?_⟩;(repeat first|with_reducible refine kp [0,3,53] ?_|simp only[kV,simprocAttr,csZ,s0]|refine aN ?_);(try simp only[kV,simprocAttr,csZ,s0,hl,z96,List.length_cons,List.length_nil]);refine ulk ?_;(repeat first|with_reducible refine kp [0,3,4] ?_|simp only[kV,simprocAttr,csZ,af,ai,aq,ah,s0,hl,z96,List.length_cons,List.length_nil]|refine aN ?_);rw[hga];simp only[Bool.or_true,if_true];rw[z93 (by simp),md];rfl
end Go.Proofs.YtbnhgnhgbhjkcaaGreat.M
