/- Lemmas. -/
import Derived.Test.YtbnhgnhgbhjkcaaGreatL32
import Derived.Test.YtbnhgnhgbhjkcaaGreatL38
import Derived.Test.YtbnhgnhgbhjkcaaGreatL24
import Derived.Test.YtbnhgnhgbhjkcaaGreatL22
import Derived.Test.YtbnhgnhgbhjkcaaGreatL25
import Derived.Test.YtbnhgnhgbhjkcaaGreatL1
import Derived.Test.YtbnhgnhgbhjkcaaGreatL5
import Derived.Test.YtbnhgnhgbhjkcaaGreatL27
import Derived.Test.YtbnhgnhgbhjkcaaGreatL3
import Derived.Test.YtbnhgnhgbhjkcaaGreatL28
set_option linter.defProp false
set_option linter.unusedSimpArgs false
set_option linter.unusedVariables false
namespace Go.Proofs.YtbnhgnhgbhjkcaaGreat.M
open Go.RowKit
theorem zgG (t:List UInt8) (w:World) (hok:ct t=true) (hl:(body t).length≤1000) :
  Calls Tryz.prog 65 #[.string (bs t)] w (Z4.RetZ w (parseZ t)):=by
 have e:parseZ t=ef t:=by unfold parseZ;rw[if_pos hok,if_pos hl]
 have h1:=cQ t;rw[e] at h1 ⊢;exact Z4.zread_any t w (by have:=hP t;split at this<;>omega) (me hok).1.digs (h1.sm (by omega))
theorem wc (t:List UInt8) (sg:Bool) (hs:t.length≤9223372036854775807):Con Tryz.prog AN 63 [.str t,.bool sg,.bool sg] (.tup [.int .i64 (av sg t).1,.bool (av sg t).2]):=Y7 fun base w v1 v2 v3 hav h1 h2 h3=>by
 cases gV h1;cases gW h2;cases gW h3;exact (Z4.word_any t sg w hs).mono fun e w' h=>⟨_,h.1,fun _ _=>jL (.int _ _) (.bool _),h.2⟩
theorem jY (t:List UInt8) (hs:t.length≤9223372036854775807):Con Tryz.prog AN 64 [.str t] (.int .i64 (body t).length):=fE fun base w v1 hav h1=>by
 cases gV h1;exact (Z4.digitsOf_any t w hs).mono fun e w' h=>⟨_,h.1,fun _ _ => .int _ _,h.2⟩
theorem mg (t:List UInt8) (hok:ct t=true) (hl:(body t).length≤1000):Con Tryz.prog AN 65 [.str t] (aI (parseZ t)):=fE fun base w v1 hav h1=>by
 cases gV h1;exact (zgG t w hok hl).mono fun e w' ⟨x,h1,h2,h3⟩=>⟨_,h1,fun _ hav=>Za h2 hav,h3⟩
theorem pK (n:Int) (hn:0≤n∧n≤9223372036854775807):Con Tryz.prog AN 62 [.int .i64 n] (aI n):=by
 obtain⟨m,rfl⟩:=Int.eq_ofNat_of_zero_le hn.1;exact (md m (by omega)).mono (by simp)
theorem we (a b:Int) (n:Nat) (ba:Bt a n) (bb:Bt b n) (hn:n≤4147200000000):Con Tryz.prog AN 69 [aI a,aI b] (aI (a*b)):=by
 have:=co ba;have:=co bb;exact (mR a b (by omega)).mono (by simp)
theorem zgH (a b:Int) (n:Nat) (ba:Bt a n) (bb:Bt b n) (hn:n≤4147200000000) (hb0:b≠0):Con Tryz.prog AN 97 [aI a,aI b] (.tup [cE (frN a b) (frD a b),flt 0 0]):=(yF a b n ba bb (by omega) hb0).mono (by simp)
set_option maxHeartbeats 2000000
theorem VE (a b c d:Int) (n:Nat) (ba:Bt a n) (bb:Bt b n) (bc:Bt c n) (bd:Bt d n) (hn:n≤2048000000000) (hb:0<b) (hd:0<d):Con Tryz.prog AN 112 [bY a b,bY c d] (bY (frN (a*d+c*b) (b*d)) (frD (a*d+c*b) (b*d))):=by
 have h1:Bt (a*d) (n+n):=ba.mul bd;have h2:Bt (c*b) (n+n):=bc.mul bb;have h3:Bt (a*d+c*b) (n+n+1):=h1.add h2;have h4:Bt (b*d) (n+n+1):=(bb.mul bd).mono (by omega);have h5:b*d≠0:=Int.ne_of_gt (Int.mul_pos hb hd);refine LP.con rfl (by simp) ?_;(repeat first|with_reducible refine kp [2,3,4] ?_|simp only[kV,simprocAttr,csM,aw,ax,aB]|refine aN ?_);refine⟨_,cx (gG c d n bc bd hn),ulc ?_⟩;(repeat first|simp only[kV,simprocAttr,csM,aw,ax]|refine aN ?_);refine⟨_,cx (jl a d n ba bd (by omega)),ulc ?_⟩;(repeat first|simp only[kV,simprocAttr,csM,aw,ax]|refine aN ?_);refine⟨_,cx (gG a b n ba bb hn),ulc ?_⟩;(repeat first|simp only[kV,simprocAttr,csM,aw,ax]|refine aN ?_);refine⟨_,cx (jl c b n bc bb (by omega)),ulc ?_⟩;(repeat first|simp only[kV,simprocAttr,csM,aw,ax]|refine aN ?_);refine⟨_,cx (m7 _ _ (n+n) h1 h2 (by omega)),ulc ?_⟩;(repeat first|simp only[kV,simprocAttr,csM,aw,ax]|refine aN ?_);refine⟨_,cx (gG a b n ba bb hn),ulc ?_⟩;(repeat first|simp only[kV,simprocAttr,csM,aw,ax]|refine aN ?_);refine⟨_,cx (gG c d n bc bd hn),ulc ?_⟩;(repeat first|simp only[kV,simprocAttr,csM,aw,ax]|refine aN ?_);refine⟨_,cx (jl b d n bb bd (by omega)),ulc ?_⟩;(repeat first|simp only[kV,simprocAttr,csM,aw,ax]|refine aN ?_);refine⟨_,cx (mU _ _ (n+n+1) h3 h4 (by omega) h5),ulc ?_⟩;(repeat first|with_reducible refine kp [4] ?_|simp only[kV,simprocAttr,csM,aw,ax,ae,ai,ah,af]|refine aN ?_)
theorem sX (a b:Int) (n:Nat) (ba:Bt a n) (bb:Bt b n) (hn:n≤4147200000000) (hb0:b≠0):Con Tryz.prog AN 66 [aI a,aI b] (cE (frN a b) (frD a b)):=by
 refine Mi.con rfl (by simp) ?_;(repeat first|with_reducible refine kp [2,3,4] ?_|simp only[kV,simprocAttr,csM,aw,ax,aB]|refine aN ?_);refine⟨_,cx (zgH a b n ba bb hn hb0),ulc ?_⟩;(repeat first|with_reducible refine kp [4,5] ?_|simp only[kV,simprocAttr,csM,aw,ax,ae,ai,ah,af]|refine aN ?_)
theorem VF (a b c d:Int) (n:Nat) (ba:Bt a n) (bb:Bt b n) (bc:Bt c n) (bd:Bt d n) (hn:n≤2048000000000) (hb:0<b) (hd:0<d):Con Tryz.prog AN 86 [bY a b,bY c d] (bY (frN (a*c) (b*d)) (frD (a*c) (b*d))):=by
 have h3:Bt (a*c) (n+n):=ba.mul bc;have h4:Bt (b*d) (n+n):=bb.mul bd;have h5:b*d≠0:=Int.ne_of_gt (Int.mul_pos hb hd);refine L3.con rfl (by simp) ?_;(repeat first|with_reducible refine kp [2,3,4] ?_|simp only[kV,simprocAttr,csM,aw,ax,aB]|refine aN ?_);refine⟨_,cx (jl a c n ba bc (by omega)),ulc ?_⟩;(repeat first|simp only[kV,simprocAttr,csM,aw,ax]|refine aN ?_);refine⟨_,cx (gG a b n ba bb hn),ulc ?_⟩;(repeat first|simp only[kV,simprocAttr,csM,aw,ax]|refine aN ?_);refine⟨_,cx (gG c d n bc bd hn),ulc ?_⟩;(repeat first|simp only[kV,simprocAttr,csM,aw,ax]|refine aN ?_);refine⟨_,cx (jl b d n bb bd (by omega)),ulc ?_⟩;(repeat first|simp only[kV,simprocAttr,csM,aw,ax]|refine aN ?_);refine⟨_,cx (mU _ _ (n+n) h3 h4 (by omega) h5),ulc ?_⟩;(repeat first|with_reducible refine kp [4] ?_|simp only[kV,simprocAttr,csM,aw,ax,ae,ai,ah,af]|refine aN ?_)
theorem VG (a b c d:Int) (n:Nat) (ba:Bt a n) (bb:Bt b n) (bc:Bt c n) (bd:Bt d n) (hn:n≤2048000000000) (hb:0<b) (hd:0<d):Con Tryz.prog AN 32 [cE a b,cE c d] (cE (frN (a*c) (b*d)) (frD (a*c) (b*d))):=by
 have h3:Bt (a*c) (n+n):=ba.mul bc;have h4:Bt (b*d) (n+n):=bb.mul bd;have h5:b*d≠0:=Int.ne_of_gt (Int.mul_pos hb hd);refine Md.con rfl (by simp) ?_;(repeat first|with_reducible refine kp [2,3,4] ?_|simp only[kV,simprocAttr,csM,aw,ax,aB]|refine aN ?_);refine⟨_,cx (we a c n ba bc (by omega)),ulc ?_⟩;(repeat first|simp only[kV,simprocAttr,csM,aw,ax]|refine aN ?_);refine⟨_,cx (we b d n bb bd (by omega)),ulc ?_⟩;(repeat first|simp only[kV,simprocAttr,csM,aw,ax]|refine aN ?_);refine⟨_,cx (sX _ _ (n+n) h3 h4 (by omega) h5),ulc ?_⟩;(repeat first|with_reducible refine kp [4] ?_|simp only[kV,simprocAttr,csM,aw,ax,ae,ai,ah,af]|refine aN ?_)
theorem VH (a b:Int) (n:Nat) (ba:Bt a n) (bb:Bt b n) (hn:n≤2048000000000):Con Tryz.prog AN 78 [bY a b] (.int .i64 (bT a)):=by
 refine L7.con rfl (by simp) ?_;(repeat first|with_reducible refine kp [1] ?_|simp only[kV,simprocAttr,csM,aw,ax,bw]|refine aN ?_);refine⟨_,cx (m8 a n ba (by omega)),ulc ?_⟩;(repeat first|with_reducible refine kp [2] ?_|simp only[kV,simprocAttr,csM,aw,ax,ae,ai,ah,af]|refine aN ?_)
set_option maxRecDepth 20000
set_option maxHeartbeats 8000000
theorem zaw (t:List UInt8) (ht:t.length≤9223372036854775807):Con Tryz.prog AN 25 [.str t] (.tup [cE (bF t).1 (bF t).2.1,flt (bF t).2.2.1 (bF t).2.2.2]):=by
 obtain⟨n,hn⟩:∃n,n=(av true t).1:=⟨_,rfl⟩
 obtain⟨ok,hok⟩:∃ok,ok=(av true t).2:=⟨_,rfl⟩
 have hnl:n≤t.length:=by rw[hn];exact j5 true t
 have hho:ok=true→ct (t.take n)=true:=by rw[hok,hn];exact yD
 have hFn:=pX (t:=t);have hFw:=mp (t:=t);have hFc:=mq (t:=t);rw[←hn,←hok] at hFn hFw hFc;have hW:=wc t true ht;rw[←hn,←hok] at hW;refine Lz.con rfl (by simp) ?_;(repeat first|with_reducible refine kp [0,2,3] ?_|simp only[kV,simprocAttr,csM,bw]|refine aN ?_);refine⟨_,cx (pK 1 (by omega)),ulc ?_⟩;(repeat first|with_reducible refine kp [0,2,3,4] ?_|simp only[kV,simprocAttr,csM]|refine aN ?_);cases ok
 ·have hF:=hFn (.inl rfl);refine⟨_,cx (hW),ulc ?_⟩;(repeat first|with_reducible refine kp [0,2,3,4,5,6,7,32] ?_|simp only[kV,simprocAttr,csM]|refine aN ?_);refine ulk ?_;(repeat first|with_reducible refine kp [0,2,3,4,5,6,7,53] ?_|simp only[kV,simprocAttr,csM]|refine aN ?_);refine ulk ?_;(repeat first|with_reducible refine kp [2,3] ?_|simp only[kV,simprocAttr,csM,ae,ai,ah,af]|refine aN ?_);rw[hF]
 ·have hho2:=hho rfl;by_cases hlt:n<t.length
  ·have hltI:(n:Int)<(t.length:Int):=by omega
   by_cases h47:byt t n=47
   ·have hF:=hFc rfl hlt h47;have h47I:(byt t n:Int)=47:=by omega
    obtain⟨k,hk⟩:∃k,k=(av false (t.drop (n+1))).1:=⟨_,rfl⟩
    obtain⟨more,hmore⟩:∃more,more=(av false (t.drop (n+1))).2:=⟨_,rfl⟩
    have hul:(t.drop (n+1)).length=t.length-(n+1):=List.length_drop;have hW2:=wc (t.drop (n+1)) false (by omega);have hku:k≤(t.drop (n+1)).length:=by rw[hk];exact j5 false _
    rw[←hk,←hmore] at hF hW2;have hun:=fun h:more=true=>kd (u:=t.drop (n+1)) (hmore.symm.trans h)
    have hut:=fun h:more=true=>qe (u:=t.drop (n+1)) (hmore.symm.trans h)
    rw[←hk] at hun hut;have hnt2:(t.take n).length≤9223372036854775807:=by simp;omega
    refine⟨_,cx (hW),ulc ?_⟩;(repeat first|with_reducible refine kp [0,2,3,4,5,6,7,32] ?_|simp only[kV,simprocAttr,csM,hltI,h47I]|refine aN ?_);refine ulk ?_;(repeat first|simp only[kV,simprocAttr,csM]|refine aN ?_);cases more
    ·rw[if_neg (by simp)] at hF;refine⟨_,cx (hW2),ulc ?_⟩;(repeat first|with_reducible refine kp [0,2,3,4,5,6,7,8,9,53] ?_|simp only[kV,simprocAttr,csM]|refine aN ?_);refine ulk ?_;(repeat first|with_reducible refine kp [2,3] ?_|simp only[kV,simprocAttr,csM,ae,ai,ah,af]|refine aN ?_);rw[hF]
    ·by_cases hkl:n+1+k<t.length
     ·rw[if_neg (by rintro⟨_,h⟩;omega)] at hF;have hkI:(n:Int)+1+(k:Int)<(t.length:Int):=by omega
      refine⟨_,cx (hW2),ulc ?_⟩;(repeat first|with_reducible refine kp [0,2,3,4,5,6,7,8,9,53] ?_|simp only[kV,simprocAttr,csM,hkI]|refine aN ?_);refine ulk ?_;(repeat first|with_reducible refine kp [2,3] ?_|simp only[kV,simprocAttr,csM,ae,ai,ah,af]|refine aN ?_);rw[hF]
     ·have hkI:¬ (n:Int)+1+(k:Int)<(t.length:Int):=by omega
      have hkk:k=(t.drop (n+1)).length:=by omega
      rw[if_pos ⟨rfl,by omega⟩] at hF;refine⟨_,cx (hW2),ulc ?_⟩;(repeat first|with_reducible refine kp [0,2,3,4,5,6,7,8,9,53] ?_|simp only[kV,simprocAttr,csM,hkI]|refine aN ?_);refine ulk ?_;(repeat first|with_reducible refine kp [0,2,3,4,5,7] ?_|simp only[kV,simprocAttr,csM]|refine aN ?_);by_cases hb1:(body (t.take n)).length≤1000
      ·have hb1I:¬ (1000:Int)<((body (t.take n)).length:Int):=by omega
       by_cases hb2:(t.drop (n+1)).length≤1000
       ·have hb2I:¬ (1000:Int)<(n:Int)+1+(k:Int)-(n:Int)-1:=by omega
        rw[if_pos ⟨hb1,hb2⟩] at hF;have hmn:(n:Int)<(n:Int)+1+(k:Int):=by omega
        have hut2:=hut rfl (by omega);have hbu:(body (t.drop (n+1))).length≤1000:=by rw[hP];omega
        have hunz:=hun rfl (by omega) hb2;refine⟨_,cx (jY (t.take n) hnt2),ulc ?_⟩;(repeat first|with_reducible refine kp [0,2,3,4,5,7,68] ?_|simp only[kV,simprocAttr,csM,hb1I,hb2I]|refine aN ?_);refine ulk ?_;(repeat first|with_reducible refine kp [0,2,3,4,5,7] ?_|simp only[kV,simprocAttr,csM]|refine aN ?_);refine⟨_,cx (mg (t.take n) hho2 hb1),ulc ?_⟩;(repeat first|simp only[kV,simprocAttr,csM]|refine aN ?_);refine⟨_,cx (pK 1 (by omega)),ulc ?_⟩;(repeat first|with_reducible refine kp [0,2,3,4,5,7,10,79] ?_|simp only[kV,simprocAttr,csM,hmn]|refine aN ?_);refine ulk ?_;(repeat first|simp only[kV,simprocAttr,csM]|refine aN ?_);refine⟨_,cx (mg (t.take n) hho2 hb1),ulc ?_⟩;(repeat first|simp only[kV,simprocAttr,csM]|refine aN ?_);refine⟨_,cx (mg (t.drop (n+1)) hut2.1 hbu),ulc ?_⟩;(repeat first|simp only[kV,simprocAttr,csM]|refine aN ?_);refine⟨_,cx (sX _ _ 4000 (cQ _) (cQ _) (by omega) hunz),ulc ?_⟩;(repeat first|with_reducible refine kp [0,2,3,4,10] ?_|simp only[kV,simprocAttr,csM]|refine aN ?_);by_cases heq:frText (frN (parseZ (t.take n)) (parseZ (t.drop (n+1)))) (frD (parseZ (t.take n)) (parseZ (t.drop (n+1))))=t
        ·rw[if_pos heq] at hF;refine⟨_,cx (kx _ _ 4000 (j6 (cQ _)) (j7 (cQ _)) (by omega)),ulc ?_⟩;(repeat first|with_reducible refine kp [2,3,4,10,93] ?_|simp only[kV,simprocAttr,csM,heq]|refine aN ?_);refine ulk ?_;(repeat first|with_reducible refine kp [2,3,10] ?_|simp only[kV,simprocAttr,csM,ae,ai,ah,af]|refine aN ?_);rw[hF]
        ·rw[if_neg heq] at hF;refine⟨_,cx (kx _ _ 4000 (j6 (cQ _)) (j7 (cQ _)) (by omega)),ulc ?_⟩;(repeat first|with_reducible refine kp [2,3,4,10,93] ?_|simp only[kV,simprocAttr,csM,heq]|refine aN ?_);refine ulk ?_;(repeat first|with_reducible refine kp [2,3] ?_|simp only[kV,simprocAttr,csM,ae,ai,ah,af]|refine aN ?_);rw[hF]
       ·have hb2I:(1000:Int)<(n:Int)+1+(k:Int)-(n:Int)-1:=by omega
        rw[if_neg (fun h=>hb2 h.2)] at hF;refine⟨_,cx (jY (t.take n) hnt2),ulc ?_⟩;(repeat first|with_reducible refine kp [0,2,3,4,5,7,68] ?_|simp only[kV,simprocAttr,csM,hb1I,hb2I]|refine aN ?_);refine ulk ?_;(repeat first|with_reducible refine kp [2,3] ?_|simp only[kV,simprocAttr,csM,ae,ai,ah,af]|refine aN ?_);rw[hF]
      ·have hb1I:(1000:Int)<((body (t.take n)).length:Int):=by omega
       rw[if_neg (fun h=>hb1 h.1)] at hF;refine⟨_,cx (jY (t.take n) hnt2),ulc ?_⟩;(repeat first|with_reducible refine kp [0,2,3,4,5,7,68] ?_|simp only[kV,simprocAttr,csM,hb1I]|refine aN ?_);refine ulk ?_;(repeat first|with_reducible refine kp [2,3] ?_|simp only[kV,simprocAttr,csM,ae,ai,ah,af]|refine aN ?_);rw[hF]
   ·have hF:=hFn (.inr ⟨hlt,h47⟩);have h47I:¬ (byt t n:Int)=47:=by omega
    refine⟨_,cx (hW),ulc ?_⟩;(repeat first|with_reducible refine kp [0,2,3,4,5,6,7,32] ?_|simp only[kV,simprocAttr,csM,hltI,h47I]|refine aN ?_);refine ulk ?_;(repeat first|with_reducible refine kp [0,2,3,4,5,6,7,53] ?_|simp only[kV,simprocAttr,csM,hltI]|refine aN ?_);refine ulk ?_;(repeat first|with_reducible refine kp [2,3] ?_|simp only[kV,simprocAttr,csM,ae,ai,ah,af]|refine aN ?_);rw[hF]
  ·have hltI:¬ (n:Int)<(t.length:Int):=by omega
   have hF:=hFw rfl (by omega);have hnn:n=t.length:=by omega
   have hnt:t.take n=t:=List.take_of_length_le (by omega);have hnt2:(t.take n).length≤9223372036854775807:=by simp;omega
   refine⟨_,cx (hW),ulc ?_⟩;(repeat first|with_reducible refine kp [0,2,3,4,5,6,7,32] ?_|simp only[kV,simprocAttr,csM,hltI]|refine aN ?_);refine ulk ?_;(repeat first|with_reducible refine kp [0,2,3,4,5,6,7,53] ?_|simp only[kV,simprocAttr,csM,hltI]|refine aN ?_);refine ulk ?_;(repeat first|with_reducible refine kp [0,2,3,4,5,7] ?_|simp only[kV,simprocAttr,csM,hltI]|refine aN ?_);by_cases hb:(body t).length≤1000
   ·rw[if_pos hb] at hF;have hb1I:¬ (1000:Int)<((body t).length:Int):=by omega
    have hb2I:¬ (1000:Int)<0-1:=by omega
    have hmn:¬ (n:Int)<(n:Int):=by omega
    rw[hnt] at hho2;have hpc:c6 t=0:=by unfold c6;rw[if_pos hho2,if_pos hb]
    have htx:frText (parseZ t) 1=t:=by unfold frText;rw[if_pos rfl];exact tj hpc
    rw[hnt];refine⟨_,cx (jY t (by omega)),ulc ?_⟩;(repeat first|with_reducible refine kp [0,2,3,4,5,7,68] ?_|simp only[kV,simprocAttr,csM,hb1I,hb2I,Int.sub_self]|refine aN ?_);(try simp only[kV,simprocAttr,csM,hnt]);refine ulk ?_;(repeat first|with_reducible refine kp [0,2,3,4,5,7] ?_|simp only[kV,simprocAttr,csM,hnt]|refine aN ?_);refine⟨_,cx (mg t hho2 hb),ulc ?_⟩;(repeat first|simp only[kV,simprocAttr,csM]|refine aN ?_);refine⟨_,cx (pK 1 (by omega)),ulc ?_⟩;(repeat first|with_reducible refine kp [0,2,3,4,5,7,10,79] ?_|simp only[kV,simprocAttr,csM,hmn,Int.lt_irrefl]|refine aN ?_);refine ulk ?_;(repeat first|with_reducible refine kp [0,2,3,4,10] ?_|simp only[kV,simprocAttr,csM]|refine aN ?_);refine⟨_,cx (kx _ _ 4000 (cQ _) (gF) (by omega)),ulc ?_⟩;(repeat first|with_reducible refine kp [2,3,4,10,93] ?_|simp only[kV,simprocAttr,csM,htx]|refine aN ?_);refine ulk ?_;(repeat first|with_reducible refine kp [2,3,10] ?_|simp only[kV,simprocAttr,csM,ae,ai,ah,af]|refine aN ?_);rw[hF]
   ·rw[if_neg hb] at hF;have hb1I:(1000:Int)<((body t).length:Int):=by omega
    rw[hnt];refine⟨_,cx (jY t (by omega)),ulc ?_⟩;(repeat first|with_reducible refine kp [0,2,3,4,5,7,68] ?_|simp only[kV,simprocAttr,csM,hb1I]|refine aN ?_);refine ulk ?_;(repeat first|with_reducible refine kp [2,3] ?_|simp only[kV,simprocAttr,csM,ae,ai,ah,af]|refine aN ?_);rw[hF]
theorem Tn {a b:Int} (h:b≠0):0<frD a b:=by
 have hg:=wh (a:=a) h;have hd:(Int.gcd a b:Int)*(b / (Int.gcd a b:Int))=b:=Int.mul_ediv_cancel' (Int.gcd_dvd_right ..);have hne:b / (Int.gcd a b:Int)≠0:=by
  intro e;rw[e,Int.mul_zero] at hd;exact h hd.symm
 unfold frD;split<;>omega
theorem To (t:List UInt8):0<(bF t).2.1∧Bt (bF t).1 4000∧Bt (bF t).2.1 4000:=by
 unfold bF;split
 ·split
  ·rename_i h2;split
   ·rename_i h3;split
    ·exact⟨Tn (kd h2.1 h2.2 h3.2),j6 (cQ _),j7 (cQ _)⟩
    ·exact⟨Int.zero_lt_one,gz _,gF⟩
   ·exact⟨Int.zero_lt_one,gz _,gF⟩
  ·exact⟨Int.zero_lt_one,gz _,gF⟩
 ·split
  ·split
   ·exact⟨Int.zero_lt_one,cQ _,gF⟩
   ·exact⟨Int.zero_lt_one,gz _,gF⟩
  ·exact⟨Int.zero_lt_one,gz _,gF⟩
theorem oQ {a b:Int} (h:b≠0):(0:Int)<Int.gcd a b:=by
 have:Int.gcd a b≠0:=fun e=>h (Int.gcd_eq_zero_iff.1 e).2
 omega
theorem lL {a b:Int} (h:b≠0):b / (Int.gcd a b:Int)<0↔b<0:=by
 have hg:=oQ (a:=a) h;constructor
 ·intro hh;rcases Int.lt_or_le b 0 with h1 | h1
  ·exact h1
  ·have:=Int.ediv_nonneg h1 (Int.le_of_lt hg);omega
 ·intro hh;exact Int.ediv_neg_of_neg_of_pos hh hg
theorem lM {a b:Int} (h:b≠0):frN a b=(Rat.divInt a b).num:=by
 have hg:=oQ (a:=a) h;have hd:(Int.gcd a b:Int)∣a:=Int.gcd_dvd_left ..;unfold frN;rw[Rat.num_divInt,Int.gcd_comm b a];by_cases hb:b<0
 ·rw[if_pos ((lL h).2 hb),Int.sign_eq_neg_one_of_neg hb,Int.neg_mul,Int.one_mul,Int.neg_ediv_of_dvd hd]
 ·rw[if_neg (fun e=>hb ((lL h).1 e)),Int.sign_eq_one_of_pos (by omega),Int.one_mul]
theorem lN {a b:Int} (h:b≠0):frD a b=((Rat.divInt a b).den:Int):=by
 have hg:=oQ (a:=a) h;have hd:(Int.gcd a b:Int)∣b:=Int.gcd_dvd_right ..;unfold frD;rw[Rat.den_divInt,if_neg h,Int.gcd_comm b a];by_cases hb:b<0
 ·rw[if_pos ((lL h).2 hb),←Int.neg_ediv_of_dvd hd,Int.natCast_ediv];congr 1;omega
 ·rw[if_neg (fun e=>hb ((lL h).1 e)),Int.natCast_ediv];congr 1;omega
theorem ZS (x y:Rat):Rat.divInt (x.num*y.den+y.num*x.den) ((x.den:Int)*y.den)=x+y:=by
 rw[Rat.add_def',←Rat.divInt_ofNat,Int.natCast_mul]
theorem uF (x y:Rat):Rat.divInt (x.num*y.num) ((x.den:Int)*y.den)=x*y:=by
 rw[Rat.mul_def',←Rat.divInt_ofNat,Int.natCast_mul]
theorem gi (x:Rat):(0:Int)<x.den:=by have:=x.den_pos;omega
theorem Bq.n {n:Nat}{x:Rat} (h:Bq n x):Bt x.num n:=h.1
theorem Bq.d {n:Nat}{x:Rat} (h:Bq n x):Bt (x.den:Int) n:=by have:=h.2;unfold Bt;simpa using this
theorem Bq.of {n:Nat}{x:Rat} (h1:Bt x.num n) (h2:Bt (x.den:Int) n):Bq n x:=⟨h1,by unfold Bt at h2;simpa using h2⟩
def qI (x:Rat):D:=bY x.num x.den
def qZ (x:Rat):D:=cE x.num x.den
theorem uG {a b:Int} (h:b≠0):bY (frN a b) (frD a b)=qI (Rat.divInt a b):=by rw[lM h,lN h];rfl
theorem ZT {a b:Int} (h:b≠0):cE (frN a b) (frD a b)=qZ (Rat.divInt a b):=by rw[lM h,lN h];rfl
theorem oR {x y:Rat}:((x.den:Int)*y.den)≠0:=Int.ne_of_gt (Int.mul_pos (gi x) (gi y))
def lO (x:Rat):Int:=bT x.num
theorem ZU {x:Rat}:lO x=0↔x=0:=by
 unfold lO bT;rw[←Rat.num_eq_zero];(repeat' split)<;>omega
section
variable (x y:Rat) (n:Nat) (hx:Bq n x) (hy:Bq n y) (hn:n≤2048000000000)
include hx hy hn
theorem ZV:Con Tryz.prog AN 112 [qI x,qI y] (qI (x+y)):=by
 have h:=VE x.num x.den y.num y.den n hx.n hx.d hy.n hy.d hn (gi x) (gi y);rw[uG oR,ZS] at h;exact h
theorem oS:Con Tryz.prog AN 86 [qI x,qI y] (qI (x*y)):=by
 have h:=VF x.num x.den y.num y.den n hx.n hx.d hy.n hy.d hn (gi x) (gi y);rw[uG oR,uF] at h;exact h
theorem ZW:Con Tryz.prog AN 32 [qZ x,qZ y] (qZ (x*y)):=by
 have h:=VG x.num x.den y.num y.den n hx.n hx.d hy.n hy.d hn (gi x) (gi y);rw[ZT oR,uF] at h;exact h
end
section
variable (x:Rat) (n:Nat) (hx:Bq n x) (hn:n≤2048000000000)
include hx hn
theorem ZX:Con Tryz.prog AN 78 [qI x] (.int .i64 (lO x)):=VH x.num x.den n hx.n hx.d hn
theorem oT:Con Tryz.prog AN 59 [qI x] (.str (frText x.num x.den)):=mV x.num x.den n hx.n hx.d hn
theorem ZY:Con Tryz.prog AN 27 [qZ x] (.str (frText x.num x.den)):=kx x.num x.den n hx.n hx.d hn
end
theorem ZZ (z:Int) (n:Nat) (hz:Bt z n) (hn:n≤2048000000000):Con Tryz.prog AN 94 [aV z] (qI (z:Rat)):=Kp z n hz hn
theorem Z0 {a b:Int} (h:b≠0):∃x:Rat,frN a b=x.num∧frD a b=(x.den:Int):=⟨Rat.divInt a b,lM h,lN h⟩
theorem d9 (t:List UInt8):∃x:Rat,(bF t).1=x.num∧(bF t).2.1=(x.den:Int)∧Bq 4000 x:=by
 have key:∃x:Rat,(bF t).1=x.num∧(bF t).2.1=(x.den:Int):=by
  unfold bF;split
  ·split
   ·rename_i h2;split
    ·rename_i h3;split
     ·exact Z0 (kd h2.1 h2.2 h3.2)
     ·exact⟨0,rfl,rfl⟩
    ·exact⟨0,rfl,rfl⟩
   ·exact⟨0,rfl,rfl⟩
  ·split
   ·split
    ·exact⟨(parseZ t:Rat),rfl,rfl⟩
    ·exact⟨0,rfl,rfl⟩
   ·exact⟨0,rfl,rfl⟩
 obtain⟨x,h1,h2⟩:=key;obtain⟨_,b1,b2⟩:=To t;exact⟨x,h1,h2,Bq.of (h1 ▸ b1) (h2 ▸ b2)⟩
noncomputable def qR (t:List UInt8):Rat:=(d9 t).choose
def cR (t:List UInt8):Int:=(bF t).2.2.1
def aR (t:List UInt8):Int:=(bF t).2.2.2
theorem uH (t:List UInt8):Bq 4000 (qR t):=(d9 t).choose_spec.2.2
theorem oU (t:List UInt8) (hs:t.length≤9223372036854775807):Con Tryz.prog AN 45 [.str t] (.tup [qI (qR t),flt (cR t) (aR t)]):=by
 have h:=YE t hs;have e:bY (bF t).1 (bF t).2.1=qI (qR t):=congr (congrArg bY (d9 t).choose_spec.1) (d9 t).choose_spec.2.1;rw[e] at h;exact h
theorem uI (t:List UInt8) (hs:t.length≤9223372036854775807):Con Tryz.prog AN 25 [.str t] (.tup [qZ (qR t),flt (cR t) (aR t)]):=by
 have h:=zaw t hs;have e:cE (bF t).1 (bF t).2.1=qZ (qR t):=congr (congrArg cE (d9 t).choose_spec.1) (d9 t).choose_spec.2.1;rw[e] at h;exact h
theorem Z1 (x:Rat):(qZ x).one=false:=rfl
theorem Z2 (x:Rat):(qZ x).isAgg=true:=rfl
theorem Z3 (x:Rat):(qZ x).cells=[hZ x.num,lZ x.num,hZ (x.den:Int),lZ (x.den:Int)]:=rfl
theorem uJ (x:Rat):D.agg [hI x.num,lI x.num,hI ((x.den:Int)-1),lI ((x.den:Int)-1)]=qI x:=rfl
theorem Z5 (x:Rat):D.agg [hZ x.num,lZ x.num,hZ (x.den:Int),lZ (x.den:Int)]=qZ x:=rfl
theorem Z6:D.agg [.bool false,.list 173 1 [],.bool false,.list 173 1 []]=qI 0:=by
 have e:digs 4294967296 0=[]:=by rw[digs];simp
 unfold qI bY;rw[show ((0:Rat).num).natAbs=0 from rfl,show (((0:Rat).den:Int)-1).natAbs=0 from rfl,e];rfl
abbrev Zm:=Rat×Mp.Mo
def tZ (t:Zm):D:=.agg [hZ t.1.num,lZ t.1.num,hZ (t.1.den:Int),lZ (t.1.den:Int),.list 3 1 (t.2.map (D.int .i64))]
abbrev TZ:Nat:=73
abbrev MZ (l:Mp.TL):D:=.list TZ 5 (l.map tZ)
theorem vk {l:List Int}{i:Nat} (h:i<l.length):(l.map (D.int .i64)).getD i default = .int .i64 (l.getD i 0):=by simp[h]
theorem zaZ (G:FuncId→List D→D→Prop) (dd:Option Nat) (T:Nat) (sz:Nat) (z:D) (n:Nat) (parts:List (Nat×Opd)) (g:Option (Nat×Bool)) (K:St→Prop) (s:St):step G ⟨dd,.buildSliceP T sz z n parts,g⟩ K s=fin dd K (ev (.buildSliceP T sz z n parts) (dd.getD 0) s):=rfl
theorem za0 (T:Nat) (sz:Nat) (z:D) (n:Nat) (parts:List (Nat×Opd)) (id:Nat) (s:St):ev (.buildSliceP T sz z n parts) id s=(match s.m id with
  |none=>match eu sz (List.replicate n z) s.r parts with
   |some l=>some (true,.slice id 0 n,⟨s.r,upd s.m id (some ⟨T,sz,.row l,false⟩)⟩)
   |none=>none
  |some _=>none):=rfl
def csZ:=an @zaZ (an @za0 (an @eu.eq_1 (an @eu.eq_2 (an @Z1 (an @Z2 (an @Z3 (an @Z5 (an @List.length_map.{0,0} (an @Nat.mul_one (an @and_false (an @false_and (an @Nat.zero_add csM))))))))))))
open Go.RowKit Go.Proofs.YtbnhgnhgbhjkcaaGreat.Sy
abbrev J (n:Int):D:=.int .i64 n
abbrev Tm:=Rat×Int×Int×Int×Int
def tI (t:Tm):D:=.agg [hI t.1.num,lI t.1.num,hI ((t.1.den:Int)-1),lI ((t.1.den:Int)-1),J t.2.1,J t.2.2.1,J t.2.2.2.1,J t.2.2.2.2]
abbrev TT:Nat:=145
abbrev LM (l:List Tm):D:=.list TT 8 (l.map tI)
theorem yG (t:Tm):(tI t).isAgg=true:=rfl
theorem yH (t:Tm):(tI t).one=false:=rfl
theorem yI (t:Tm):(tI t).cells.length=8:=rfl
theorem yJ (t:Tm):(tI t).cells.all D.one=true:=rfl
theorem yK (t:Tm):(AV.p (tI t)).isAgg=some true:=rfl
theorem yL (t:Tm):(AV.p (tI t)).get 0 8 8 true=some (.p (tI t)):=rfl
theorem yM (l:List Tm) (i:Nat) (x:Tm):(l.map tI).set i (tI x)=(l.set i x).map tI:=List.map_set.symm
theorem ch {l:List Tm}{i:Nat} (h:i<l.length):(l.map tI).getD i default=tI (Sy.at_ l i):=by simp[Sy.at_,h]
def csU:=an @yG (an @yH (an @yI (an @yJ (an @yK (an @yL (an @yM (an @List.length_map.{0,0} (@rK))))))))
theorem yN (l:List Tm) (a b n:Nat) (cf:D) (h1:a+n≤b) (h2:b+n≤l.length) (h3:l.length≤1000000000):dD Tryz.prog AN 154 0 [LM l,J a,J b,J n,cf] TT 8 (l.map tI) (.tup []) ((swR l a b n).map tI):=by
 refine zn.conL rfl (by simp) rfl (by simp) ?_;(repeat first|simp only[kV,simprocAttr,csU,fe]|refine aN ?_);refine kp [0,1,2,3,10] ?_;(repeat first|simp only[kV,simprocAttr,csU,fe]|refine aN ?_);refine aL (ι:=Nat) (fun k=>k≤n) (fun k=>⟨ar [(0,.slice 999999 0 l.length),(1,.p (J a)),(2,.p (J b)),(3,.p (J n)),(10,.p (J k))],ay [(999999,⟨TT,8,.row ((swR l a b k).map tI),false⟩)]⟩) (fun k=>n-k) 0 (by omega) (Sub.toG [0,1,2,3,10] []) ?_;intro k hk;have hL:=fY l a b k;by_cases h:k<n
 ·have hI:(k:Int)<(n:Int):=by omega
  have e1:(a:Int)+(k:Int)=((a+k:Nat):Int):=by omega
  have e2:(b:Int)+(k:Int)=((b+k:Nat):Int):=by omega
  have g1:=ch (l:=swR l a b k) (i:=a+k) (by omega);have g2:=ch (l:=swR l a b k) (i:=b+k) (by omega);(repeat first|with_reducible refine kp [0,1,2,3,10,13] ?_|simp only[kV,simprocAttr,csU,hI]|refine aN ?_);(try simp only[kV,simprocAttr,csU,hI,e1,e2,g1,g2,hL]);refine ulk ?_;(repeat first|with_reducible refine kp [0,1,2,3,10] ?_|simp only[kV,simprocAttr,csU,hI,e1,e2,g1,g2,hL]|refine aN ?_);exact⟨k+1,h,(Sub.toG [0,1,2,3,10] []),by omega⟩
 ·have hI:¬ (k:Int)<(n:Int):=by omega
  obtain rfl:k=n:=by omega
  (repeat first|with_reducible refine kp [0,1,2,3,10,13] ?_|simp only[kV,simprocAttr,csU,hI]|refine aN ?_);refine ulk ?_;(repeat first|simp only[kV,simprocAttr,csU,hI]|refine aN ?_);exact ResLt.unit _
theorem yO (l:List Tm) (a m b:Nat) (cf:D) (hn:l≠[]) (h0:a<m) (h1:m<b) (h2:b≤l.length) (h3:l.length≤1000000000):dD Tryz.prog AN 153 0 [LM l,J a,J m,J b,cf] TT 8 (l.map tI) (.tup []) ((dc l a m b).map tI):=by
 obtain⟨i0,hi0⟩:∃i0,i0=m-a:=⟨_,rfl⟩
 obtain⟨j0,hj0⟩:∃j0,j0=b-m:=⟨_,rfl⟩
 have e1:(m:Int)-(a:Int)=(i0:Int):=by omega
 have e2:(b:Int)-(m:Int)=(j0:Int):=by omega
 have lent:∀(q:List Tm) (x y n:Nat),q.length=l.length→x+n≤y→y+n≤q.length→dk Tryz.prog AN 154 0 [LM q,J x,J y,J n,cf] TT 8 (q.map tI) (.tup []) ((swR q x y n).map tI):=fun q x y n hq k1 k2 =>
  ⟨by decide,by decide,rfl,by simp[fY],fun e=>absurd e (by
   intro e;have:q=[]:=by simpa using e
   rw[this] at hq;exact hn (List.eq_nil_of_length_eq_zero hq.symm)),fun _=>yN q x y n cf k1 k2 (by omega)⟩
 have hne:∀q:List Tm,q.length=l.length→¬ q.map tI=[]:=fun q hq e=>by
  have:q=[]:=by simpa using e
  rw[this] at hq;exact hn (List.eq_nil_of_length_eq_zero hq.symm)
 refine zF.conL rfl (by simp) rfl (by simp) ?_;(repeat first|simp only[kV,simprocAttr,csU,fe,e1,e2]|refine aN ?_);refine kp [0,2,3,4,10] ?_;(repeat first|simp only[kV,simprocAttr,csU,fe,e1,e2]|refine aN ?_);refine kp [0,2,4,10,11] ?_;(repeat first|simp only[kV,simprocAttr,csU,fe,e1,e2]|refine aN ?_);refine aL (ι:=Nat×Nat×List Tm) (fun s=>0<s.1∧s.1≤m-a∧0<s.2.1∧s.2.1≤b-m∧s.2.2.length=l.length∧∀q,Rot s.2.2 q (m-s.1) m (m+s.2.1)→Rot l q a m b) (fun s=>⟨ar [(0,.slice 999999 0 l.length),(2,.p (J m)),(4,.p cf),(10,.p (J s.1)),(11,.p (J s.2.1))],ay [(999999,⟨TT,8,.row (s.2.2.map tI),false⟩)]⟩) (fun s=>s.1+s.2.1) (i0,j0,l) ⟨by simp only;omega,by simp only;omega,by simp only;omega,by simp only;omega,rfl,fun q hq=>by
  simp only at hq
  rwa[show m-i0=a by omega,show m+j0=b by omega] at hq⟩ (Sub.toG [0,2,4,10,11] []) ?_
 rintro⟨i,j,q⟩ ⟨hi,hi2,hj,hj2,hq,hR⟩;simp only at hi hi2 hj hj2 hq hR;have e3:(m:Int)-(i:Int)=((m-i:Nat):Int):=by omega
 have hq0:=hne q hq;by_cases h:i=j
 ·subst h;have hr:swR q (m-i) m i=dc l a m b:=(hR _ (Rot.of_swp (by rw[show m-(m-i)=i by omega];exact lf q (by omega) (by omega) i (Nat.le_refl _)) (by omega) (by omega) (by omega))).eq (by omega) (by omega) h2;have c1:=(lent q (m-i) m i hq (by omega) (by omega)).x;rw[hr] at c1;(repeat first|with_reducible refine kp [0,2,4,10,11,20] ?_|simp only[kV,simprocAttr,csU]|refine aN ?_);(try simp only[kV,simprocAttr,csU,e3,hq,hq0]);refine ulk ?_;(repeat first|with_reducible refine kp [0,2,4,10] ?_|simp only[kV,simprocAttr,csU,e3,hq,hq0]|refine aN ?_);refine⟨_,_,c1,?_⟩;(repeat first|simp only[kV,simprocAttr,csU,hq0]|refine aN ?_);exact ResLt.unit _
 ·have hI:¬ (i:Int)=(j:Int):=by omega
  by_cases g:j<i
  ·have hgI:(j:Int)<(i:Int):=by omega
   have c1:=(lent q (m-i) m j hq (by omega) (by omega)).x;have e4:(i:Int)-(j:Int)=((i-j:Nat):Int):=by omega
   have hn2:¬ (swR q (m-i) m j).map tI=[]:=hne _ (by rw[fY,hq]);(repeat first|with_reducible refine kp [0,2,4,10,11,20] ?_|simp only[kV,simprocAttr,csU,hI]|refine aN ?_);(try simp only[kV,simprocAttr,csU,hI,hgI]);refine ulk ?_;(repeat first|with_reducible refine kp [0,2,4,10,11,23] ?_|simp only[kV,simprocAttr,csU,hI,hgI]|refine aN ?_);(try simp only[kV,simprocAttr,csU,e3,e4,hq,hq0]);refine ulk ?_;(repeat first|simp only[kV,simprocAttr,csU,e3,e4,hq,hq0]|refine aN ?_);refine⟨_,_,c1,?_⟩;(repeat first|with_reducible refine kp [0,2,4,10,11] ?_|simp only[kV,simprocAttr,csU,e4,hq0,fY,hq]|refine aN ?_);exact⟨(i-j,j,swR q (m-i) m j),⟨by simp only;omega,by simp only;omega,hj,hj2,by simp only;rw[fY,hq],fun p hp=>hR p (Rot.gt (b:=m+j) (by rw[show m+j-m=j by omega];exact lf q (by omega) (by omega) j (Nat.le_refl _)) (by omega) (by omega) (by
    simp only at hp
    rwa[show m-i+(m+j-m)=m-(i-j) by omega]))⟩,(Sub.toG [0,2,4,10,11] []),by simp only;omega⟩
  ·have hgI:¬ (j:Int)<(i:Int):=by omega
   have c1:=(lent q (m-i) (m+j-i) i hq (by omega) (by omega)).x;have e4:(j:Int)-(i:Int)=((j-i:Nat):Int):=by omega
   have e5:(m:Int)+(j:Int)-(i:Int)=((m+j-i:Nat):Int):=by omega
   (repeat first|with_reducible refine kp [0,2,4,10,11,20] ?_|simp only[kV,simprocAttr,csU,hI]|refine aN ?_);(try simp only[kV,simprocAttr,csU,hI,hgI]);refine ulk ?_;(repeat first|with_reducible refine kp [0,2,4,10,11,23] ?_|simp only[kV,simprocAttr,csU,hI,hgI]|refine aN ?_);(try simp only[kV,simprocAttr,csU,e3,e5,hq,hq0]);refine ulk ?_;(repeat first|simp only[kV,simprocAttr,csU,e3,e5,hq,hq0]|refine aN ?_);refine⟨_,_,c1,?_⟩;(repeat first|with_reducible refine kp [0,2,4,10,11] ?_|simp only[kV,simprocAttr,csU,e4,hq0,fY,hq]|refine aN ?_);exact⟨(i,j-i,swR q (m-i) (m+j-i) i),⟨hi,hi2,by simp only;omega,by simp only;omega,by simp only;rw[fY,hq],fun p hp=>hR p (Rot.lt (b:=m+j) (by rw[show m-(m-i)=i by omega];exact lf q (by omega) (by omega) i (Nat.le_refl _)) (by omega) (by omega) (by
    simp only at hp
    rwa[show m+j-(m-(m-i))=m+(j-i) by omega]))⟩,(Sub.toG [0,2,4,10,11] []),by simp only;omega⟩
end Go.Proofs.YtbnhgnhgbhjkcaaGreat.M
