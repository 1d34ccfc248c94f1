/- Lemmas. -/
import Derived.Test.YtbnhgnhgbhjkcaaGreatK32
import Derived.Test.YtbnhgnhgbhjkcaaGreatK38
import Derived.Test.YtbnhgnhgbhjkcaaGreatK24
import Derived.Test.YtbnhgnhgbhjkcaaGreatK22
import Derived.Test.YtbnhgnhgbhjkcaaGreatK25
import Derived.Test.YtbnhgnhgbhjkcaaGreatK1
set_option linter.defProp false
set_option linter.unusedSimpArgs false
set_option linter.unusedVariables false
namespace Go.Proofs.YtbnhgnhgbhjkcaaGreat.M
open Go.RowKit
theorem zml (t:List UInt8) (w:World) (hok:cq t=true) (hl:(body t).length≤1000) :
  Calls Tryz.prog 65 #[.string (bs t)] w (Z4.RetZ w (parseZ t)):=by
 have e:parseZ t=d5 t:=by unfold parseZ;rw[if_pos hok,if_pos hl]
 have h1:=cI t;rw[e] at h1 ⊢;exact Z4.zread_any t w (by have:=gO t;split at this<;>omega) (lJ hok).1.digs (h1.sm (by omega))
theorem u7 (t:List UInt8) (sg:Bool) (hs:t.length≤9223372036854775807):Con Tryz.prog AN 63 [.str t,.bool sg,.bool sg] (.tup [.int .i64 (av sg t).1,.bool (av sg t).2]):=zdK fun base w v1 v2 v3 hav h1 h2 h3=>by
 cases gB h1;cases gC h2;cases gC h3;exact (Z4.word_any t sg w hs).mono fun e w' h=>⟨_,h.1,fun _ _=>jk (.int _ _) (.bool _),h.2⟩
theorem jA (t:List UInt8) (hs:t.length≤9223372036854775807):Con Tryz.prog AN 64 [.str t] (.int .i64 (body t).length):=fQ fun base w v1 hav h1=>by
 cases gB h1;exact (Z4.digitsOf_any t w hs).mono fun e w' h=>⟨_,h.1,fun _ _ => .int _ _,h.2⟩
theorem lN (t:List UInt8) (hok:cq t=true) (hl:(body t).length≤1000):Con Tryz.prog AN 65 [.str t] (aF (parseZ t)):=fQ fun base w v1 hav h1=>by
 cases gB h1;exact (zml t w hok hl).mono fun e w' ⟨x,h1,h2,h3⟩=>⟨_,h1,fun _ hav=>zdN h2 hav,h3⟩
theorem oT (n:Int) (hn:0≤n∧n≤9223372036854775807):Con Tryz.prog AN 62 [.int .i64 n] (aF n):=by
 obtain⟨m,rfl⟩:=Int.eq_ofNat_of_zero_le hn.1;exact (lH m (by omega)).mono (by simp)
theorem jB (a b:Int) (n:Nat) (ba:Bt a n) (bb:Bt b n) (hn:n≤4147200000000):Con Tryz.prog AN 69 [aF a,aF b] (aF (a*b)):=by
 have:=bR ba;have:=bR bb;exact (mo a b (by omega)).mono (by simp)
theorem zmm (a b:Int) (n:Nat) (ba:Bt a n) (bb:Bt b n) (hn:n≤4147200000000) (hb0:b≠0):Con Tryz.prog AN 97 [aF a,aF b] (.tup [bT (frN a b) (frD a b),flt 0 0]):=(wX a b n ba bb (by omega) hb0).mono (by simp)
theorem zmn (a b:Int) (n:Nat) (ba:Bt a n) (bb:Bt b n) (hn:n≤4147200000000):Con Tryz.prog AN 98 [aF a,aF b] (aF (a+b)):=by
 have:=bR ba;have:=bR bb;exact (oI a b (by omega) (by omega)).mono (by simp)
theorem zmo (a:Int) (n:Nat) (ba:Bt a n) (hn:n≤4147200000000):Con Tryz.prog AN 77 [aF a] (.int .i64 (bw a)):=(rF a).mono (by simp)
set_option maxHeartbeats 2000000
theorem Z9 (a b c d:Int) (n:Nat) (ba:Bt a n) (bb:Bt b n) (bc:Bt c n) (bd:Bt d n) (hn:n≤2048000000000) (hb:0<b) (hd:0<d):Con Tryz.prog AN 112 [ch a b,ch c d] (ch (frN (a*d+c*b) (b*d)) (frD (a*d+c*b) (b*d))):=by
 have h1:Bt (a*d) (n+n):=ba.mul bd;have h2:Bt (c*b) (n+n):=bc.mul bb;have h3:Bt (a*d+c*b) (n+n+1):=h1.add h2;have h4:Bt (b*d) (n+n+1):=(bb.mul bd).mono (by omega);have h5:b*d≠0:=Int.ne_of_gt (Int.mul_pos hb hd);refine K0.con rfl (by simp) ?_;(repeat first|with_reducible refine kp [2,3,4] ?_|simp only[kV,simprocAttr,csM,aq,ar,ax]|refine aN ?_);refine⟨_,cx (f7 c d n bc bd hn),ulc ?_⟩;(repeat first|simp only[kV,simprocAttr,csM,aq,ar]|refine aN ?_);refine⟨_,cx (iV a d n ba bd (by omega)),ulc ?_⟩;(repeat first|simp only[kV,simprocAttr,csM,aq,ar]|refine aN ?_);refine⟨_,cx (f7 a b n ba bb hn),ulc ?_⟩;(repeat first|simp only[kV,simprocAttr,csM,aq,ar]|refine aN ?_);refine⟨_,cx (iV c b n bc bb (by omega)),ulc ?_⟩;(repeat first|simp only[kV,simprocAttr,csM,aq,ar]|refine aN ?_);refine⟨_,cx (mA _ _ (n+n) h1 h2 (by omega)),ulc ?_⟩;(repeat first|simp only[kV,simprocAttr,csM,aq,ar]|refine aN ?_);refine⟨_,cx (f7 a b n ba bb hn),ulc ?_⟩;(repeat first|simp only[kV,simprocAttr,csM,aq,ar]|refine aN ?_);refine⟨_,cx (f7 c d n bc bd hn),ulc ?_⟩;(repeat first|simp only[kV,simprocAttr,csM,aq,ar]|refine aN ?_);refine⟨_,cx (iV b d n bb bd (by omega)),ulc ?_⟩;(repeat first|simp only[kV,simprocAttr,csM,aq,ar]|refine aN ?_);refine⟨_,cx (mq _ _ (n+n+1) h3 h4 (by omega) h5),ulc ?_⟩;(repeat first|with_reducible refine kp [4] ?_|simp only[kV,simprocAttr,csM,aq,ar,ab,ah,af,ac]|refine aN ?_)
theorem m7 (a b:Int) (n:Nat) (ba:Bt a n) (bb:Bt b n) (hn:n≤4147200000000) (hb0:b≠0):Con Tryz.prog AN 66 [aF a,aF b] (bT (frN a b) (frD a b)):=by
 refine LG.con rfl (by simp) ?_;(repeat first|with_reducible refine kp [2,3,4] ?_|simp only[kV,simprocAttr,csM,aq,ar,ax]|refine aN ?_);refine⟨_,cx (zmm a b n ba bb hn hb0),ulc ?_⟩;(repeat first|with_reducible refine kp [4,5] ?_|simp only[kV,simprocAttr,csM,aq,ar,ab,ah,af,ac]|refine aN ?_)
theorem zaa (a b c d:Int) (n:Nat) (ba:Bt a n) (bb:Bt b n) (bc:Bt c n) (bd:Bt d n) (hn:n≤2048000000000) (hb:0<b) (hd:0<d):Con Tryz.prog AN 68 [bT a b,bT c d] (bT (frN (a*d+c*b) (b*d)) (frD (a*d+c*b) (b*d))):=by
 have h1:Bt (a*d) (n+n):=ba.mul bd;have h2:Bt (c*b) (n+n):=bc.mul bb;have h3:Bt (a*d+c*b) (n+n+1):=h1.add h2;have h4:Bt (b*d) (n+n+1):=(bb.mul bd).mono (by omega);have h5:b*d≠0:=Int.ne_of_gt (Int.mul_pos hb hd);refine Lm.con rfl (by simp) ?_;(repeat first|with_reducible refine kp [2,3,4] ?_|simp only[kV,simprocAttr,csM,aq,ar,ax]|refine aN ?_);refine⟨_,cx (jB a d n ba bd (by omega)),ulc ?_⟩;(repeat first|simp only[kV,simprocAttr,csM,aq,ar]|refine aN ?_);refine⟨_,cx (jB c b n bc bb (by omega)),ulc ?_⟩;(repeat first|simp only[kV,simprocAttr,csM,aq,ar]|refine aN ?_);refine⟨_,cx (zmn _ _ (n+n) h1 h2 (by omega)),ulc ?_⟩;(repeat first|simp only[kV,simprocAttr,csM,aq,ar]|refine aN ?_);refine⟨_,cx (jB b d n bb bd (by omega)),ulc ?_⟩;(repeat first|simp only[kV,simprocAttr,csM,aq,ar]|refine aN ?_);refine⟨_,cx (m7 _ _ (n+n+1) h3 h4 (by omega) h5),ulc ?_⟩;(repeat first|with_reducible refine kp [4] ?_|simp only[kV,simprocAttr,csM,aq,ar,ab,ah,af,ac]|refine aN ?_)
theorem zab (a b c d:Int) (n:Nat) (ba:Bt a n) (bb:Bt b n) (bc:Bt c n) (bd:Bt d n) (hn:n≤2048000000000) (hb:0<b) (hd:0<d):Con Tryz.prog AN 86 [ch a b,ch c d] (ch (frN (a*c) (b*d)) (frD (a*c) (b*d))):=by
 have h3:Bt (a*c) (n+n):=ba.mul bc;have h4:Bt (b*d) (n+n):=bb.mul bd;have h5:b*d≠0:=Int.ne_of_gt (Int.mul_pos hb hd);refine K8.con rfl (by simp) ?_;(repeat first|with_reducible refine kp [2,3,4] ?_|simp only[kV,simprocAttr,csM,aq,ar,ax]|refine aN ?_);refine⟨_,cx (iV a c n ba bc (by omega)),ulc ?_⟩;(repeat first|simp only[kV,simprocAttr,csM,aq,ar]|refine aN ?_);refine⟨_,cx (f7 a b n ba bb hn),ulc ?_⟩;(repeat first|simp only[kV,simprocAttr,csM,aq,ar]|refine aN ?_);refine⟨_,cx (f7 c d n bc bd hn),ulc ?_⟩;(repeat first|simp only[kV,simprocAttr,csM,aq,ar]|refine aN ?_);refine⟨_,cx (iV b d n bb bd (by omega)),ulc ?_⟩;(repeat first|simp only[kV,simprocAttr,csM,aq,ar]|refine aN ?_);refine⟨_,cx (mq _ _ (n+n) h3 h4 (by omega) h5),ulc ?_⟩;(repeat first|with_reducible refine kp [4] ?_|simp only[kV,simprocAttr,csM,aq,ar,ab,ah,af,ac]|refine aN ?_)
theorem zac (a b c d:Int) (n:Nat) (ba:Bt a n) (bb:Bt b n) (bc:Bt c n) (bd:Bt d n) (hn:n≤2048000000000) (hb:0<b) (hd:0<d):Con Tryz.prog AN 32 [bT a b,bT c d] (bT (frN (a*c) (b*d)) (frD (a*c) (b*d))):=by
 have h3:Bt (a*c) (n+n):=ba.mul bc;have h4:Bt (b*d) (n+n):=bb.mul bd;have h5:b*d≠0:=Int.ne_of_gt (Int.mul_pos hb hd);refine Lw.con rfl (by simp) ?_;(repeat first|with_reducible refine kp [2,3,4] ?_|simp only[kV,simprocAttr,csM,aq,ar,ax]|refine aN ?_);refine⟨_,cx (jB a c n ba bc (by omega)),ulc ?_⟩;(repeat first|simp only[kV,simprocAttr,csM,aq,ar]|refine aN ?_);refine⟨_,cx (jB b d n bb bd (by omega)),ulc ?_⟩;(repeat first|simp only[kV,simprocAttr,csM,aq,ar]|refine aN ?_);refine⟨_,cx (m7 _ _ (n+n) h3 h4 (by omega) h5),ulc ?_⟩;(repeat first|with_reducible refine kp [4] ?_|simp only[kV,simprocAttr,csM,aq,ar,ab,ah,af,ac]|refine aN ?_)
theorem zad (a b:Int) (n:Nat) (ba:Bt a n) (bb:Bt b n) (hn:n≤2048000000000):Con Tryz.prog AN 78 [ch a b] (.int .i64 (bw a)):=by
 refine Ld.con rfl (by simp) ?_;(repeat first|with_reducible refine kp [1] ?_|simp only[kV,simprocAttr,csM,aq,ar,aZ]|refine aN ?_);refine⟨_,cx (mB a n ba (by omega)),ulc ?_⟩;(repeat first|with_reducible refine kp [2] ?_|simp only[kV,simprocAttr,csM,aq,ar,ab,ah,af,ac]|refine aN ?_)
theorem zae (a b:Int) (n:Nat) (ba:Bt a n) (bb:Bt b n) (hn:n≤2048000000000):Con Tryz.prog AN 40 [bT a b] (.int .i64 (bw a)):=by
 refine LA.con rfl (by simp) ?_;(repeat first|with_reducible refine kp [1] ?_|simp only[kV,simprocAttr,csM,aq,ar,aZ]|refine aN ?_);refine⟨_,cx (zmo a n ba (by omega)),ulc ?_⟩;(repeat first|with_reducible refine kp [2] ?_|simp only[kV,simprocAttr,csM,aq,ar,ab,ah,af,ac]|refine aN ?_)
set_option maxRecDepth 20000
set_option maxHeartbeats 8000000
theorem ze5 (t:List UInt8) (ht:t.length≤9223372036854775807):Con Tryz.prog AN 25 [.str t] (.tup [bT (bx t).1 (bx t).2.1,flt (bx t).2.2.1 (bx t).2.2.2]):=by
 obtain⟨n,hn⟩:∃n,n=(av true t).1:=⟨_,rfl⟩
 obtain⟨ok,hok⟩:∃ok,ok=(av true t).2:=⟨_,rfl⟩
 have hnl:n≤t.length:=by rw[hn];exact jF true t
 have hho:ok=true→cq (t.take n)=true:=by rw[hok,hn];exact wV
 have hFn:=pc (t:=t);have hFw:=pd (t:=t);have hFc:=pf (t:=t);rw[←hn,←hok] at hFn hFw hFc;have hW:=u7 t true ht;rw[←hn,←hok] at hW;refine KN.con rfl (by simp) ?_;(repeat first|with_reducible refine kp [0,2,3] ?_|simp only[kV,simprocAttr,csM,aZ]|refine aN ?_);refine⟨_,cx (oT 1 (by omega)),ulc ?_⟩;(repeat first|with_reducible refine kp [0,2,3,4] ?_|simp only[kV,simprocAttr,csM]|refine aN ?_);cases ok
 ·have hF:=hFn (.inl rfl);refine⟨_,cx (hW),ulc ?_⟩;(repeat first|with_reducible refine kp [0,2,3,4,5,6,7,32] ?_|simp only[kV,simprocAttr,csM]|refine aN ?_);refine ulk ?_;(repeat first|with_reducible refine kp [0,2,3,4,5,6,7,53] ?_|simp only[kV,simprocAttr,csM]|refine aN ?_);refine ulk ?_;(repeat first|with_reducible refine kp [2,3] ?_|simp only[kV,simprocAttr,csM,ab,ah,af,ac]|refine aN ?_);rw[hF]
 ·have hho2:=hho rfl;by_cases hlt:n<t.length
  ·have hltI:(n:Int)<(t.length:Int):=by omega
   by_cases h47:byt t n=47
   ·have hF:=hFc rfl hlt h47;have h47I:(byt t n:Int)=47:=by omega
    obtain⟨k,hk⟩:∃k,k=(av false (t.drop (n+1))).1:=⟨_,rfl⟩
    obtain⟨more,hmore⟩:∃more,more=(av false (t.drop (n+1))).2:=⟨_,rfl⟩
    have hul:(t.drop (n+1)).length=t.length-(n+1):=List.length_drop;have hW2:=u7 (t.drop (n+1)) false (by omega);have hku:k≤(t.drop (n+1)).length:=by rw[hk];exact jF false _
    rw[←hk,←hmore] at hF hW2;have hun:=fun h:more=true=>jK (u:=t.drop (n+1)) (hmore.symm.trans h)
    have hut:=fun h:more=true=>pu (u:=t.drop (n+1)) (hmore.symm.trans h)
    rw[←hk] at hun hut;have hnt2:(t.take n).length≤9223372036854775807:=by simp;omega
    refine⟨_,cx (hW),ulc ?_⟩;(repeat first|with_reducible refine kp [0,2,3,4,5,6,7,32] ?_|simp only[kV,simprocAttr,csM,hltI,h47I]|refine aN ?_);refine ulk ?_;(repeat first|simp only[kV,simprocAttr,csM]|refine aN ?_);cases more
    ·rw[if_neg (by simp)] at hF;refine⟨_,cx (hW2),ulc ?_⟩;(repeat first|with_reducible refine kp [0,2,3,4,5,6,7,8,9,53] ?_|simp only[kV,simprocAttr,csM]|refine aN ?_);refine ulk ?_;(repeat first|with_reducible refine kp [2,3] ?_|simp only[kV,simprocAttr,csM,ab,ah,af,ac]|refine aN ?_);rw[hF]
    ·by_cases hkl:n+1+k<t.length
     ·rw[if_neg (by rintro⟨_,h⟩;omega)] at hF;have hkI:(n:Int)+1+(k:Int)<(t.length:Int):=by omega
      refine⟨_,cx (hW2),ulc ?_⟩;(repeat first|with_reducible refine kp [0,2,3,4,5,6,7,8,9,53] ?_|simp only[kV,simprocAttr,csM,hkI]|refine aN ?_);refine ulk ?_;(repeat first|with_reducible refine kp [2,3] ?_|simp only[kV,simprocAttr,csM,ab,ah,af,ac]|refine aN ?_);rw[hF]
     ·have hkI:¬ (n:Int)+1+(k:Int)<(t.length:Int):=by omega
      have hkk:k=(t.drop (n+1)).length:=by omega
      rw[if_pos ⟨rfl,by omega⟩] at hF;refine⟨_,cx (hW2),ulc ?_⟩;(repeat first|with_reducible refine kp [0,2,3,4,5,6,7,8,9,53] ?_|simp only[kV,simprocAttr,csM,hkI]|refine aN ?_);refine ulk ?_;(repeat first|with_reducible refine kp [0,2,3,4,5,7] ?_|simp only[kV,simprocAttr,csM]|refine aN ?_);by_cases hb1:(body (t.take n)).length≤1000
      ·have hb1I:¬ (1000:Int)<((body (t.take n)).length:Int):=by omega
       by_cases hb2:(t.drop (n+1)).length≤1000
       ·have hb2I:¬ (1000:Int)<(n:Int)+1+(k:Int)-(n:Int)-1:=by omega
        rw[if_pos ⟨hb1,hb2⟩] at hF;have hmn:(n:Int)<(n:Int)+1+(k:Int):=by omega
        have hut2:=hut rfl (by omega);have hbu:(body (t.drop (n+1))).length≤1000:=by rw[gO];omega
        have hunz:=hun rfl (by omega) hb2;refine⟨_,cx (jA (t.take n) hnt2),ulc ?_⟩;(repeat first|with_reducible refine kp [0,2,3,4,5,7,68] ?_|simp only[kV,simprocAttr,csM,hb1I,hb2I]|refine aN ?_);refine ulk ?_;(repeat first|with_reducible refine kp [0,2,3,4,5,7] ?_|simp only[kV,simprocAttr,csM]|refine aN ?_);refine⟨_,cx (lN (t.take n) hho2 hb1),ulc ?_⟩;(repeat first|simp only[kV,simprocAttr,csM]|refine aN ?_);refine⟨_,cx (oT 1 (by omega)),ulc ?_⟩;(repeat first|with_reducible refine kp [0,2,3,4,5,7,10,79] ?_|simp only[kV,simprocAttr,csM,hmn]|refine aN ?_);refine ulk ?_;(repeat first|simp only[kV,simprocAttr,csM]|refine aN ?_);refine⟨_,cx (lN (t.take n) hho2 hb1),ulc ?_⟩;(repeat first|simp only[kV,simprocAttr,csM]|refine aN ?_);refine⟨_,cx (lN (t.drop (n+1)) hut2.1 hbu),ulc ?_⟩;(repeat first|simp only[kV,simprocAttr,csM]|refine aN ?_);refine⟨_,cx (m7 _ _ 4000 (cI _) (cI _) (by omega) hunz),ulc ?_⟩;(repeat first|with_reducible refine kp [0,2,3,4,10] ?_|simp only[kV,simprocAttr,csM]|refine aN ?_);by_cases heq:frText (frN (parseZ (t.take n)) (parseZ (t.drop (n+1)))) (frD (parseZ (t.take n)) (parseZ (t.drop (n+1))))=t
        ·rw[if_pos heq] at hF;refine⟨_,cx (jV _ _ 4000 (jG (cI _)) (jH (cI _)) (by omega)),ulc ?_⟩;(repeat first|with_reducible refine kp [2,3,4,10,93] ?_|simp only[kV,simprocAttr,csM,heq]|refine aN ?_);refine ulk ?_;(repeat first|with_reducible refine kp [2,3,10] ?_|simp only[kV,simprocAttr,csM,ab,ah,af,ac]|refine aN ?_);rw[hF]
        ·rw[if_neg heq] at hF;refine⟨_,cx (jV _ _ 4000 (jG (cI _)) (jH (cI _)) (by omega)),ulc ?_⟩;(repeat first|with_reducible refine kp [2,3,4,10,93] ?_|simp only[kV,simprocAttr,csM,heq]|refine aN ?_);refine ulk ?_;(repeat first|with_reducible refine kp [2,3] ?_|simp only[kV,simprocAttr,csM,ab,ah,af,ac]|refine aN ?_);rw[hF]
       ·have hb2I:(1000:Int)<(n:Int)+1+(k:Int)-(n:Int)-1:=by omega
        rw[if_neg (fun h=>hb2 h.2)] at hF;refine⟨_,cx (jA (t.take n) hnt2),ulc ?_⟩;(repeat first|with_reducible refine kp [0,2,3,4,5,7,68] ?_|simp only[kV,simprocAttr,csM,hb1I,hb2I]|refine aN ?_);refine ulk ?_;(repeat first|with_reducible refine kp [2,3] ?_|simp only[kV,simprocAttr,csM,ab,ah,af,ac]|refine aN ?_);rw[hF]
      ·have hb1I:(1000:Int)<((body (t.take n)).length:Int):=by omega
       rw[if_neg (fun h=>hb1 h.1)] at hF;refine⟨_,cx (jA (t.take n) hnt2),ulc ?_⟩;(repeat first|with_reducible refine kp [0,2,3,4,5,7,68] ?_|simp only[kV,simprocAttr,csM,hb1I]|refine aN ?_);refine ulk ?_;(repeat first|with_reducible refine kp [2,3] ?_|simp only[kV,simprocAttr,csM,ab,ah,af,ac]|refine aN ?_);rw[hF]
   ·have hF:=hFn (.inr ⟨hlt,h47⟩);have h47I:¬ (byt t n:Int)=47:=by omega
    refine⟨_,cx (hW),ulc ?_⟩;(repeat first|with_reducible refine kp [0,2,3,4,5,6,7,32] ?_|simp only[kV,simprocAttr,csM,hltI,h47I]|refine aN ?_);refine ulk ?_;(repeat first|with_reducible refine kp [0,2,3,4,5,6,7,53] ?_|simp only[kV,simprocAttr,csM,hltI]|refine aN ?_);refine ulk ?_;(repeat first|with_reducible refine kp [2,3] ?_|simp only[kV,simprocAttr,csM,ab,ah,af,ac]|refine aN ?_);rw[hF]
  ·have hltI:¬ (n:Int)<(t.length:Int):=by omega
   have hF:=hFw rfl (by omega);have hnn:n=t.length:=by omega
   have hnt:t.take n=t:=List.take_of_length_le (by omega);have hnt2:(t.take n).length≤9223372036854775807:=by simp;omega
   refine⟨_,cx (hW),ulc ?_⟩;(repeat first|with_reducible refine kp [0,2,3,4,5,6,7,32] ?_|simp only[kV,simprocAttr,csM,hltI]|refine aN ?_);refine ulk ?_;(repeat first|with_reducible refine kp [0,2,3,4,5,6,7,53] ?_|simp only[kV,simprocAttr,csM,hltI]|refine aN ?_);refine ulk ?_;(repeat first|with_reducible refine kp [0,2,3,4,5,7] ?_|simp only[kV,simprocAttr,csM,hltI]|refine aN ?_);by_cases hb:(body t).length≤1000
   ·rw[if_pos hb] at hF;have hb1I:¬ (1000:Int)<((body t).length:Int):=by omega
    have hb2I:¬ (1000:Int)<0-1:=by omega
    have hmn:¬ (n:Int)<(n:Int):=by omega
    rw[hnt] at hho2;have hpc:cO t=0:=by unfold cO;rw[if_pos hho2,if_pos hb]
    have htx:frText (parseZ t) 1=t:=by unfold frText;rw[if_pos rfl];exact rZ hpc
    rw[hnt];refine⟨_,cx (jA t (by omega)),ulc ?_⟩;(repeat first|with_reducible refine kp [0,2,3,4,5,7,68] ?_|simp only[kV,simprocAttr,csM,hb1I,hb2I,Int.sub_self]|refine aN ?_);(try simp only[kV,simprocAttr,csM,hnt]);refine ulk ?_;(repeat first|with_reducible refine kp [0,2,3,4,5,7] ?_|simp only[kV,simprocAttr,csM,hnt]|refine aN ?_);refine⟨_,cx (lN t hho2 hb),ulc ?_⟩;(repeat first|simp only[kV,simprocAttr,csM]|refine aN ?_);refine⟨_,cx (oT 1 (by omega)),ulc ?_⟩;(repeat first|with_reducible refine kp [0,2,3,4,5,7,10,79] ?_|simp only[kV,simprocAttr,csM,hmn,Int.lt_irrefl]|refine aN ?_);refine ulk ?_;(repeat first|with_reducible refine kp [0,2,3,4,10] ?_|simp only[kV,simprocAttr,csM]|refine aN ?_);refine⟨_,cx (jV _ _ 4000 (cI _) (f6) (by omega)),ulc ?_⟩;(repeat first|with_reducible refine kp [2,3,4,10,93] ?_|simp only[kV,simprocAttr,csM,htx]|refine aN ?_);refine ulk ?_;(repeat first|with_reducible refine kp [2,3,10] ?_|simp only[kV,simprocAttr,csM,ab,ah,af,ac]|refine aN ?_);rw[hF]
   ·rw[if_neg hb] at hF;have hb1I:(1000:Int)<((body t).length:Int):=by omega
    rw[hnt];refine⟨_,cx (jA t (by omega)),ulc ?_⟩;(repeat first|with_reducible refine kp [0,2,3,4,5,7,68] ?_|simp only[kV,simprocAttr,csM,hb1I]|refine aN ?_);refine ulk ?_;(repeat first|with_reducible refine kp [2,3] ?_|simp only[kV,simprocAttr,csM,ab,ah,af,ac]|refine aN ?_);rw[hF]
theorem Yd {a b:Int} (h:b≠0):0<frD a b:=by
 have hg:=vc (a:=a) h;have hd:(Int.gcd a b:Int)*(b / (Int.gcd a b:Int))=b:=Int.mul_ediv_cancel' (Int.gcd_dvd_right ..);have hne:b / (Int.gcd a b:Int)≠0:=by
  intro e;rw[e,Int.mul_zero] at hd;exact h hd.symm
 unfold frD;split<;>omega
theorem Ye (t:List UInt8):0<(bx t).2.1∧Bt (bx t).1 4000∧Bt (bx t).2.1 4000:=by
 unfold bx;split
 ·split
  ·rename_i h2;split
   ·rename_i h3;split
    ·exact⟨Yd (jK h2.1 h2.2 h3.2),jG (cI _),jH (cI _)⟩
    ·exact⟨Int.zero_lt_one,fX _,f6⟩
   ·exact⟨Int.zero_lt_one,fX _,f6⟩
  ·exact⟨Int.zero_lt_one,fX _,f6⟩
 ·split
  ·split
   ·exact⟨Int.zero_lt_one,cI _,f6⟩
   ·exact⟨Int.zero_lt_one,fX _,f6⟩
  ·exact⟨Int.zero_lt_one,fX _,f6⟩
theorem oe {a b:Int} (h:b≠0):(0:Int)<Int.gcd a b:=by
 have:Int.gcd a b≠0:=fun e=>h (Int.gcd_eq_zero_iff.1 e).2
 omega
theorem kY {a b:Int} (h:b≠0):b / (Int.gcd a b:Int)<0↔b<0:=by
 have hg:=oe (a:=a) h;constructor
 ·intro hh;rcases Int.lt_or_le b 0 with h1 | h1
  ·exact h1
  ·have:=Int.ediv_nonneg h1 (Int.le_of_lt hg);omega
 ·intro hh;exact Int.ediv_neg_of_neg_of_pos hh hg
theorem og {a b:Int} (h:b≠0):frN a b=(Rat.divInt a b).num:=by
 have hg:=oe (a:=a) h;have hd:(Int.gcd a b:Int)∣a:=Int.gcd_dvd_left ..;unfold frN;rw[Rat.num_divInt,Int.gcd_comm b a];by_cases hb:b<0
 ·rw[if_pos ((kY h).2 hb),Int.sign_eq_neg_one_of_neg hb,Int.neg_mul,Int.one_mul,Int.neg_ediv_of_dvd hd]
 ·rw[if_neg (fun e=>hb ((kY h).1 e)),Int.sign_eq_one_of_pos (by omega),Int.one_mul]
theorem oh {a b:Int} (h:b≠0):frD a b=((Rat.divInt a b).den:Int):=by
 have hg:=oe (a:=a) h;have hd:(Int.gcd a b:Int)∣b:=Int.gcd_dvd_right ..;unfold frD;rw[Rat.den_divInt,if_neg h,Int.gcd_comm b a];by_cases hb:b<0
 ·rw[if_pos ((kY h).2 hb),←Int.neg_ediv_of_dvd hd,Int.natCast_ediv];congr 1;omega
 ·rw[if_neg (fun e=>hb ((kY h).1 e)),Int.natCast_ediv];congr 1;omega
theorem tH (x y:Rat):Rat.divInt (x.num*y.den+y.num*x.den) ((x.den:Int)*y.den)=x+y:=by
 rw[Rat.add_def',←Rat.divInt_ofNat,Int.natCast_mul]
theorem tJ (x y:Rat):Rat.divInt (x.num*y.num) ((x.den:Int)*y.den)=x*y:=by
 rw[Rat.mul_def',←Rat.divInt_ofNat,Int.natCast_mul]
theorem eA (x:Rat):(0:Int)<x.den:=by have:=x.den_pos;omega
theorem Bq.n {n:Nat}{x:Rat} (h:Bq n x):Bt x.num n:=h.1
theorem Bq.d {n:Nat}{x:Rat} (h:Bq n x):Bt (x.den:Int) n:=by have:=h.2;unfold Bt;simpa using this
theorem Bq.of {n:Nat}{x:Rat} (h1:Bt x.num n) (h2:Bt (x.den:Int) n):Bq n x:=⟨h1,by unfold Bt at h2;simpa using h2⟩
def qI (x:Rat):D:=ch x.num x.den
def qZ (x:Rat):D:=bT x.num x.den
theorem tK {a b:Int} (h:b≠0):ch (frN a b) (frD a b)=qI (Rat.divInt a b):=by rw[og h,oh h];rfl
theorem tL {a b:Int} (h:b≠0):bT (frN a b) (frD a b)=qZ (Rat.divInt a b):=by rw[og h,oh h];rfl
theorem kZ {x y:Rat}:((x.den:Int)*y.den)≠0:=Int.ne_of_gt (Int.mul_pos (eA x) (eA y))
def fl (x:Rat):Int:=bw x.num
theorem jm {x:Rat}:fl x=0↔x=0:=by
 unfold fl bw;rw[←Rat.num_eq_zero];(repeat' split)<;>omega
section
variable (x y:Rat) (n:Nat) (hx:Bq n x) (hy:Bq n y) (hn:n≤2048000000000)
include hx hy hn
theorem zen:Con Tryz.prog AN 112 [qI x,qI y] (qI (x+y)):=by
 have h:=Z9 x.num x.den y.num y.den n hx.n hx.d hy.n hy.d hn (eA x) (eA y);rw[tK kZ,tH] at h;exact h
theorem zeo:Con Tryz.prog AN 86 [qI x,qI y] (qI (x*y)):=by
 have h:=zab x.num x.den y.num y.den n hx.n hx.d hy.n hy.d hn (eA x) (eA y);rw[tK kZ,tJ] at h;exact h
theorem zep:Con Tryz.prog AN 68 [qZ x,qZ y] (qZ (x+y)):=by
 have h:=zaa x.num x.den y.num y.den n hx.n hx.d hy.n hy.d hn (eA x) (eA y);rw[tL kZ,tH] at h;exact h
theorem zeq:Con Tryz.prog AN 32 [qZ x,qZ y] (qZ (x*y)):=by
 have h:=zac x.num x.den y.num y.den n hx.n hx.d hy.n hy.d hn (eA x) (eA y);rw[tL kZ,tJ] at h;exact h
end
section
variable (x:Rat) (n:Nat) (hx:Bq n x) (hn:n≤2048000000000)
include hx hn
theorem zer:Con Tryz.prog AN 78 [qI x] (.int .i64 (fl x)):=zad x.num x.den n hx.n hx.d hn
theorem k9:Con Tryz.prog AN 40 [qZ x] (.int .i64 (fl x)):=zae x.num x.den n hx.n hx.d hn
theorem zes:Con Tryz.prog AN 59 [qI x] (.str (frText x.num x.den)):=mr x.num x.den n hx.n hx.d hn
theorem zet:Con Tryz.prog AN 27 [qZ x] (.str (frText x.num x.den)):=jV x.num x.den n hx.n hx.d hn
end
theorem zeu {a b:Int} (h:b≠0):∃x:Rat,frN a b=x.num∧frD a b=(x.den:Int):=⟨Rat.divInt a b,og h,oh h⟩
theorem fp (t:List UInt8):∃x:Rat,(bx t).1=x.num∧(bx t).2.1=(x.den:Int)∧Bq 4000 x:=by
 have key:∃x:Rat,(bx t).1=x.num∧(bx t).2.1=(x.den:Int):=by
  unfold bx;split
  ·split
   ·rename_i h2;split
    ·rename_i h3;split
     ·exact zeu (jK h2.1 h2.2 h3.2)
     ·exact⟨0,rfl,rfl⟩
    ·exact⟨0,rfl,rfl⟩
   ·exact⟨0,rfl,rfl⟩
  ·split
   ·split
    ·exact⟨(parseZ t:Rat),rfl,rfl⟩
    ·exact⟨0,rfl,rfl⟩
   ·exact⟨0,rfl,rfl⟩
 obtain⟨x,h1,h2⟩:=key;obtain⟨_,b1,b2⟩:=Ye t;exact⟨x,h1,h2,Bq.of (h1 ▸ b1) (h2 ▸ b2)⟩
noncomputable def qR (t:List UInt8):Rat:=(fp t).choose
def cR (t:List UInt8):Int:=(bx t).2.2.1
def aR (t:List UInt8):Int:=(bx t).2.2.2
theorem zev (t:List UInt8):Bq 4000 (qR t):=(fp t).choose_spec.2.2
theorem tM (t:List UInt8) (hs:t.length≤9223372036854775807):Con Tryz.prog AN 45 [.str t] (.tup [qI (qR t),flt (cR t) (aR t)]):=by
 have h:=zc2 t hs;have e:ch (bx t).1 (bx t).2.1=qI (qR t):=congr (congrArg ch (fp t).choose_spec.1) (fp t).choose_spec.2.1;rw[e] at h;exact h
theorem tN (t:List UInt8) (hs:t.length≤9223372036854775807):Con Tryz.prog AN 25 [.str t] (.tup [qZ (qR t),flt (cR t) (aR t)]):=by
 have h:=ze5 t hs;have e:bT (bx t).1 (bx t).2.1=qZ (qR t):=congr (congrArg bT (fp t).choose_spec.1) (fp t).choose_spec.2.1;rw[e] at h;exact h
theorem zew (x:Rat):(qZ x).one=false:=rfl
theorem zex (x:Rat):(qZ x).isAgg=true:=rfl
theorem zey (x:Rat):(qZ x).cells=[hZ x.num,lZ x.num,hZ (x.den:Int),lZ (x.den:Int)]:=rfl
theorem zez (x:Rat):D.agg [hZ x.num,lZ x.num,hZ (x.den:Int),lZ (x.den:Int)]=qZ x:=rfl
end Go.Proofs.YtbnhgnhgbhjkcaaGreat.M
