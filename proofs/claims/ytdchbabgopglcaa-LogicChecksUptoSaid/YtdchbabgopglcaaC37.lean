/- Lemmas. -/
import Derived.Test.YtdchbabgopglcaaC21
import Derived.Test.YtdchbabgopglcaaC18
import Derived.Test.YtdchbabgopglcaaC36
set_option linter.defProp false
set_option linter.unusedSimpArgs false
set_option linter.unusedVariables false
namespace Go.Proofs.Ytdchbabgopglcaa.M
open Go.RowKit
set_option maxRecDepth 20000
set_option maxHeartbeats 8000000
theorem OS (t:List UInt8) (ht:t.length≤9223372036854775807):Con Try.prog AN 30 [.str t] (.tup [cB (bp t).1 (bp t).2.1,flt (bp t).2.2.1 (bp t).2.2.2]):=by
 obtain⟨n,hn⟩:∃n,n=(ar true t).1:=⟨_,rfl⟩
 obtain⟨ok,hok⟩:∃ok,ok=(ar true t).2:=⟨_,rfl⟩
 have hnl:n≤t.length:=by rw[hn];exact i4 true t
 have hho:ok=true→bT (t.take n)=true:=by rw[hok,hn];exact PJ
 have hFn:=oG (t:=t);have hFw:=oH (t:=t);have hFc:=oI (t:=t);rw[←hn,←hok] at hFn hFw hFc;have hW:=pn t true ht;rw[←hn,←hok] at hW;refine PC.con rfl (by simp) ?_;(repeat first|with_reducible refine kp [0,2,3] ?_|simp only[kV,simprocAttr,csM,bh]|refine aN ?_);refine⟨_,cx (lD 1 (by omega)),ulc ?_⟩;(repeat first|with_reducible refine kp [0,2,3,4] ?_|simp only[kV,simprocAttr,csM]|refine aN ?_);cases ok
 ·have hF:=hFn (.inl rfl);refine⟨_,cx (hW),ulc ?_⟩;(repeat first|with_reducible refine kp [0,2,3,4,5,6,7,32] ?_|simp only[kV,simprocAttr,csM]|refine aN ?_);refine ulk ?_;(repeat first|with_reducible refine kp [0,2,3,4,5,6,7,53] ?_|simp only[kV,simprocAttr,csM]|refine aN ?_);refine ulk ?_;(repeat first|with_reducible refine kp [2,3] ?_|simp only[kV,simprocAttr,csM,ac,af,ae,ah]|refine aN ?_);rw[hF]
 ·have hho2:=hho rfl;by_cases hlt:n<t.length
  ·have hltI:(n:Int)<(t.length:Int):=by omega
   by_cases h47:byt t n=47
   ·have hF:=hFc rfl hlt h47;have h47I:(byt t n:Int)=47:=by omega
    obtain⟨k,hk⟩:∃k,k=(ar false (t.drop (n+1))).1:=⟨_,rfl⟩
    obtain⟨more,hmore⟩:∃more,more=(ar false (t.drop (n+1))).2:=⟨_,rfl⟩
    have hul:(t.drop (n+1)).length=t.length-(n+1):=List.length_drop;have hW2:=pn (t.drop (n+1)) false (by omega);have hku:k≤(t.drop (n+1)).length:=by rw[hk];exact i4 false _
    rw[←hk,←hmore] at hF hW2;have hun:=fun h:more=true=>jx (u:=t.drop (n+1)) (hmore.symm.trans h)
    have hut:=fun h:more=true=>p4 (u:=t.drop (n+1)) (hmore.symm.trans h)
    rw[←hk] at hun hut;have hnt2:(t.take n).length≤9223372036854775807:=by simp;omega
    refine⟨_,cx (hW),ulc ?_⟩;(repeat first|with_reducible refine kp [0,2,3,4,5,6,7,32] ?_|simp only[kV,simprocAttr,csM,hltI,h47I]|refine aN ?_);refine ulk ?_;(repeat first|simp only[kV,simprocAttr,csM]|refine aN ?_);cases more
    ·rw[if_neg (by simp)] at hF;refine⟨_,cx (hW2),ulc ?_⟩;(repeat first|with_reducible refine kp [0,2,3,4,5,6,7,8,9,53] ?_|simp only[kV,simprocAttr,csM]|refine aN ?_);refine ulk ?_;(repeat first|with_reducible refine kp [2,3] ?_|simp only[kV,simprocAttr,csM,ac,af,ae,ah]|refine aN ?_);rw[hF]
    ·by_cases hkl:n+1+k<t.length
     ·rw[if_neg (by rintro⟨_,h⟩;omega)] at hF;have hkI:(n:Int)+1+(k:Int)<(t.length:Int):=by omega
      refine⟨_,cx (hW2),ulc ?_⟩;(repeat first|with_reducible refine kp [0,2,3,4,5,6,7,8,9,53] ?_|simp only[kV,simprocAttr,csM,hkI]|refine aN ?_);refine ulk ?_;(repeat first|with_reducible refine kp [2,3] ?_|simp only[kV,simprocAttr,csM,ac,af,ae,ah]|refine aN ?_);rw[hF]
     ·have hkI:¬ (n:Int)+1+(k:Int)<(t.length:Int):=by omega
      have hkk:k=(t.drop (n+1)).length:=by omega
      rw[if_pos ⟨rfl,by omega⟩] at hF;refine⟨_,cx (hW2),ulc ?_⟩;(repeat first|with_reducible refine kp [0,2,3,4,5,6,7,8,9,53] ?_|simp only[kV,simprocAttr,csM,hkI]|refine aN ?_);refine ulk ?_;(repeat first|with_reducible refine kp [0,2,3,4,5,7] ?_|simp only[kV,simprocAttr,csM]|refine aN ?_);by_cases hb1:(body (t.take n)).length≤1000
      ·have hb1I:¬ (1000:Int)<((body (t.take n)).length:Int):=by omega
       by_cases hb2:(t.drop (n+1)).length≤1000
       ·have hb2I:¬ (1000:Int)<(n:Int)+1+(k:Int)-(n:Int)-1:=by omega
        rw[if_pos ⟨hb1,hb2⟩] at hF;have hmn:(n:Int)<(n:Int)+1+(k:Int):=by omega
        have hut2:=hut rfl (by omega);have hbu:(body (t.drop (n+1))).length≤1000:=by rw[fL];omega
        have hunz:=hun rfl (by omega) hb2;refine⟨_,cx (iy (t.take n) hnt2),ulc ?_⟩;(repeat first|with_reducible refine kp [0,2,3,4,5,7,68] ?_|simp only[kV,simprocAttr,csM,hb1I,hb2I]|refine aN ?_);refine ulk ?_;(repeat first|with_reducible refine kp [0,2,3,4,5,7] ?_|simp only[kV,simprocAttr,csM]|refine aN ?_);refine⟨_,cx (jE (t.take n) hho2 hb1),ulc ?_⟩;(repeat first|simp only[kV,simprocAttr,csM]|refine aN ?_);refine⟨_,cx (lD 1 (by omega)),ulc ?_⟩;(repeat first|with_reducible refine kp [0,2,3,4,5,7,10,79] ?_|simp only[kV,simprocAttr,csM,hmn]|refine aN ?_);refine ulk ?_;(repeat first|simp only[kV,simprocAttr,csM]|refine aN ?_);refine⟨_,cx (jE (t.take n) hho2 hb1),ulc ?_⟩;(repeat first|simp only[kV,simprocAttr,csM]|refine aN ?_);refine⟨_,cx (jE (t.drop (n+1)) hut2.1 hbu),ulc ?_⟩;(repeat first|simp only[kV,simprocAttr,csM]|refine aN ?_);refine⟨_,cx (EU _ _ 4000 (cp _) (cp _) (by omega) hunz),ulc ?_⟩;(repeat first|with_reducible refine kp [0,2,3,4,10] ?_|simp only[kV,simprocAttr,csM]|refine aN ?_);by_cases heq:dm (frN (parseZ (t.take n)) (parseZ (t.drop (n+1)))) (frD (parseZ (t.take n)) (parseZ (t.drop (n+1))))=t
        ·rw[if_pos heq] at hF;refine⟨_,cx (mp _ _ 4000 (iN (cp _)) (iO (cp _)) (by omega)),ulc ?_⟩;(repeat first|with_reducible refine kp [2,3,4,10,93] ?_|simp only[kV,simprocAttr,csM,heq]|refine aN ?_);refine ulk ?_;(repeat first|with_reducible refine kp [2,3,10] ?_|simp only[kV,simprocAttr,csM,ac,af,ae,ah]|refine aN ?_);rw[hF]
        ·rw[if_neg heq] at hF;refine⟨_,cx (mp _ _ 4000 (iN (cp _)) (iO (cp _)) (by omega)),ulc ?_⟩;(repeat first|with_reducible refine kp [2,3,4,10,93] ?_|simp only[kV,simprocAttr,csM,heq]|refine aN ?_);refine ulk ?_;(repeat first|with_reducible refine kp [2,3] ?_|simp only[kV,simprocAttr,csM,ac,af,ae,ah]|refine aN ?_);rw[hF]
       ·have hb2I:(1000:Int)<(n:Int)+1+(k:Int)-(n:Int)-1:=by omega
        rw[if_neg (fun h=>hb2 h.2)] at hF;refine⟨_,cx (iy (t.take n) hnt2),ulc ?_⟩;(repeat first|with_reducible refine kp [0,2,3,4,5,7,68] ?_|simp only[kV,simprocAttr,csM,hb1I,hb2I]|refine aN ?_);refine ulk ?_;(repeat first|with_reducible refine kp [2,3] ?_|simp only[kV,simprocAttr,csM,ac,af,ae,ah]|refine aN ?_);rw[hF]
      ·have hb1I:(1000:Int)<((body (t.take n)).length:Int):=by omega
       rw[if_neg (fun h=>hb1 h.1)] at hF;refine⟨_,cx (iy (t.take n) hnt2),ulc ?_⟩;(repeat first|with_reducible refine kp [0,2,3,4,5,7,68] ?_|simp only[kV,simprocAttr,csM,hb1I]|refine aN ?_);refine ulk ?_;(repeat first|with_reducible refine kp [2,3] ?_|simp only[kV,simprocAttr,csM,ac,af,ae,ah]|refine aN ?_);rw[hF]
   ·have hF:=hFn (.inr ⟨hlt,h47⟩);have h47I:¬ (byt t n:Int)=47:=by omega
    refine⟨_,cx (hW),ulc ?_⟩;(repeat first|with_reducible refine kp [0,2,3,4,5,6,7,32] ?_|simp only[kV,simprocAttr,csM,hltI,h47I]|refine aN ?_);refine ulk ?_;(repeat first|with_reducible refine kp [0,2,3,4,5,6,7,53] ?_|simp only[kV,simprocAttr,csM,hltI]|refine aN ?_);refine ulk ?_;(repeat first|with_reducible refine kp [2,3] ?_|simp only[kV,simprocAttr,csM,ac,af,ae,ah]|refine aN ?_);rw[hF]
  ·have hltI:¬ (n:Int)<(t.length:Int):=by omega
   have hF:=hFw rfl (by omega);have hnn:n=t.length:=by omega
   have hnt:t.take n=t:=List.take_of_length_le (by omega);have hnt2:(t.take n).length≤9223372036854775807:=by simp;omega
   refine⟨_,cx (hW),ulc ?_⟩;(repeat first|with_reducible refine kp [0,2,3,4,5,6,7,32] ?_|simp only[kV,simprocAttr,csM,hltI]|refine aN ?_);refine ulk ?_;(repeat first|with_reducible refine kp [0,2,3,4,5,6,7,53] ?_|simp only[kV,simprocAttr,csM,hltI]|refine aN ?_);refine ulk ?_;(repeat first|with_reducible refine kp [0,2,3,4,5,7] ?_|simp only[kV,simprocAttr,csM,hltI]|refine aN ?_);by_cases hb:(body t).length≤1000
   ·rw[if_pos hb] at hF;have hb1I:¬ (1000:Int)<((body t).length:Int):=by omega
    have hb2I:¬ (1000:Int)<0-1:=by omega
    have hmn:¬ (n:Int)<(n:Int):=by omega
    rw[hnt] at hho2;have hpc:cA t=0:=by unfold cA;rw[if_pos hho2,if_pos hb]
    have htx:dm (parseZ t) 1=t:=by unfold dm;rw[if_pos rfl];exact oC hpc
    rw[hnt];refine⟨_,cx (iy t (by omega)),ulc ?_⟩;(repeat first|with_reducible refine kp [0,2,3,4,5,7,68] ?_|simp only[kV,simprocAttr,csM,hb1I,hb2I,Int.sub_self]|refine aN ?_);(try simp only[kV,simprocAttr,csM,hnt]);refine ulk ?_;(repeat first|with_reducible refine kp [0,2,3,4,5,7] ?_|simp only[kV,simprocAttr,csM,hnt]|refine aN ?_);refine⟨_,cx (jE t hho2 hb),ulc ?_⟩;(repeat first|simp only[kV,simprocAttr,csM]|refine aN ?_);refine⟨_,cx (lD 1 (by omega)),ulc ?_⟩;(repeat first|with_reducible refine kp [0,2,3,4,5,7,10,79] ?_|simp only[kV,simprocAttr,csM,hmn,Int.lt_irrefl]|refine aN ?_);refine ulk ?_;(repeat first|with_reducible refine kp [0,2,3,4,10] ?_|simp only[kV,simprocAttr,csM]|refine aN ?_);refine⟨_,cx (mp _ _ 4000 (cp _) (gg) (by omega)),ulc ?_⟩;(repeat first|with_reducible refine kp [2,3,4,10,93] ?_|simp only[kV,simprocAttr,csM,htx]|refine aN ?_);refine ulk ?_;(repeat first|with_reducible refine kp [2,3,10] ?_|simp only[kV,simprocAttr,csM,ac,af,ae,ah]|refine aN ?_);rw[hF]
   ·rw[if_neg hb] at hF;have hb1I:(1000:Int)<((body t).length:Int):=by omega
    rw[hnt];refine⟨_,cx (iy t (by omega)),ulc ?_⟩;(repeat first|with_reducible refine kp [0,2,3,4,5,7,68] ?_|simp only[kV,simprocAttr,csM,hb1I]|refine aN ?_);refine ulk ?_;(repeat first|with_reducible refine kp [2,3] ?_|simp only[kV,simprocAttr,csM,ac,af,ae,ah]|refine aN ?_);rw[hF]
end Go.Proofs.Ytdchbabgopglcaa.M
