/- Lemmas. -/
import Derived.Test.YtdchbabgopglcaaC34
set_option linter.defProp false
set_option linter.unusedSimpArgs false
set_option linter.unusedVariables false
namespace Go.Proofs.Ytdchbabgopglcaa.M
open Go.RowKit
set_option maxRecDepth 20000
set_option maxHeartbeats 8000000
theorem F1 (t:List UInt8) (ht:t.length≤9223372036854775807):Con Try.prog AN 29 [.str t] (.tup [cT (bp t).1 (bp t).2.1,flt (bp t).2.2.1 (bp t).2.2.2]):=by
 obtain⟨n,hn⟩:∃n,n=(ar true t).1:=⟨_,rfl⟩
 obtain⟨ok,hok⟩:∃ok,ok=(ar true t).2:=⟨_,rfl⟩
 have hnl:n≤t.length:=by rw[hn];exact i4 true t
 have hFn:=oG (t:=t);have hFw:=oH (t:=t);have hFc:=oI (t:=t);rw[←hn,←hok] at hFn hFw hFc;have hW:=qC t true ht;rw[←hn,←hok] at hW;have hnI:(n:Int)≤(t.length:Int):=by omega
 refine Bm.con rfl (by simp) ?_;(repeat first|with_reducible refine kp [0,2,3] ?_|simp only[kV,simprocAttr,csM,ax,ay,aO,aM,bh]|refine aN ?_);cases ok
 ·have hF:=hFn (.inl rfl);refine⟨_,cx (hW),ulc ?_⟩;(repeat first|with_reducible refine kp [0,2,3,4,5,6,7,8,36] ?_|simp only[kV,simprocAttr,csM,ax,ay,aO,aM,hnI]|refine aN ?_);refine ulk ?_;(repeat first|with_reducible refine kp [0,2,3,4,5,6,7,8,65] ?_|simp only[kV,simprocAttr,csM,ax,ay,aO,aM]|refine aN ?_);refine ulk ?_;(repeat first|with_reducible refine kp [2,3] ?_|simp only[kV,simprocAttr,csM,ax,ay,aO,aM,ac,af,ae,ah]|refine aN ?_);rw[hF]
 ·by_cases hlt:n<t.length
  ·have hltI:(n:Int)<(t.length:Int):=by omega
   by_cases h47:byt t n=47
   ·have hF:=hFc rfl hlt h47;have h47I:(byt t n:Int)=47:=by omega
    obtain⟨k,hk⟩:∃k,k=(ar false (t.drop (n+1))).1:=⟨_,rfl⟩
    obtain⟨more,hmore⟩:∃more,more=(ar false (t.drop (n+1))).2:=⟨_,rfl⟩
    have hul:(t.drop (n+1)).length=t.length-(n+1):=List.length_drop;have hW2:=qC (t.drop (n+1)) false (by omega);have hku:k≤(t.drop (n+1)).length:=by rw[hk];exact i4 false _
    rw[←hk,←hmore] at hF hW2;have hun:=fun h:more=true=>jx (u:=t.drop (n+1)) (hmore.symm.trans h)
    rw[←hk] at hun;have hnt2:(t.take n).length≤9223372036854775807:=by simp;omega
    have hk1:(n:Int)+1≤(t.length:Int):=by omega
    have hk2:(n:Int)+1+(k:Int)≤(t.length:Int):=by omega
    have hk3:(0:Int)≤(k:Int):=by omega
    refine⟨_,cx (hW),ulc ?_⟩;(repeat first|with_reducible refine kp [0,2,3,4,5,6,7,8,36] ?_|simp only[kV,simprocAttr,csM,ax,ay,aO,aM,hnI,hltI,h47I]|refine aN ?_);(try simp only[kV,simprocAttr,csM,ax,ay,aO,aM,hk1]);refine ulk ?_;(repeat first|simp only[kV,simprocAttr,csM,ax,ay,aO,aM,hk1]|refine aN ?_);cases more
    ·rw[if_neg (by simp)] at hF;refine⟨_,cx (hW2),ulc ?_⟩;(repeat first|with_reducible refine kp [0,2,3,4,5,6,7,8,9,10,65] ?_|simp only[kV,simprocAttr,csM,ax,ay,aO,aM,hk1,hk2,hk3]|refine aN ?_);refine ulk ?_;(repeat first|with_reducible refine kp [2,3] ?_|simp only[kV,simprocAttr,csM,ax,ay,aO,aM,ac,af,ae,ah]|refine aN ?_);rw[hF]
    ·by_cases hkl:n+1+k<t.length
     ·rw[if_neg (by rintro⟨_,h⟩;omega)] at hF;have hkI:(n:Int)+1+(k:Int)<(t.length:Int):=by omega
      refine⟨_,cx (hW2),ulc ?_⟩;(repeat first|with_reducible refine kp [0,2,3,4,5,6,7,8,9,10,65] ?_|simp only[kV,simprocAttr,csM,ax,ay,aO,aM,hk1,hk2,hk3,hkI]|refine aN ?_);refine ulk ?_;(repeat first|with_reducible refine kp [2,3] ?_|simp only[kV,simprocAttr,csM,ax,ay,aO,aM,ac,af,ae,ah]|refine aN ?_);rw[hF]
     ·have hkI:¬ (n:Int)+1+(k:Int)<(t.length:Int):=by omega
      have htk:List.take (((n:Int)+1+(k:Int)).toNat-(n+1)) (t.drop (n+1))=t.drop (n+1):=List.take_of_length_le (by omega);rw[if_pos ⟨rfl,by omega⟩] at hF;refine⟨_,cx (hW2),ulc ?_⟩;(repeat first|with_reducible refine kp [0,2,3,4,5,6,7,8,9,10,65] ?_|simp only[kV,simprocAttr,csM,ax,ay,aO,aM,hk1,hk2,hk3,hkI]|refine aN ?_);by_cases hb1:(body (t.take n)).length≤1000
      ·have hb1I:¬ (1000:Int)<((body (t.take n)).length:Int):=by omega
       by_cases hb2:(t.drop (n+1)).length≤1000
       ·have hb2I:¬ (1000:Int)<((t.drop (n+1)).length:Int):=by omega
        rw[if_pos ⟨hb1,hb2⟩] at hF;have hunz:=hun rfl (by omega) hb2;(try simp only[kV,simprocAttr,csM,ax,ay,aO,aM,htk]);refine ulk ?_;(repeat first|with_reducible refine kp [0,2,3,6,7,8] ?_|simp only[kV,simprocAttr,csM,ax,ay,aO,aM,htk]|refine aN ?_);refine⟨_,cx (iS (t.take n) hnt2),ulc ?_⟩;(repeat first|with_reducible refine kp [0,2,3,6,7,8,77] ?_|simp only[kV,simprocAttr,csM,ax,ay,aO,aM,hb1I,hb2I]|refine aN ?_);refine ulk ?_;(repeat first|with_reducible refine kp [0,2,3,6,7,8] ?_|simp only[kV,simprocAttr,csM,ax,ay,aO,aM]|refine aN ?_);refine⟨_,cx (mh (t.take n) hnt2),ulc ?_⟩;(repeat first|with_reducible refine kp [0,2,3,7,8,11,86] ?_|simp only[kV,simprocAttr,csM,ax,ay,aO,aM]|refine aN ?_);refine ulk ?_;(repeat first|with_reducible refine kp [0,2,3,7,11] ?_|simp only[kV,simprocAttr,csM,ax,ay,aO,aM]|refine aN ?_);refine⟨_,cx (mh (t.drop (n+1)) (by omega)),ulc ?_⟩;(repeat first|with_reducible refine kp [0,2,3,11,13] ?_|simp only[kV,simprocAttr,csM,ax,ay,aO,aM]|refine aN ?_);refine⟨_,cx (Ri _ _ 4000 (cp _) (cp _) (by omega) hunz),ulc ?_⟩;(repeat first|with_reducible refine kp [0,2,3,15] ?_|simp only[kV,simprocAttr,csM,ax,ay,aO,aM]|refine aN ?_);by_cases heq:dm (frN (parseZ (t.take n)) (parseZ (t.drop (n+1)))) (frD (parseZ (t.take n)) (parseZ (t.drop (n+1))))=t
        ·rw[if_pos heq] at hF;refine⟨_,cx (qQ _ _ 4000 (iN (cp _)) (iO (cp _)) (by omega)),ulc ?_⟩;(repeat first|with_reducible refine kp [2,3,15,101] ?_|simp only[kV,simprocAttr,csM,ax,ay,aO,aM,heq]|refine aN ?_);refine ulk ?_;(repeat first|with_reducible refine kp [2,3,15] ?_|simp only[kV,simprocAttr,csM,ax,ay,aO,aM,ac,af,ae,ah]|refine aN ?_);rw[hF]
        ·rw[if_neg heq] at hF;refine⟨_,cx (qQ _ _ 4000 (iN (cp _)) (iO (cp _)) (by omega)),ulc ?_⟩;(repeat first|with_reducible refine kp [2,3,15,101] ?_|simp only[kV,simprocAttr,csM,ax,ay,aO,aM,heq]|refine aN ?_);refine ulk ?_;(repeat first|with_reducible refine kp [2,3] ?_|simp only[kV,simprocAttr,csM,ax,ay,aO,aM,ac,af,ae,ah]|refine aN ?_);rw[hF]
       ·have hb2I:(1000:Int)<((t.drop (n+1)).length:Int):=by omega
        rw[if_neg (fun h=>hb2 h.2)] at hF;(try simp only[kV,simprocAttr,csM,ax,ay,aO,aM,htk]);refine ulk ?_;(repeat first|with_reducible refine kp [0,2,3,6,7,8] ?_|simp only[kV,simprocAttr,csM,ax,ay,aO,aM,htk]|refine aN ?_);refine⟨_,cx (iS (t.take n) hnt2),ulc ?_⟩;(repeat first|with_reducible refine kp [0,2,3,6,7,8,77] ?_|simp only[kV,simprocAttr,csM,ax,ay,aO,aM,hb1I,hb2I]|refine aN ?_);refine ulk ?_;(repeat first|with_reducible refine kp [2,3] ?_|simp only[kV,simprocAttr,csM,ax,ay,aO,aM,ac,af,ae,ah]|refine aN ?_);rw[hF]
      ·have hb1I:(1000:Int)<((body (t.take n)).length:Int):=by omega
       rw[if_neg (fun h=>hb1 h.1)] at hF;(try simp only[kV,simprocAttr,csM,ax,ay,aO,aM,htk]);refine ulk ?_;(repeat first|with_reducible refine kp [0,2,3,6,7,8] ?_|simp only[kV,simprocAttr,csM,ax,ay,aO,aM,htk]|refine aN ?_);refine⟨_,cx (iS (t.take n) hnt2),ulc ?_⟩;(repeat first|with_reducible refine kp [0,2,3,6,7,8,77] ?_|simp only[kV,simprocAttr,csM,ax,ay,aO,aM,hb1I]|refine aN ?_);refine ulk ?_;(repeat first|with_reducible refine kp [2,3] ?_|simp only[kV,simprocAttr,csM,ax,ay,aO,aM,ac,af,ae,ah]|refine aN ?_);rw[hF]
   ·have hF:=hFn (.inr ⟨hlt,h47⟩);have h47I:¬ (byt t n:Int)=47:=by omega
    refine⟨_,cx (hW),ulc ?_⟩;(repeat first|with_reducible refine kp [0,2,3,4,5,6,7,8,36] ?_|simp only[kV,simprocAttr,csM,ax,ay,aO,aM,hnI,hltI,h47I]|refine aN ?_);refine ulk ?_;(repeat first|with_reducible refine kp [0,2,3,4,5,6,7,8,65] ?_|simp only[kV,simprocAttr,csM,ax,ay,aO,aM,hltI]|refine aN ?_);refine ulk ?_;(repeat first|with_reducible refine kp [2,3] ?_|simp only[kV,simprocAttr,csM,ax,ay,aO,aM,ac,af,ae,ah]|refine aN ?_);rw[hF]
  ·have hF:=hFw rfl (by omega);have hltI:¬ (n:Int)<(t.length:Int):=by omega
   have hnt:t.take n=t:=List.take_of_length_le (by omega);have hnt2:(t.take n).length≤9223372036854775807:=by simp;omega
   have z0:¬ (1000:Int)<0:=by decide
   refine⟨_,cx (hW),ulc ?_⟩;(repeat first|with_reducible refine kp [0,2,3,4,5,6,7,8,36] ?_|simp only[kV,simprocAttr,csM,ax,ay,aO,aM,hnI,hltI]|refine aN ?_);refine ulk ?_;(repeat first|with_reducible refine kp [0,2,3,4,5,6,7,8,65] ?_|simp only[kV,simprocAttr,csM,ax,ay,aO,aM,hltI]|refine aN ?_);refine ulk ?_;(repeat first|with_reducible refine kp [0,2,3,6,7,8] ?_|simp only[kV,simprocAttr,csM,ax,ay,aO,aM,hltI]|refine aN ?_);by_cases hb:(body t).length≤1000
   ·rw[if_pos hb] at hF;have hb1I:¬ (1000:Int)<((body t).length:Int):=by omega
    rw[hnt];refine⟨_,cx (iS t ht),ulc ?_⟩;(repeat first|with_reducible refine kp [0,2,3,6,7,8,77] ?_|simp only[kV,simprocAttr,csM,ax,ay,aO,aM,hb1I,z0,List.length_nil]|refine aN ?_);(try simp only[kV,simprocAttr,csM,ax,ay,aO,aM,hnt]);refine ulk ?_;(repeat first|with_reducible refine kp [0,2,3,6,7,8] ?_|simp only[kV,simprocAttr,csM,ax,ay,aO,aM,hnt]|refine aN ?_);refine⟨_,cx (mh t ht),ulc ?_⟩;(repeat first|with_reducible refine kp [0,2,3,7,8,11,86] ?_|simp only[kV,simprocAttr,csM,ax,ay,aO,aM]|refine aN ?_);refine ulk ?_;(repeat first|with_reducible refine kp [2,3] ?_|simp only[kV,simprocAttr,csM,ax,ay,aO,aM,ac,af,ae,ah]|refine aN ?_);rw[hF]
   ·rw[if_neg hb] at hF;have hb1I:(1000:Int)<((body t).length:Int):=by omega
    rw[hnt];refine⟨_,cx (iS t ht),ulc ?_⟩;(repeat first|with_reducible refine kp [0,2,3,6,7,8,77] ?_|simp only[kV,simprocAttr,csM,ax,ay,aO,aM,hb1I]|refine aN ?_);refine ulk ?_;(repeat first|with_reducible refine kp [2,3] ?_|simp only[kV,simprocAttr,csM,ax,ay,aO,aM,ac,af,ae,ah]|refine aN ?_);rw[hF]
end Go.Proofs.Ytdchbabgopglcaa.M
