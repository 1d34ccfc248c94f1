/- Lemmas. -/
import Derived.Test.YtbnhgnhgbhjkcaaGreatV39
import Derived.Test.YtbnhgnhgbhjkcaaGreatV5
import Derived.Test.YtbnhgnhgbhjkcaaGreatV27
import Derived.Test.YtbnhgnhgbhjkcaaGreatV3
import Derived.Test.YtbnhgnhgbhjkcaaGreatV28
set_option linter.defProp false
set_option linter.unusedSimpArgs false
set_option linter.unusedVariables false
namespace Go.Proofs.YtbnhgnhgbhjkcaaGreat.M
open Go.RowKit
set_option maxRecDepth 20000
set_option maxHeartbeats 2000000
abbrev Zm:=Rat×Mp.Mo
def tZ (t:Zm):D:=.agg [hZ t.1.num,lZ t.1.num,hZ (t.1.den:Int),lZ (t.1.den:Int),.list 3 1 (t.2.map (D.int .i64))]
abbrev TZ:Nat:=73
abbrev MZ (l:Mp.TL):D:=.list TZ 5 (l.map tZ)
theorem lQ (a b:Mp.TL):MZ (a++b) = .list TZ 5 (a.map tZ++b.map tZ):=congrArg (D.list TZ 5) List.map_append
def zt (l:Mp.TL) (i:Nat):Zm:=l.getD i (0,[])
theorem fp {l:Mp.TL}{i:Nat} (h:i<l.length):zt l i=l[i]:=by simp[zt,h]
theorem dn {l:Mp.TL}{i:Nat} (h:i<l.length):zt l i∈l:=by rw[fp h];exact List.getElem_mem h
theorem zde {l:Mp.TL}{i:Nat} (h:i<l.length):l.drop i=zt l i::l.drop (i+1):=by rw[List.drop_eq_getElem_cons h,fp h]
theorem jG {l:Mp.TL}{i:Nat} (h:i<l.length):l.take (i+1)=l.take i++[zt l i]:=by rw[List.take_succ_eq_append_getElem h,fp h]
theorem gT {l:Mp.TL}{i:Nat} (h:i<l.length):(l.map tZ).getD i default = .agg [hZ (zt l i).1.num,lZ (zt l i).1.num,hZ ((zt l i).1.den:Int),lZ ((zt l i).1.den:Int),.list 3 1 ((zt l i).2.map (D.int .i64))]:=by
 simp[zt,tZ,h]
theorem dq {l:List Int}{i:Nat} (h:i<l.length):(l.map (D.int .i64)).getD i default = .int .i64 (l.getD i 0):=by simp[h]
theorem zdf (G:FuncId→List D→D→Prop) (dd:Option Nat) (T:Nat) (sz:Nat) (z:D) (n:Nat) (parts:List (Nat×Opd)) (g:Option (Nat×Bool)) (K:St→Prop) (s:St):step G ⟨dd,.buildSliceP T sz z n parts,g⟩ K s=fin dd K (ev (.buildSliceP T sz z n parts) (dd.getD 0) s):=rfl
theorem zdg (T:Nat) (sz:Nat) (z:D) (n:Nat) (parts:List (Nat×Opd)) (id:Nat) (s:St):ev (.buildSliceP T sz z n parts) id s=(match s.m id with
  |none=>match dV sz (List.replicate n z) s.r parts with
   |some l=>some (true,.slice id 0 n,⟨s.r,upd s.m id (some ⟨T,sz,.row l,false⟩)⟩)
   |none=>none
  |some _=>none):=rfl
def csZ:=an @zdf (an @zdg (an @dV.eq_1 (an @dV.eq_2 (an @zck (an @zcl (an @zcm (an @oJ (an @List.length_map.{0,0} (an @Nat.mul_one (an @and_false (an @false_and (an @Nat.zero_add csM))))))))))))
theorem vc (A:List TypeId) (T U:Nat) (a b:List Int) (hl:a.length=b.length) (h1:a.length≤1000000000):Con Tryz.prog A 88 [.list T 1 (a.map (D.int .i64)),.list U 1 (b.map (D.int .i64))] (.bool (decide (a=b))):=by
 refine Con.mono (A:=[]) ?_ (by simp);refine L7.con rfl (by simp) ?_;(repeat first|simp only[kV,simprocAttr,csZ,ax]|refine aN ?_);refine kp [0,1] ?_;(repeat first|simp only[kV,simprocAttr,csZ,ax]|refine aN ?_);refine kp [0,1,5] ?_;(repeat first|simp only[kV,simprocAttr,csZ,ax]|refine aN ?_);refine aE (ι:=Nat) (fun i=>i≤a.length∧∀k,k<i→a.getD k 0=b.getD k 0) (fun i=>⟨ai [(0,.p (.list T 1 (a.map (D.int .i64)))),(1,.p (.list U 1 (b.map (D.int .i64)))),(5,.p (.int .i64 i))],aw []⟩) (fun i=>a.length-i) 0 ⟨Nat.zero_le _,fun k hk=>by omega⟩ (Sub.toG [0,1,5] []) ?_;rintro i ⟨hi,he⟩;by_cases h:i<a.length
 ·have hI:(i:Int)<(a.length:Int):=by omega
  have hI2:(i:Int)<(b.length:Int):=by omega
  have hb:i<b.length:=by omega
  have g1:=dq h;have g2:=dq hb;(repeat first|with_reducible refine kp [0,1,5,9] ?_|simp only[kV,simprocAttr,csZ,hI]|refine aN ?_);(try simp only[kV,simprocAttr,csZ,hI,hI2,g1,g2,h,hb]);refine ulk ?_;(repeat first|with_reducible refine kp [0,1,5,20] ?_|simp only[kV,simprocAttr,csZ,hI,hI2,g1,g2,h,hb]|refine aN ?_);by_cases hc:a.getD i 0=b.getD i 0
  ·refine⟨fun h1=>absurd h1 (by rw[hc];simp),fun _ => ?_⟩;(try simp only[kV,simprocAttr,csZ]);refine ulk ?_;(repeat first|with_reducible refine kp [0,1,5] ?_|simp only[kV,simprocAttr,csZ]|refine aN ?_);exact⟨i+1,⟨h,fun k hk=>by
    by_cases hki:k<i
    ·exact he k hki
    ·obtain rfl:k=i:=by omega
     exact hc⟩,(Sub.toG [0,1,5] []),by omega⟩
  ·refine⟨fun _ => ?_,fun h1=>absurd h1 (by rw[decide_eq_false hc];simp)⟩;have hne:a≠b:=fun e=>hc (by rw[e])
   rw[decide_eq_false hne];(try simp only[kV,simprocAttr,csZ]);refine ulk ?_;(repeat first|with_reducible refine kp [4] ?_|simp only[kV,simprocAttr,csZ,ac,ah,ae,af]|refine aN ?_)
 ·have hI:¬ (i:Int)<(a.length:Int):=by omega
  have heq:a=b:=List.ext_getElem hl fun k h1 h2=>by
   have:=he k (by omega)
   rwa[List.getD_eq_getElem?_getD,List.getD_eq_getElem?_getD,List.getElem?_eq_getElem h1,List.getElem?_eq_getElem h2] at this
  rw[decide_eq_true heq];(repeat first|with_reducible refine kp [0,1,5,9] ?_|simp only[kV,simprocAttr,csZ,hI]|refine aN ?_);refine ulk ?_;(repeat first|with_reducible refine kp [4] ?_|simp only[kV,simprocAttr,csZ,ac,ah,ae,af,hI]|refine aN ?_)
theorem zdh {m:Mp.TL}{t:Zm}{i:Nat} (h:i<m.length) (h0:∀k,k<i→(zt m k).2≠t.2) (he:(zt m i).2=t.2):Mp.grow m t=m.take i++(if (zt m i).1+t.1=0 then [] else [((zt m i).1+t.1,t.2)])++m.drop (i+1):=by
 have e:m=m.take i++(zt m i::m.drop (i+1)):=by rw[←zde h,List.take_append_drop]
 conv=>lhs;rw[e]
 rw[Mp.grow_skip fun x hx=>by
  obtain⟨k,hk,rfl⟩:=List.mem_iff_getElem.1 hx;rw[List.length_take] at hk;have:=h0 k (by omega);rw[fp (by omega)] at this;rw[List.getElem_take];exact this]
 rw[Mp.grow,if_pos he,List.append_assoc];congr 1
 split<;>rfl
theorem zdi {m:Mp.TL}{t:Zm} (h0:∀k,k<m.length→(zt m k).2≠t.2):Mp.grow m t=m++(if t.1=0 then [] else [t]):=by
 have:=Mp.grow_skip (l:=m) (m:=[]) (t:=t) fun x hx=>by
  obtain⟨k,hk,rfl⟩:=List.mem_iff_getElem.1 hx;have:=h0 k hk
  rwa[fp hk] at this
 rw[List.append_nil] at this;rw[this];rfl
theorem zdj (m:Mp.TL) (t:Zm){p:Nat} (hw:∀x∈m,x.2.length=t.2.length) (hb:∀x∈m,Bq p x.1∧Bq p (x.1+t.1)) (ht:Bq p t.1) (hl:m.length≤1000000000) (hn:t.2.length≤1000000000) (hp:p≤2048000000000) :
  Con Tryz.prog AN 53 [MZ m,tZ t] (MZ (Mp.grow m t)):=by
 obtain⟨c,e⟩:=t;simp only at hw hb ht hn;refine My.con rfl (by simp) ?_;(repeat first|simp only[kV,simprocAttr,csZ,ax,tZ]|refine aN ?_);refine kp [0,3] ?_;(repeat first|simp only[kV,simprocAttr,csZ,ax,tZ]|refine aN ?_);refine kp [0,3,5] ?_;(repeat first|simp only[kV,simprocAttr,csZ,ax,tZ]|refine aN ?_);refine aE (ι:=Nat) (fun i=>i≤m.length∧∀k,k<i→(zt m k).2≠e) (fun i=>⟨ai [(0,.p (MZ m)),(3,.ptr 3 0 0),(5,.p (.int .i64 i))],aw [(3,⟨TZ,5,.box (.p (.agg [hZ c.num,lZ c.num,hZ (c.den:Int),lZ (c.den:Int),.list 3 1 (e.map (D.int .i64))])),false⟩)]⟩) (fun i=>m.length-i) 0 ⟨Nat.zero_le _,fun k hk=>by omega⟩ (Sub.toG [0,3,5] [6,33,42,43,49,56,59]) ?_;rintro i ⟨hi,h0⟩;by_cases h:i<m.length
 ·have hI:(i:Int)<(m.length:Int):=by omega
  have g1:=gT h;have hx:=hb _ (dn h);have hwx:=hw _ (dn h);by_cases hc:(zt m i).2=e
  ·have hga:=zdh (t:=(c,e)) h h0 hc;simp only at hga;generalize zt m i=x at *;(repeat first|with_reducible refine kp [0,3,5,11] ?_|simp only[kV,simprocAttr,csZ,hI]|refine aN ?_);(try simp only[kV,simprocAttr,csZ,hI,g1,h]);refine ulk ?_;(repeat first|with_reducible refine kp [0,3,5] ?_|simp only[kV,simprocAttr,csZ,hI,g1,h]|refine aN ?_);refine⟨_,cx (vc AN _ _ x.2 e hwx (by omega)),?_⟩;(repeat first|with_reducible refine kp [0,3,5,21] ?_|simp only[kV,simprocAttr,csZ,hc]|refine aN ?_);(try simp only[kV,simprocAttr,csZ,hI,g1,h]);refine ulk ?_;(repeat first|simp only[kV,simprocAttr,csZ,hI,g1,h]|refine aN ?_);have hle:(i:Int)≤(m.length:Int):=by omega
   have hle1:(i:Int)+1≤(m.length:Int):=by omega
   have e1:List.take i (m.map tZ)=(m.take i).map tZ:=List.map_take.symm;have e2:List.take (m.length-(i+1)) (List.drop (i+1) (m.map tZ))=(m.drop (i+1)).map tZ:=by rw[←List.map_drop,List.take_of_length_le (by simp)]
   have l1:(m.take i).length=i:=by rw[List.length_take,Nat.min_eq_left hi]
   have l2:(m.drop (i+1)).length=m.length-(i+1):=List.length_drop;generalize m.take i=m1 at *;generalize m.drop (i+1)=m2 at *;refine⟨_,cx (uF x.1 c p hx.1 ht hp),ulc ?_⟩;(repeat first|with_reducible refine kp [0,3,5,6,7] ?_|simp only[kV,simprocAttr,csZ,hI,g1,h,hle,hi,e1,l1]|refine aN ?_);by_cases hs:x.1+c=0
   ·have s0:fh (x.1+c)=0:=jA.2 hs;rw[if_pos hs,List.append_nil] at hga;refine⟨_,cx (lH (x.1+c) p hx.2 hp),ulc ?_⟩;(repeat first|with_reducible refine kp [0,3,5,6,7,36] ?_|simp only[kV,simprocAttr,csZ,s0]|refine aN ?_);(try simp only[kV,simprocAttr,csZ,hI,hle,hle1,h,hi,e1,e2,l1,l2,List.length_append]);refine ulk ?_;(repeat first|with_reducible refine kp [0,4,5,7] ?_|simp only[kV,simprocAttr,csZ,ac,ah,ae,af,hI,hle,hle1,h,hi,e1,e2,l1,l2,List.length_append]|refine aN ?_);rw[hga];simp only[Bool.or_true,if_true];rw[List.take_of_length_le (by simp[l1,l2]),lQ]
   ·have s0:¬ fh (x.1+c)=0:=fun h=>hs (jA.1 h)
    rw[if_neg hs] at hga;refine⟨_,cx (lH (x.1+c) p hx.2 hp),ulc ?_⟩;(repeat first|with_reducible refine kp [0,3,5,6,7,36] ?_|simp only[kV,simprocAttr,csZ,s0]|refine aN ?_);(try simp only[kV,simprocAttr,csZ,s0,hI,hle,hle1,h,hi,e1,e2,l1,l2,List.length_append,List.length_cons,List.length_nil]);refine ulk ?_;(repeat first|with_reducible refine kp [0,4,5,7] ?_|simp only[kV,simprocAttr,csZ,ac,ah,ae,af,s0,hI,hle,hle1,h,hi,e1,e2,l1,l2,List.length_append,List.length_cons,List.length_nil]|refine aN ?_);rw[hga];simp only[Bool.or_true,if_true];rw[List.take_of_length_le (by simp[l1,l2];omega),lQ,List.map_append];rfl
  ·have hnx:∀k,k<i+1→(zt m k).2≠e:=fun k hk=>by
    by_cases hki:k<i
    ·exact h0 k hki
    ·obtain rfl:k=i:=by omega
     exact hc
   generalize zt m i=x at *;(repeat first|with_reducible refine kp [0,3,5,11] ?_|simp only[kV,simprocAttr,csZ,hI]|refine aN ?_);(try simp only[kV,simprocAttr,csZ,hI,g1,h]);refine ulk ?_;(repeat first|with_reducible refine kp [0,3,5] ?_|simp only[kV,simprocAttr,csZ,hI,g1,h]|refine aN ?_);refine⟨_,cx (vc AN _ _ x.2 e hwx (by omega)),?_⟩;(repeat first|with_reducible refine kp [0,3,5,21] ?_|simp only[kV,simprocAttr,csZ,hc]|refine aN ?_);refine ulk ?_;(repeat first|with_reducible refine kp [0,3,5] ?_|simp only[kV,simprocAttr,csZ]|refine aN ?_);exact⟨i+1,⟨h,hnx⟩,(Sub.toG [0,3,5] [6,33,42,43,49,56,59]),by omega⟩
 ·have hI:¬ (i:Int)<(m.length:Int):=by omega
  have hga:=zdi (t:=(c,e)) fun k hk=>h0 k (by omega)
  simp only at hga;by_cases hs:c=0
  ·have s0:fh c=0:=jA.2 hs;rw[if_pos hs,List.append_nil] at hga;(repeat first|with_reducible refine kp [0,3,5,11] ?_|simp only[kV,simprocAttr,csZ,hI]|refine aN ?_);refine ulk ?_;(repeat first|with_reducible refine kp [0,3] ?_|simp only[kV,simprocAttr,csZ,hI]|refine aN ?_);refine⟨_,cx (lH c p ht hp),ulc ?_⟩;(repeat first|with_reducible refine kp [0,3,53] ?_|simp only[kV,simprocAttr,csZ,s0]|refine aN ?_);refine ulk ?_;(repeat first|with_reducible refine kp [4] ?_|simp only[kV,simprocAttr,csZ,ac,ah,ae,af]|refine aN ?_);rw[hga]
  ·have s0:¬ fh c=0:=fun h=>hs (jA.1 h)
   rw[if_neg hs] at hga;(repeat first|with_reducible refine kp [0,3,5,11] ?_|simp only[kV,simprocAttr,csZ,hI]|refine aN ?_);refine ulk ?_;(repeat first|with_reducible refine kp [0,3] ?_|simp only[kV,simprocAttr,csZ,hI]|refine aN ?_);refine⟨_,cx (lH c p ht hp),ulc ?_⟩;(repeat first|with_reducible refine kp [0,3,53] ?_|simp only[kV,simprocAttr,csZ,s0]|refine aN ?_);(try simp only[kV,simprocAttr,csZ,s0,hl,List.length_append,List.length_cons,List.length_nil]);refine ulk ?_;(repeat first|with_reducible refine kp [0,3,4] ?_|simp only[kV,simprocAttr,csZ,ac,ah,ae,af,s0,hl,List.length_append,List.length_cons,List.length_nil]|refine aN ?_);rw[hga];simp only[Bool.or_true,if_true];rw[List.take_of_length_le (by simp),lQ];rfl
open Go.RowKit Go.Proofs.YtbnhgnhgbhjkcaaGreat.Sy
abbrev J (n:Int):D:=.int .i64 n
abbrev Tm:=Rat×Int×Int×Int×Int
def tI (t:Tm):D:=.agg [hI t.1.num,lI t.1.num,hI ((t.1.den:Int)-1),lI ((t.1.den:Int)-1),J t.2.1,J t.2.2.1,J t.2.2.2.1,J t.2.2.2.2]
abbrev TT:Nat:=145
abbrev LM (l:List Tm):D:=.list TT 8 (l.map tI)
theorem ya (t:Tm):(tI t).isAgg=true:=rfl
theorem yb (t:Tm):(tI t).one=false:=rfl
theorem yc (t:Tm):(tI t).cells.length=8:=rfl
theorem yd (t:Tm):(tI t).cells.all D.one=true:=rfl
theorem ye (t:Tm):(AV.p (tI t)).isAgg=some true:=rfl
theorem yf (t:Tm):(AV.p (tI t)).get 0 8 8 true=some (.p (tI t)):=rfl
theorem yg (l:List Tm) (i:Nat) (x:Tm):(l.map tI).set i (tI x)=(l.set i x).map tI:=List.map_set.symm
theorem bY {l:List Tm}{i:Nat} (h:i<l.length):(l.map tI).getD i default=tI (Sy.at_ l i):=by simp[Sy.at_,h]
def csU:=an @ya (an @yb (an @yc (an @yd (an @ye (an @yf (an @yg (an @List.length_map.{0,0} (@ru))))))))
theorem yh (l:List Tm) (a b n:Nat) (cf:D) (h1:a+n≤b) (h2:b+n≤l.length) (h3:l.length≤1000000000):df Tryz.prog AN 154 0 [LM l,J a,J b,J n,cf] TT 8 (l.map tI) (.tup []) ((swR l a b n).map tI):=by
 refine yL.conL rfl (by simp) rfl (by simp) ?_;(repeat first|simp only[kV,simprocAttr,csU,eL]|refine aN ?_);refine kp [0,1,2,3,10] ?_;(repeat first|simp only[kV,simprocAttr,csU,eL]|refine aN ?_);refine aE (ι:=Nat) (fun k=>k≤n) (fun k=>⟨ai [(0,.slice 999999 0 l.length),(1,.p (J a)),(2,.p (J b)),(3,.p (J n)),(10,.p (J k))],aw [(999999,⟨TT,8,.row ((swR l a b k).map tI),false⟩)]⟩) (fun k=>n-k) 0 (by omega) (Sub.toG [0,1,2,3,10] []) ?_;intro k hk;have hL:=fN l a b k;by_cases h:k<n
 ·have hI:(k:Int)<(n:Int):=by omega
  have e1:(a:Int)+(k:Int)=((a+k:Nat):Int):=by omega
  have e2:(b:Int)+(k:Int)=((b+k:Nat):Int):=by omega
  have g1:=bY (l:=swR l a b k) (i:=a+k) (by omega);have g2:=bY (l:=swR l a b k) (i:=b+k) (by omega);(repeat first|with_reducible refine kp [0,1,2,3,10,13] ?_|simp only[kV,simprocAttr,csU,hI]|refine aN ?_);(try simp only[kV,simprocAttr,csU,hI,e1,e2,g1,g2,hL]);refine ulk ?_;(repeat first|with_reducible refine kp [0,1,2,3,10] ?_|simp only[kV,simprocAttr,csU,hI,e1,e2,g1,g2,hL]|refine aN ?_);exact⟨k+1,h,(Sub.toG [0,1,2,3,10] []),by omega⟩
 ·have hI:¬ (k:Int)<(n:Int):=by omega
  obtain rfl:k=n:=by omega
  (repeat first|with_reducible refine kp [0,1,2,3,10,13] ?_|simp only[kV,simprocAttr,csU,hI]|refine aN ?_);refine ulk ?_;(repeat first|simp only[kV,simprocAttr,csU,hI]|refine aN ?_);exact ResLt.unit _
theorem yi (l:List Tm) (a m b:Nat) (cf:D) (hn:l≠[]) (h0:a<m) (h1:m<b) (h2:b≤l.length) (h3:l.length≤1000000000):df Tryz.prog AN 153 0 [LM l,J a,J m,J b,cf] TT 8 (l.map tI) (.tup []) ((cQ l a m b).map tI):=by
 obtain⟨i0,hi0⟩:∃i0,i0=m-a:=⟨_,rfl⟩
 obtain⟨j0,hj0⟩:∃j0,j0=b-m:=⟨_,rfl⟩
 have e1:(m:Int)-(a:Int)=(i0:Int):=by omega
 have e2:(b:Int)-(m:Int)=(j0:Int):=by omega
 have lent:∀(q:List Tm) (x y n:Nat),q.length=l.length→x+n≤y→y+n≤q.length→cZ Tryz.prog AN 154 0 [LM q,J x,J y,J n,cf] TT 8 (q.map tI) (.tup []) ((swR q x y n).map tI):=fun q x y n hq k1 k2 =>
  ⟨by decide,by decide,rfl,by simp[fN],fun e=>absurd e (by
   intro e;have:q=[]:=by simpa using e
   rw[this] at hq;exact hn (List.eq_nil_of_length_eq_zero hq.symm)),fun _=>yh q x y n cf k1 k2 (by omega)⟩
 have hne:∀q:List Tm,q.length=l.length→¬ q.map tI=[]:=fun q hq e=>by
  have:q=[]:=by simpa using e
  rw[this] at hq;exact hn (List.eq_nil_of_length_eq_zero hq.symm)
 refine yZ.conL rfl (by simp) rfl (by simp) ?_;(repeat first|simp only[kV,simprocAttr,csU,eL,e1,e2]|refine aN ?_);refine kp [0,2,3,4,10] ?_;(repeat first|simp only[kV,simprocAttr,csU,eL,e1,e2]|refine aN ?_);refine kp [0,2,4,10,11] ?_;(repeat first|simp only[kV,simprocAttr,csU,eL,e1,e2]|refine aN ?_);refine aE (ι:=Nat×Nat×List Tm) (fun s=>0<s.1∧s.1≤m-a∧0<s.2.1∧s.2.1≤b-m∧s.2.2.length=l.length∧∀q,Rot s.2.2 q (m-s.1) m (m+s.2.1)→Rot l q a m b) (fun s=>⟨ai [(0,.slice 999999 0 l.length),(2,.p (J m)),(4,.p cf),(10,.p (J s.1)),(11,.p (J s.2.1))],aw [(999999,⟨TT,8,.row (s.2.2.map tI),false⟩)]⟩) (fun s=>s.1+s.2.1) (i0,j0,l) ⟨by simp only;omega,by simp only;omega,by simp only;omega,by simp only;omega,rfl,fun q hq=>by
  simp only at hq
  rwa[show m-i0=a by omega,show m+j0=b by omega] at hq⟩ (Sub.toG [0,2,4,10,11] []) ?_
 rintro⟨i,j,q⟩ ⟨hi,hi2,hj,hj2,hq,hR⟩;simp only at hi hi2 hj hj2 hq hR;have e3:(m:Int)-(i:Int)=((m-i:Nat):Int):=by omega
 have hq0:=hne q hq;by_cases h:i=j
 ·subst h;have hr:swR q (m-i) m i=cQ l a m b:=(hR _ (Rot.of_swp (by rw[show m-(m-i)=i by omega];exact kX q (by omega) (by omega) i (Nat.le_refl _)) (by omega) (by omega) (by omega))).eq (by omega) (by omega) h2;have c1:=(lent q (m-i) m i hq (by omega) (by omega)).x;rw[hr] at c1;(repeat first|with_reducible refine kp [0,2,4,10,11,20] ?_|simp only[kV,simprocAttr,csU]|refine aN ?_);(try simp only[kV,simprocAttr,csU,e3,hq,hq0]);refine ulk ?_;(repeat first|with_reducible refine kp [0,2,4,10] ?_|simp only[kV,simprocAttr,csU,e3,hq,hq0]|refine aN ?_);refine⟨_,_,c1,?_⟩;(repeat first|simp only[kV,simprocAttr,csU,hq0]|refine aN ?_);exact ResLt.unit _
 ·have hI:¬ (i:Int)=(j:Int):=by omega
  by_cases g:j<i
  ·have hgI:(j:Int)<(i:Int):=by omega
   have c1:=(lent q (m-i) m j hq (by omega) (by omega)).x;have e4:(i:Int)-(j:Int)=((i-j:Nat):Int):=by omega
   have hn2:¬ (swR q (m-i) m j).map tI=[]:=hne _ (by rw[fN,hq]);(repeat first|with_reducible refine kp [0,2,4,10,11,20] ?_|simp only[kV,simprocAttr,csU,hI]|refine aN ?_);(try simp only[kV,simprocAttr,csU,hI,hgI]);refine ulk ?_;(repeat first|with_reducible refine kp [0,2,4,10,11,23] ?_|simp only[kV,simprocAttr,csU,hI,hgI]|refine aN ?_);(try simp only[kV,simprocAttr,csU,e3,e4,hq,hq0]);refine ulk ?_;(repeat first|simp only[kV,simprocAttr,csU,e3,e4,hq,hq0]|refine aN ?_);refine⟨_,_,c1,?_⟩;(repeat first|with_reducible refine kp [0,2,4,10,11] ?_|simp only[kV,simprocAttr,csU,e4,hq0,fN,hq]|refine aN ?_);exact⟨(i-j,j,swR q (m-i) m j),⟨by simp only;omega,by simp only;omega,hj,hj2,by simp only;rw[fN,hq],fun p hp=>hR p (Rot.gt (b:=m+j) (by rw[show m+j-m=j by omega];exact kX q (by omega) (by omega) j (Nat.le_refl _)) (by omega) (by omega) (by
    simp only at hp
    rwa[show m-i+(m+j-m)=m-(i-j) by omega]))⟩,(Sub.toG [0,2,4,10,11] []),by simp only;omega⟩
  ·have hgI:¬ (j:Int)<(i:Int):=by omega
   have c1:=(lent q (m-i) (m+j-i) i hq (by omega) (by omega)).x;have e4:(j:Int)-(i:Int)=((j-i:Nat):Int):=by omega
   have e5:(m:Int)+(j:Int)-(i:Int)=((m+j-i:Nat):Int):=by omega
   (repeat first|with_reducible refine kp [0,2,4,10,11,20] ?_|simp only[kV,simprocAttr,csU,hI]|refine aN ?_);(try simp only[kV,simprocAttr,csU,hI,hgI]);refine ulk ?_;(repeat first|with_reducible refine kp [0,2,4,10,11,23] ?_|simp only[kV,simprocAttr,csU,hI,hgI]|refine aN ?_);(try simp only[kV,simprocAttr,csU,e3,e5,hq,hq0]);refine ulk ?_;(repeat first|simp only[kV,simprocAttr,csU,e3,e5,hq,hq0]|refine aN ?_);refine⟨_,_,c1,?_⟩;(repeat first|with_reducible refine kp [0,2,4,10,11] ?_|simp only[kV,simprocAttr,csU,e4,hq0,fN,hq]|refine aN ?_);exact⟨(i,j-i,swR q (m-i) (m+j-i) i),⟨hi,hi2,by simp only;omega,by simp only;omega,by simp only;rw[fN,hq],fun p hp=>hR p (Rot.lt (b:=m+j) (by rw[show m-(m-i)=i by omega];exact kX q (by omega) (by omega) i (Nat.le_refl _)) (by omega) (by omega) (by
    simp only at hp
    rwa[show m+j-(m-(m-i))=m+(j-i) by omega]))⟩,(Sub.toG [0,2,4,10,11] []),by simp only;omega⟩
def Dz (D X:Nat) (l:Mp.TL):Prop:=∀x∈l,Db D X x.1
theorem Dz.mono {D X Y:Nat}{l:Mp.TL} (h:Dz D X l) (k:X≤Y):Dz D Y l:=fun x hx=>(h x hx).mono k
theorem Dz.nil {D X:Nat}:Dz D X []:=fun x hx=>by cases hx
theorem Dz.sub {D X:Nat}{l m:Mp.TL} (h:Dz D X l) (k:∀x∈m,x∈l):Dz D X m:=fun x hx=>h x (k x hx)
theorem tL {D X Y:Nat}{t:Zm} (ht:Db D Y t.1):∀{l:Mp.TL},Dz D X l→Dz D (X+Y) (Mp.grow l t)
 |[],_=>by
  unfold Mp.grow;split
  ·exact Dz.nil
  ·intro x hx;rw[List.mem_singleton] at hx;rw[hx];exact ht.mono (by omega)
 |x::l,h=>by
  have h1:=h x List.mem_cons_self;have h2:Dz D X l:=h.sub fun y hy=>List.mem_cons_of_mem _ hy
  unfold Mp.grow;split
  ·split
   ·exact h2.mono (by omega)
   ·intro y hy;rcases List.mem_cons.1 hy with rfl | hy
    ·exact h1.add ht
    ·exact (h2 y hy).mono (by omega)
  ·intro y hy;rcases List.mem_cons.1 hy with rfl | hy
   ·exact h1.mono (by omega)
   ·exact tL ht h2 y hy
theorem jt {D Y:Nat}:∀{l a:Mp.TL}{X:Nat},Dz D Y l→Dz D X a→Dz D (X+l.length*Y) (Mp.growL a l)
 |[],a,X,_,h=>by rw[List.length_nil,Nat.zero_mul,Nat.add_zero];exact h
 |t::l,a,X,hl,h=>by
  have h1:=tL (hl t List.mem_cons_self) h;have h2:=jt (l:=l) (hl.sub fun y hy=>List.mem_cons_of_mem _ hy) h1;rw[List.length_cons,Nat.succ_mul,Nat.add_comm (l.length*Y) Y,←Nat.add_assoc];exact h2
theorem nY (m:Mp.TL) (t:Zm){n D X Y p:Nat} (hw:Mp.Wd n m) (ht:t.2.length=n) (hm:Dz D X m) (hy:Db D Y t.1) (hl:m.length≤1000000000) (hn:n≤1000000000) (hD:D<2^p) (hX:X+Y<2^p) (hp:p≤2048000000000) :
  Con Tryz.prog AN 53 [MZ m,tZ t] (MZ (Mp.grow m t)):=
 zdj m t (fun x hx=>by rw[hw x hx,ht]) (fun x hx=>⟨(hm x hx).Bq hD (by omega),((hm x hx).add hy).Bq hD hX⟩) (hy.Bq hD (by omega)) hl (by omega) hp
theorem nZ (c:Rat) (e:Mp.Mo):D.agg [hZ c.num,lZ c.num,hZ (c.den:Int),lZ (c.den:Int),.list 3 1 (e.map (D.int .i64))]=tZ (c,e):=rfl
theorem za5 (t:Zm):(tZ t).isAgg=true:=rfl
theorem za6 (t:Zm):(tZ t).cells.length=5:=rfl
theorem za7 {a m:Mp.TL}{i:Nat} (h:i<m.length):Mp.growL a (m.take (i+1))=Mp.grow (Mp.growL a (m.take i)) (zt m i):=by rw[jG h,Mp.growL_snoc]
theorem za8 {n:Nat}{l:Mp.TL} (h:Mp.Wd n l) (i:Nat):Mp.Wd n (l.take i):=fun x hx=>h x (List.mem_of_mem_take hx)
theorem Dz.take {D X:Nat}{l:Mp.TL} (h:Dz D X l) (i:Nat):Dz D X (l.take i):=h.sub fun x hx=>List.mem_of_mem_take hx
structure Cmp (rD:D) (l:List Tm) (lt:Tm→Tm→Bool) (cz:Tm→Tm→Int):Prop where
 con:∀x∈l,∀y∈l,Con Tryz.prog AN 110 [tI x,tI y,.ref rD] (J (cz x y))
 lt:∀x∈l,∀y∈l,(cz x y<0↔lt x y=true)
abbrev cfD (rD:D):D:=.fn (.func 110) [] [.ref rD]
theorem Cmp.perm {rD:D}{l m:List Tm}{lt:Tm→Tm→Bool}{cz:Tm→Tm→Int} (h:Cmp rD l lt cz) (p:m.Perm l):Cmp rD m lt cz:=
 ⟨fun x hx y hy=>h.con x (p.mem_iff.1 hx) y (p.mem_iff.1 hy),fun x hx y hy=>h.lt x (p.mem_iff.1 hx) y (p.mem_iff.1 hy)⟩
theorem at_mem {l:List Tm}{i:Nat} (h:i<l.length):Sy.at_ l i∈l:=by
 have:Sy.at_ l i=l[i]:=by simp[Sy.at_,h]
 rw[this];exact List.getElem_mem h
theorem wl {l:List Tm}{k:Nat} (h:k+1<l.length):(Sy.swp l (k+1) k).Perm l:=
 (Rot.pm (Rot.down (l':=l) (Rot.id (l:=l) (a:=k+1) (m:=k+1) (b:=k+1+1) (by omega) (by omega) (by omega)) (Nat.le_refl _) h) (by omega) (by omega) (by omega)).perm
theorem wm (rD:D) (l:List Tm) (lt:Tm→Tm→Bool) (cz:Tm→Tm→Int) (hc:Cmp rD l lt cz) (a b n:Nat) (h1:a+1+n=b∨(b≤a+1∧n=0)) (h2:b≤l.length) (h3:l.length≤1000000000) (ha:a≤1000000000) :
  df Tryz.prog AN 147 0 [LM l,J a,J b,cfD rD] TT 8 (l.map tI) (.tup []) ((isF lt a n l (a+1)).map tI):=by
 refine qj.conL rfl (by simp) rfl (by simp) ?_;(repeat first|simp only[kV,simprocAttr,csU,ry]|refine aN ?_);refine kp [0,1,2,3,8] ?_;(repeat first|simp only[kV,simprocAttr,csU,ry]|refine aN ?_);refine aE (ι:=Nat×Nat×List Tm) (fun s=>a+1≤s.1∧(s.1+s.2.1=b∨(b≤s.1∧s.2.1=0))∧s.2.2.Perm l∧isF lt a s.2.1 s.2.2 s.1=isF lt a n l (a+1)) (fun s=>⟨ai [(0,.slice 999999 0 l.length),(1,.p (J a)),(2,.p (J b)),(3,.p (cfD rD)),(8,.p (J s.1))],aw [(999999,⟨TT,8,.row (s.2.2.map tI),false⟩)]⟩) (fun s=>s.2.1) (a+1,n,l) ⟨Nat.le_refl _,h1,.refl _,rfl⟩ (Sub.toG [0,1,2,3,8] []) ?_;rintro⟨i,k,q⟩ ⟨hi,hk,hp,hF⟩;simp only at hi hk hp hF;have hql:=hp.length_eq;rcases k with _ | k
 ·have hI:¬ (i:Int)<(b:Int):=by omega
  have hF':q=isF lt a n l (a+1):=hF;subst hF';(repeat first|with_reducible refine kp [0,1,2,3,8,14] ?_|simp only[kV,simprocAttr,csU,hI]|refine aN ?_);refine ulk ?_;(repeat first|simp only[kV,simprocAttr,csU,hI]|refine aN ?_);exact ResLt.unit _
 ·have hib:i<b:=by omega
  have hI:(i:Int)<(b:Int):=by omega
  (repeat first|with_reducible refine kp [0,1,2,3,8,14] ?_|simp only[kV,simprocAttr,csU,hI]|refine aN ?_);refine ulk ?_;(repeat first|simp only[kV,simprocAttr,csU,hI]|refine aN ?_);refine kp [0,1,2,3,8] ?_;(repeat first|simp only[kV,simprocAttr,csU,hI]|refine aN ?_);refine kp [0,1,2,3,8,9] ?_;(repeat first|simp only[kV,simprocAttr,csU,hI]|refine aN ?_);refine aE (ι:=Nat×List Tm) (fun s=>a≤s.1∧s.1≤i∧s.2.Perm l∧dnF lt a s.2 s.1=dnF lt a q i) (fun s=>⟨ai [(0,.slice 999999 0 l.length),(1,.p (J a)),(2,.p (J b)),(3,.p (cfD rD)),(8,.p (J i)),(9,.p (J s.1))],aw [(999999,⟨TT,8,.row (s.2.map tI),false⟩)]⟩) (fun s=>s.1) (i,q) ⟨by simp only;omega,Nat.le_refl _,hp,rfl⟩ (Sub.toG [0,1,2,3,8,9] []) ?_;rintro⟨j,p⟩ ⟨hj,hji,hpp,hD⟩;simp only at hj hji hpp hD;have hpl:=hpp.length_eq;by_cases h:a<j
  ·obtain⟨j,rfl⟩:∃y,j=y+1:=⟨j-1,by omega⟩
   have hJ:(a:Int)<((j+1:Nat):Int):=by omega
   have hJ2:(a:Int)<(j:Int)+1:=by omega
   have e1:((j+1:Nat):Int)-1=(j:Int):=by omega
   have e2:(j:Int)+1-1=(j:Int):=by omega
   have e3:(j:Int)+1=((j+1:Nat):Int):=by omega
   have g1:=bY (l:=p) (i:=j+1) (by omega);have g2:=bY (l:=p) (i:=j) (by omega);have hx:Sy.at_ p (j+1)∈l:=hpp.mem_iff.1 (at_mem (by omega));have hy:Sy.at_ p j∈l:=hpp.mem_iff.1 (at_mem (by omega));have hcon:=hc.con _ hx _ hy;have hlt:=hc.lt _ hx _ hy;cases hb:lt (Sy.at_ p (j+1)) (Sy.at_ p j) with
   |true =>
    have hz:cz (Sy.at_ p (j+1)) (Sy.at_ p j)<0:=hlt.2 hb;rw[sS h hb] at hD;(repeat first|simp only[kV,simprocAttr,csU,hJ,hJ2,e1,e2,g1,g2,hpl]|refine aN ?_);refine⟨by decide,_,cx (hcon),ulc ?_⟩;(repeat first|with_reducible refine kp [0,1,2,3,8,9,34] ?_|simp only[kV,simprocAttr,csU,hJ,hJ2,hz]|refine aN ?_);(try simp only[kV,simprocAttr,csU,hJ,hJ2,e1,e2,g1,g2,hpl]);refine ulk ?_;(repeat first|with_reducible refine kp [0,1,2,3,8,9] ?_|simp only[kV,simprocAttr,csU,hJ,hJ2,e1,e2,g1,g2,hpl]|refine aN ?_);exact⟨(j,Sy.swp p (j+1) j),⟨by simp only;omega,by simp only;omega,(wl (by omega)).trans hpp,hD⟩,(Sub.toG [0,1,2,3,8,9] []),by simp only;omega⟩
   |false =>
    have hz:¬ cz (Sy.at_ p (j+1)) (Sy.at_ p j)<0:=fun hh=>by rw[hlt.1 hh] at hb;cases hb
    rw[sT (.inr ⟨j,rfl,hb⟩)] at hD;subst hD;(repeat first|simp only[kV,simprocAttr,csU,hJ,hJ2,e1,e2,g1,g2,hpl]|refine aN ?_);refine⟨by decide,_,cx (hcon),ulc ?_⟩;(repeat first|with_reducible refine kp [0,1,2,3,8,9,34] ?_|simp only[kV,simprocAttr,csU,hJ,hJ2,hz]|refine aN ?_);refine ulk ?_;(repeat first|with_reducible refine kp [0,1,2,3,8] ?_|simp only[kV,simprocAttr,csU,hJ,hJ2]|refine aN ?_);exact⟨(i+1,k,dnF lt a q i),⟨by simp only;omega,by simp only;omega,hpp,hF⟩,(Sub.toG [0,1,2,3,8] []),by simp only;omega⟩
  ·have hJ:¬ (a:Int)<(j:Int):=by omega
   obtain rfl:j=a:=by omega
   rw[sT (.inl rfl)] at hD;subst hD;(repeat first|simp only[kV,simprocAttr,csU,hJ]|refine aN ?_);refine ulc ?_;(repeat first|with_reducible refine kp [0,1,2,3,8,9,34] ?_|simp only[kV,simprocAttr,csU,hJ]|refine aN ?_);refine ulk ?_;(repeat first|with_reducible refine kp [0,1,2,3,8] ?_|simp only[kV,simprocAttr,csU,hJ]|refine aN ?_);exact⟨(i+1,k,dnF lt j q i),⟨by simp only;omega,by simp only;omega,hpp,hF⟩,(Sub.toG [0,1,2,3,8] []),by simp only;omega⟩
end Go.Proofs.YtbnhgnhgbhjkcaaGreat.M
