/- Lemmas. -/
import Derived.Test.YtdchbabgopglcaaC32
import Derived.Test.YtdchbabgopglcaaC33
import Derived.Laws.EntriesVeiled
set_option linter.defProp false
set_option linter.unusedSimpArgs false
set_option linter.unusedVariables false
namespace Go.Proofs.Ytdchbabgopglcaa.M
open Go.RowKit
set_option maxHeartbeats 2000000
def hI (z:Int):D:=.bool (decide (z<0))
def lI (z:Int):D:=.list 100 1 ((digs 4294967296 z.natAbs).map (D.int .u32))
def hZ (z:Int):D:=.bool (decide (z<0))
def lZ (z:Int):D:=.list 3 1 ((digs 10000 z.natAbs).map (D.int .i64))
theorem QX (z:Int):(hI z).one=true:=rfl
theorem QY (z:Int):(lI z).one=true:=rfl
theorem QZ (z:Int):(hZ z).one=true:=rfl
theorem Q0 (z:Int):(lZ z).one=true:=rfl
theorem Q1 (z:Int):(aT z).cells=[hI z,lI z]:=rfl
theorem Q2 (z:Int):(aF z).cells=[hZ z,lZ z]:=rfl
theorem Q3 (a b:Int):(cT a b).cells=[hI a,lI a,hI (b-1),lI (b-1)]:=rfl
theorem Q4 (a b:Int):(cB a b).cells=[hZ a,lZ a,hZ b,lZ b]:=rfl
theorem Q5 (z:Int):(aT z).isAgg=true:=rfl
theorem Q6 (z:Int):(aF z).isAgg=true:=rfl
theorem Q7 (a b:Int):(cT a b).isAgg=true:=rfl
theorem Q8 (a b:Int):(cB a b).isAgg=true:=rfl
theorem Q9 (z:Int):D.agg [hZ z,lZ z]=aF z:=rfl
theorem Ra (a b:Int):D.agg [hZ a,lZ a,hZ b,lZ b]=cB a b:=rfl
theorem Rb (b:Int):D.agg [.bool false,.list 3 1 [],hZ b,lZ b]=cB 0 b:=by
 have e:digs 10000 0=[]:=by rw[digs];simp
 unfold cB;rw[show (0:Int).natAbs=0 from rfl,e];rfl
theorem Rc (a b:Int):(cB a b).part 0 2 true=some (aF a):=rfl
theorem Rd (a b:Int):(cB a b).part 2 2 true=some (aF b):=rfl
theorem mo (n:Nat) (h:n≠0):Bt 1 n:=by unfold Bt;exact Nat.one_lt_two_pow h
theorem gg:Bt 1 4000:=mo 4000 (by omega)
theorem Re (t:List UInt8) (k:Nat):(t.drop k).take (t.length-k)=t.drop k:=List.take_of_length_le (by simp)
theorem Rf (t:List UInt8) (k:Nat):(t.drop (k+1)).take (t.length-k-1)=t.drop (k+1):=List.take_of_length_le (by simp;omega)
theorem Rg (t:List UInt8) (i:Nat):(((t.getD i 0).toNat:Nat):Int)=(byt t i:Int):=rfl
def csN:=an @QX (an @QY (an @QZ (an @Q0 (an @Q1 (an @Q2 (an @Q3 (an @Q4 (an @Q5 (an @Q6 (an @Q7 (an @Q8 (an @Q9 (an @Ra (an @Rb (an @Rc (an @Rd (an @Re (an @Rf (@Rg)))))))))))))))))))
def csM:=an csN (an @AV.mk.eq_1 (an @dV.eq_1 (an @dV.eq_2 (an @AV.pure.eq_1 (an @AV.pure.eq_2 (an @AV.pure.eq_3 (an @AV.pure.eq_4 (an @cZ.eq_1 (an @cZ.eq_2 (an @flt.eq_1 (an @AV.get.eq_1 (an @AV.part.eq_1 (an @AV.part.eq_2 (an @D.part.eq_1 (@eW.eq_1)))))))))))))))
theorem ax (z:Int):D.agg [hI z,lI z]=aT z:=rfl
theorem ay (a b:Int):D.agg [hI a,lI a,hI (b-1),lI (b-1)]=cT a b:=rfl
theorem aM (a:Int):D.agg [hI a,lI a,.bool false,.list 100 1 []]=cT a 1:=by
 have e:digs 4294967296 0=[]:=by rw[digs];simp
 unfold cT;rw[show ((1:Int)-1).natAbs=0 from rfl,e];rfl
theorem aO:D.agg [.bool false,.list 100 1 [],.bool false,.list 100 1 []]=cT 0 1:=by
 have e:digs 4294967296 0=[]:=by rw[digs];simp
 unfold cT;rw[show (0:Int).natAbs=0 from rfl,show ((1:Int)-1).natAbs=0 from rfl,e];rfl
theorem Rh (a b:Int) (n:Nat) (ba:Bt a n) (bb:Bt b n) (hn:n≤2048000000000):Con Try.prog AN 53 [cT a b] (aT b):=by
 have c2:=qD (b-1) 1 (n+1) (qz bb) (mo _ (Nat.succ_ne_zero n)) (by omega);rw[show b-1+1=b by omega] at c2;refine zZ.con rfl (by simp) ?_;(repeat first|with_reducible refine kp [1,2] ?_|simp only[kV,simprocAttr,csM,ax,ay,bh]|refine aN ?_);refine⟨_,cx (cOf 1 (by omega)),ulc ?_⟩;(repeat first|simp only[kV,simprocAttr,csM,ax,ay]|refine aN ?_);refine⟨_,cx (c2),ulc ?_⟩;(repeat first|with_reducible refine kp [2] ?_|simp only[kV,simprocAttr,csM,ax,ay,ac,af,ae,ah]|refine aN ?_)
theorem Ri (a b:Int) (n:Nat) (ba:Bt a n) (bb:Bt b n) (hn:n≤4147200000000) (hb0:b≠0):Con Try.prog AN 34 [aT a,aT b] (cT (frN a b) (frD a b)):=by
 have hng:=qx (a:=a) hb0;have cg:=RF a b n ba bb hn;have bg:Bt (Int.gcd a b:Int) n:=bb.le (by
  have:=Nat.le_of_dvd (by omega) (Int.gcd_dvd_natAbs_right a b);omega)
 have hN:frN a b=if b / (Int.gcd a b:Int)<0 then -(a / (Int.gcd a b:Int)) else a / (Int.gcd a b:Int):=rfl
 have hD:frD a b=if b / (Int.gcd a b:Int)<0 then -(b / (Int.gcd a b:Int)) else b / (Int.gcd a b:Int):=rfl
 generalize (Int.gcd a b:Int)=g at *;have c1:=mt a g n ba bg hn hng;have c2:=mt b g n bb bg hn hng;have q1:Bt (a / g) n:=gu g ba;have q2:Bt (b / g) n:=gu g bb;have o1:=cOf 1 (by omega);have b1:=mo (n+1) (Nat.succ_ne_zero n);have cs:=qG (b / g) n q2 (by omega);by_cases h:b / g<0
 ·rw[if_pos h] at hN hD;have hs:=qy.2 h;have c3:=qF (a / g) n q1 (by omega);have c4:=qF (b / g) n q2 (by omega);have c5:=qE (-(b / g)) 1 (n+1) (q2.neg.mono (Nat.le_succ n)) b1 (by omega);rw[hN,hD];refine nK.con rfl (by simp) ?_;(repeat first|with_reducible refine kp [2,3,4] ?_|simp only[kV,simprocAttr,csM,ax,ay,aw]|refine aN ?_);refine⟨_,cx (cg),ulc ?_⟩;(repeat first|with_reducible refine kp [2,3,4,5] ?_|simp only[kV,simprocAttr,csM,ax,ay]|refine aN ?_);refine⟨_,cx (c1),ulc ?_⟩;(repeat first|with_reducible refine kp [2,3,4,5] ?_|simp only[kV,simprocAttr,csM,ax,ay,flt]|refine aN ?_);refine⟨_,cx (c2),ulc ?_⟩;(repeat first|with_reducible refine kp [2,3,4] ?_|simp only[kV,simprocAttr,csM,ax,ay,flt]|refine aN ?_);refine⟨_,cx (cs),ulc ?_⟩;(repeat first|with_reducible refine kp [2,3,4,25] ?_|simp only[kV,simprocAttr,csM,ax,ay,hs]|refine aN ?_);refine ulk ?_;(repeat first|simp only[kV,simprocAttr,csM,ax,ay,hs]|refine aN ?_);refine⟨_,cx (c3),ulc ?_⟩;(repeat first|simp only[kV,simprocAttr,csM,ax,ay]|refine aN ?_);refine⟨_,cx (c4),ulc ?_⟩;(repeat first|with_reducible refine kp [2,3,4] ?_|simp only[kV,simprocAttr,csM,ax,ay]|refine aN ?_);refine⟨_,cx (o1),ulc ?_⟩;(repeat first|simp only[kV,simprocAttr,csM,ax,ay]|refine aN ?_);refine⟨_,cx (c5),ulc ?_⟩;(repeat first|with_reducible refine kp [4] ?_|simp only[kV,simprocAttr,csM,ax,ay,ac,af,ae,ah]|refine aN ?_)
 ·rw[if_neg h] at hN hD;have hs:¬ bR (b / g)<0:=fun hh=>h (qy.1 hh)
  have c5:=qE (b / g) 1 (n+1) (q2.mono (Nat.le_succ n)) b1 (by omega);rw[hN,hD];refine nK.con rfl (by simp) ?_;(repeat first|with_reducible refine kp [2,3,4] ?_|simp only[kV,simprocAttr,csM,ax,ay,aw]|refine aN ?_);refine⟨_,cx (cg),ulc ?_⟩;(repeat first|with_reducible refine kp [2,3,4,5] ?_|simp only[kV,simprocAttr,csM,ax,ay]|refine aN ?_);refine⟨_,cx (c1),ulc ?_⟩;(repeat first|with_reducible refine kp [2,3,4,5] ?_|simp only[kV,simprocAttr,csM,ax,ay,flt]|refine aN ?_);refine⟨_,cx (c2),ulc ?_⟩;(repeat first|with_reducible refine kp [2,3,4] ?_|simp only[kV,simprocAttr,csM,ax,ay,flt]|refine aN ?_);refine⟨_,cx (cs),ulc ?_⟩;(repeat first|with_reducible refine kp [2,3,4,25] ?_|simp only[kV,simprocAttr,csM,ax,ay,hs]|refine aN ?_);refine ulk ?_;(repeat first|with_reducible refine kp [2,3,4] ?_|simp only[kV,simprocAttr,csM,ax,ay,hs]|refine aN ?_);refine⟨_,cx (o1),ulc ?_⟩;(repeat first|simp only[kV,simprocAttr,csM,ax,ay]|refine aN ?_);refine⟨_,cx (c5),ulc ?_⟩;(repeat first|with_reducible refine kp [4] ?_|simp only[kV,simprocAttr,csM,ax,ay,ac,af,ae,ah]|refine aN ?_)
theorem kh {z:Int}{n:Nat} (h:Bt z n) (hn:n≤2048000000000):(dec z).length≤8796093022210:=No (fsm h hn)
theorem qQ (a b:Int) (n:Nat) (ba:Bt a n) (bb:Bt b n) (hn:n≤2048000000000):Con Try.prog AN 35 [cT a b] (.str (dm a b)):=by
 have e1:bR (b-1)=0↔b=1:=by rw[Qu];omega
 have cs:=qG (b-1) (n+1) (qz bb) (by omega);have l1:=kh ba hn;have l2:=kh bb hn;by_cases hb:b=1
 ·have hs:=e1.2 hb;rw[show dm a b=dec a from if_pos hb];refine nL.con rfl (by simp) ?_;(repeat first|with_reducible refine kp [1] ?_|simp only[kV,simprocAttr,csM,ax,ay,bh]|refine aN ?_);refine⟨_,cx (cs),ulc ?_⟩;(repeat first|with_reducible refine kp [1,6] ?_|simp only[kV,simprocAttr,csM,ax,ay,hs]|refine aN ?_);refine ulk ?_;(repeat first|simp only[kV,simprocAttr,csM,ax,ay,hs]|refine aN ?_);refine⟨_,cx (mi a n ba hn),ulc ?_⟩;(repeat first|with_reducible refine kp [2] ?_|simp only[kV,simprocAttr,csM,ax,ay,ac,af,ae,ah]|refine aN ?_)
 ·have hs:¬ bR (b-1)=0:=fun h=>hb (e1.1 h)
  rw[show dm a b=dec a++47::dec b from if_neg hb];refine nL.con rfl (by simp) ?_;(repeat first|with_reducible refine kp [1] ?_|simp only[kV,simprocAttr,csM,ax,ay,bh]|refine aN ?_);refine⟨_,cx (cs),ulc ?_⟩;(repeat first|with_reducible refine kp [1,6] ?_|simp only[kV,simprocAttr,csM,ax,ay,hs]|refine aN ?_);refine ulk ?_;(repeat first|with_reducible refine kp [1] ?_|simp only[kV,simprocAttr,csM,ax,ay,hs]|refine aN ?_);refine⟨_,cx (mi a n ba hn),ulc ?_⟩;(repeat first|simp only[kV,simprocAttr,csM,ax,ay]|refine aN ?_);refine⟨_,cx (Rh a b n ba bb hn),ulc ?_⟩;(repeat first|simp only[kV,simprocAttr,csM,ax,ay]|refine aN ?_);refine⟨_,cx (mi b n bb hn),ulc ?_⟩;(repeat first|with_reducible refine kp [2] ?_|simp only[kV,simprocAttr,csM,ax,ay,ac,af,ae,ah]|refine aN ?_);rw[List.append_assoc];rfl
theorem mp (a b:Int) (n:Nat) (ba:Bt a n) (bb:Bt b n) (hn:n≤2048000000000):Con Try.prog AN 41 [cB a b] (.str (dm a b)):=by
 have l1:=kh ba hn;have l2:=kh bb hn;by_cases hb:b=1
 ·have hs:=Z4.dec_one.2 hb;rw[show dm a b=dec a from if_pos hb];refine nf.con rfl (by simp) ?_;(repeat first|with_reducible refine kp [1] ?_|simp only[kV,simprocAttr,csM,ax,ay,bh]|refine aN ?_);refine⟨_,cx (iT b n bb hn),ulc ?_⟩;(repeat first|with_reducible refine kp [1,6] ?_|simp only[kV,simprocAttr,csM,ax,ay,hs]|refine aN ?_);refine ulk ?_;(repeat first|simp only[kV,simprocAttr,csM,ax,ay,hs]|refine aN ?_);refine⟨_,cx (iT a n ba hn),ulc ?_⟩;(repeat first|with_reducible refine kp [2] ?_|simp only[kV,simprocAttr,csM,ax,ay,ac,af,ae,ah]|refine aN ?_)
 ·have hs:¬ dec b=[49]:=fun h=>hb (Z4.dec_one.1 h)
  rw[show dm a b=dec a++47::dec b from if_neg hb];refine nf.con rfl (by simp) ?_;(repeat first|with_reducible refine kp [1] ?_|simp only[kV,simprocAttr,csM,ax,ay,bh]|refine aN ?_);refine⟨_,cx (iT b n bb hn),ulc ?_⟩;(repeat first|with_reducible refine kp [1,6] ?_|simp only[kV,simprocAttr,csM,ax,ay,hs]|refine aN ?_);refine ulk ?_;(repeat first|with_reducible refine kp [1] ?_|simp only[kV,simprocAttr,csM,ax,ay,hs]|refine aN ?_);refine⟨_,cx (iT a n ba hn),ulc ?_⟩;(repeat first|simp only[kV,simprocAttr,csM,ax,ay]|refine aN ?_);refine⟨_,cx (iT b n bb hn),ulc ?_⟩;(repeat first|with_reducible refine kp [2] ?_|simp only[kV,simprocAttr,csM,ax,ay,ac,af,ae,ah]|refine aN ?_);rw[List.append_assoc];rfl
end Go.Proofs.Ytdchbabgopglcaa.M
namespace Go.Proofs.Ytdchbabgopglcaa
open Go.RowKit Go.Proofs.Ytdchbabgopglcaa.M
set_option maxRecDepth 100000
set_option maxHeartbeats 1000000
theorem Mt.get {w:World}{N:Nat→Prop}{T U X:Nat}{L:List (Value×Nat)}{m:List (Fm×Nat)} (h:Mt w N T U X L m):∀(i:Nat) (y:Fm×Nat),m[i]? = some y→∃v,L[i]? = some (v,y.2)∧V w N v (.ref (fmD T U X y.1)):=by
 induction h with
 |nil=>exact fun i y hy=>by cases hy
 |cons hv _ ih =>
  intro i y hy;cases i with
  |zero =>
   simp only[List.getElem?_cons_zero,Option.some.injEq] at hy;subst hy;exact⟨_,rfl,hv⟩
  |succ i=>exact ih i y (by simpa using hy)
theorem rA:∀(L:List (Value×Nat)) (i:Nat) (x:Value×Nat),L[i]? = some x→(ndC L)[i*2]? = some x.1∧(ndC L)[i*2+1]? = some (.int .u64 x.2)
 |[],i,x,h=>by cases h
 |y::L,0,x,h=>by
  simp only[List.getElem?_cons_zero,Option.some.injEq] at h;subst h;exact⟨rfl,rfl⟩
 |y::L,i+1,x,h=>by
  have ih:=rA L i x (by simpa using h);have e:ndC (y::L)=y.1::.int .u64 y.2::ndC L:=rfl;rw[e,show (i+1)*2=i*2+1+1 by omega];exact⟨by simpa using ih.1,by simpa using ih.2⟩
abbrev ndD (T U X:Nat) (x:Fm×Nat):D:=.agg [.ref (fmD T U X x.1),.int .u64 x.2]
theorem Td {W0 w:World}{N N':Nat→Prop}{T U X:Nat}{v:Value}{L:List (Value×Nat)}{M:List (Fm×Nat)} (hrow:w.ownsRow W0.heap.size NdT 2 v L.length (ndC L)) (hm:Mt W0 N T U X L M) (hE:Ext W0 w) (hN:∀b,N b→b<W0.heap.size) (hNN:∀b,N b→N' b)
  (hnew:∀b,W0.heap.size≤b→b<w.heap.size→N' b):V w N' v (.list NdT 2 (M.map (ndD T U X))):=by
 have hlen:=hm.len;rcases hrow.2 with⟨rfl,h0⟩ | ⟨g,cap,cur,rfl,hb,hg,h1,h2,h3,h4⟩
 ·have:M=[]:=List.eq_nil_of_length_eq_zero (by omega);subst this;exact .empty none 0 _ _ (by omega)
 ·have hmax:maxLen=9223372036854775807:=rfl;have hgl:=lt_of_block hg;have hcur:∀k x,(ndC L)[k]? = some x→k<cur.size∧cur.getD k undef=x:=fun k x hx=>by
   rw[←h4,List.getElem?_take] at hx;split at hx
   ·have hk:=(List.getElem?_eq_some_iff.1 hx).1;simp only[Array.length_toList] at hk;refine⟨hk,?_⟩;rw[Array.getElem?_toList] at hx;rw[Array.getD_eq_getD_getElem?,hx];rfl
   ·cases hx
  have key:∀i e j d,(M.map (ndD T U X))[i]? = some e→e.cells[j]? = some d→i*2+j<cur.size∧V w N' (cur.getD (i*2+j) undef) d:=fun i e j d he hd=>by
   rw[List.getElem?_map,Option.map_eq_some_iff] at he;obtain⟨y,hy,rfl⟩:=he;obtain⟨u,hu,hV⟩:=hm.get i y hy;obtain⟨c0,c1⟩:=rA L i _ hu
   match j,hd with
   |0,hd =>
    obtain⟨k1,k2⟩:=hcur _ _ c0;have hd:some (D.ref (fmD T U X y.1))=some d:=hd;cases hd;refine⟨k1,?_⟩;rw[Nat.add_zero,k2];exact hV.mono (fun b hb=>hE.block b (hN b hb)) hNN
   |1,hd =>
    obtain⟨k1,k2⟩:=hcur _ _ c1;have hd:some (D.int .u64 y.2)=some d:=hd;cases hd;exact⟨k1,by rw[k2];exact .int _ _⟩
   |j+2,hd=>exact absurd hd (by simp[ndD,D.cells])
  have hl2:(M.map (ndD T U X)).length=L.length:=by rw[List.length_map,hlen]
  have:=V.list (w:=w) (N:=N') g 0 cap NdT 2 (M.map (ndD T U X)) cur (0,0) (.of hg) (hnew g hb hgl) (by omega) (by omega) (fun e he=>by
   obtain⟨y,hy,rfl⟩:=List.mem_map.1 he;refine⟨rfl,fun q hq => ?_⟩;have hq:q∈[D.ref (fmD T U X y.1),.int .u64 y.2]:=hq;simp only[List.mem_cons,List.not_mem_nil,or_false] at hq;rcases hq with rfl | rfl<;>rfl) (fun i e j d he hd=>by rw[Nat.zero_add];exact (key i e j d he hd).1) (fun i e j d he hd=>by rw[Nat.zero_add];exact (key i e j d he hd).2)
  rwa[hl2] at this
theorem Te (T U X:Nat) (f:Fm) (hc:(ndM f 0).length*16≤140737488355328):M.Con Try.prog [] 13 [.ref (fmD T U X f)] (.list NdT 2 ((ndM f 0).map (ndD T U X))):=by
 intro own w vs hlow hav hsz hargs;have e:vs = #[vs.getD 0 undef]:=by
  obtain⟨vs⟩:=vs
  match vs,hsz with
  |[x],_=>rfl
 rw[e];have hV:=hargs 0 _ rfl;generalize vs.getD 0 undef=v at hV;clear hargs hav hsz e;obtain⟨f0,hf0⟩:∃f0,f0=f:=⟨f,rfl⟩
 obtain⟨kd,p,rel,vv,k,gs⟩:=f;obtain⟨b,o,sv,rfl,hNb,hblt,-⟩:=qT hV;rw[←hf0] at hV hc ⊢;clear hf0;obtain⟨A,hA⟩:∃A,A=w.alloc (Obj.cells #[Value.slice none 0 0] 41):=⟨_,rfl⟩
 have hAs:A.heap.size=w.heap.size+1:=by rw[hA,World.size_alloc]
 have hbw0:=heap_alloc_new A (Obj.cells #[Value.nilFunc] 58);have hbw:=heap_alloc_new A (Obj.cells #[WkV w.heap.size (w.heap.size+1)] 58);rw[hAs] at hbw0 hbw;have hbo:(A.alloc (Obj.cells #[WkV w.heap.size (w.heap.size+1)] 58)).heap[w.heap.size]? = some (.cells #[Value.slice none 0 0] 41 (0,0)):=(Below.heap_alloc _ _ _ (by omega)).trans (by rw[hA];exact heap_alloc_new w _);have hE2:Ext w (A.alloc (Obj.cells #[WkV w.heap.size (w.heap.size+1)] 58)):=by rw[hA];exact ((Ext.rf w).al _).al _
 have IH:=hd_ (Ry T U X f0 0 w _ _ _ (.slice none 0 0) [] w.heap.size (w.heap.size+1) (by decide) (fun b hb=>hb.1) hV hE2 (Nat.le_refl _) (Nat.le_succ _) hbo hbw (World.ownsRow_nil _ _ _ _) (by simpa using hc));have q1:=cell_of_one hbw0;have q2:=free_of_one hbw0;rw[hA] at q1 q2 IH;clear hbo hbw hbw0 hE2 hV hA hAs;go_enter Try.func13,Try.ntmps13;go_wp2_with (go_at_call 25;refine (IH.out).mono ?_;rintro e w' ⟨rfl,hE',hcw',s2,L2,hco',hrow',hmt'⟩;obtain⟨ya,yn,yc,rfl⟩:=qU hrow';have k1:=cell_of_one hco');go_ret;refine⟨_,rfl,?_,hE'⟩;exact Td hrow' hmt' hE' (fun b hb=>hb.1) (fun b hb=>⟨Nat.lt_of_lt_of_le hb.1 hE'.size,hb.2⟩) fun b h1 h2=>⟨h2,fun h=>absurd (hlow b h) (by omega)⟩
end Go.Proofs.Ytdchbabgopglcaa
