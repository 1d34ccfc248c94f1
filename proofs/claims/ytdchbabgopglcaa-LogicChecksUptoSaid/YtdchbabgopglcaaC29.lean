/- Lemmas. -/
import Derived.Test.YtdchbabgopglcaaC28
import Derived.Test.YtdchbabgopglcaaC20
import Derived.ProofKit
set_option linter.defProp false
set_option linter.unusedSimpArgs false
set_option linter.unusedVariables false
namespace Go.Proofs.Ytdchbabgopglcaa.M
open Go.RowKit
set_option maxRecDepth 20000
set_option maxHeartbeats 4000000
def dA (a b:List Int):Nat→Nat→Int→List Int→List Int
 |0,_,_,out=>out
 |f+1,i,c,out=>if i<a.length∨i<b.length∨0<c then dA a b f (i+1) ((c+at_ a i+at_ b i) / 10000) (out++[(c+at_ a i+at_ b i) % 10000]) else out
theorem nN {a b:List Int} (ha:Z4.Dig a) (hb:Z4.Dig b){m:Nat} (h1:a.length≤m) (h2:b.length≤m):∀{f i:Nat}{c:Int}{out:List Int},Z4.Dig out→out.length=i→0≤c→c≤1→Z4.valL out+c*10000^i=Z4.valL (a.take i)+Z4.valL (b.take i)→m+1≤f+i→(i≤m∨c=0) →
  Z4.Dig (dA a b f i c out)∧Z4.valL (dA a b f i c out)=Z4.valL a+Z4.valL b∧(dA a b f i c out).length≤max (m+1) i
 |0,i,c,out,hd,hl,c0,c1,hv,hf,hc=>by
  have hc0:c=0:=hc.resolve_left (by omega);rw[hc0,Int.zero_mul,Int.add_zero,Z4.valL_take_all (by omega),Z4.valL_take_all (by omega)] at hv;exact⟨hd,hv,by unfold dA;omega⟩
 |f+1,i,c,out,hd,hl,c0,c1,hv,hf,hc=>by
  have da:=ha.at_ i;have db:=hb.at_ i;unfold dA;by_cases h:i<a.length∨i<b.length∨0<c
  ·rw[if_pos h];have hx:0≤(c+at_ a i+at_ b i) % 10000∧(c+at_ a i+at_ b i) % 10000≤9999:=by omega
   have:=nN ha hb h1 h2 (f:=f) (i:=i+1) (c:=(c+at_ a i+at_ b i) / 10000) (out:=out++[(c+at_ a i+at_ b i) % 10000]) (hd.snoc hx) (by simp[hl]) (by omega) (by omega) ?_ (by omega) ?_
   ·exact⟨this.1,this.2.1,by have:=this.2.2;rcases h with h | h | h<;>omega⟩
   ·rw[Z4.valL_snoc,hl,Z4.valL_take_succ,Z4.valL_take_succ,Int.pow_succ];have e:(c+at_ a i+at_ b i)=10000*((c+at_ a i+at_ b i) / 10000)+(c+at_ a i+at_ b i) % 10000:=by omega
    generalize (c+at_ a i+at_ b i) / 10000=q at *;generalize (c+at_ a i+at_ b i) % 10000=r at *;generalize (10000:Int)^i=p at *;grind
   ·by_cases hm:i<m
    ·exact .inl (by omega)
    ·right
     have e1:at_ a i=0:=a8 (by omega);have e2:at_ b i=0:=a8 (by omega);rw[e1,e2];omega
  ·rw[if_neg h];have hc0:c=0:=by omega
   rw[hc0,Int.zero_mul,Int.add_zero,Z4.valL_take_all (by omega),Z4.valL_take_all (by omega)] at hv;exact⟨hd,hv,by omega⟩
abbrev fJ (a b:List Int):List Int:=dA a b (max a.length b.length+1) 0 0 []
theorem Bv {a b:List Int} (ha:Z4.Dig a) (hb:Z4.Dig b):Z4.Dig (fJ a b)∧Z4.valL (fJ a b)=Z4.valL a+Z4.valL b∧(fJ a b).length≤max a.length b.length+1:=by
 have:=nN ha hb (Nat.le_max_left a.length b.length) (Nat.le_max_right a.length b.length) (f:=max a.length b.length+1) (i:=0) (c:=0) (out:=[]) (fun x hx=>by cases hx) rfl (by omega) (by omega) (by simp[Z4.valL]) (by omega) (.inl (by omega));exact⟨this.1,this.2.1,Nat.le_trans this.2.2 (by omega)⟩
theorem ib (l:List Int) (x:Int):l.map (D.int .i64)++[.int .i64 x]=(l++[x]).map (D.int .i64):=by rw[List.map_append];rfl
theorem Bw (x:Int):(List.replicate 1 (0:Int)).set 0 x=[x]:=rfl
theorem By (x:Int):List.take 1 [x]=[x]:=rfl
theorem Bz (x:Int):[x].length=1:=rfl
def csQ:=an @Bw (an @By (an @Bz csC))
abbrev dS (a b o:List Int) (c:Int) (i:Nat):St:=⟨av [(0,.p (LJ a)),(1,.p (LJ b)),(5,.slice 205 0 o.length),(6,.p (.int .i64 c)),(7,.p (.int .i64 i))],az [(205,⟨3,1,.row (o.map (D.int .i64)),false⟩)]⟩
theorem BA (a b o:List Int) (c:Int) (i:Nat) (ha:Z4.Dig a) (c0:0≤c) (c1:c≤20000) (Q:AExit→St→Prop) (hQ:∀s,Sub [3] s (dS a b o (c+at_ a i) i)→Q .normal s) :
  cw [3] (ConX Try.prog []) m0 Q (dS a b o c i):=by
 have da:=ha.at_ i;by_cases h:i<a.length
 ·have hI:(i:Int)<(a.length:Int):=by omega
  have g1:=atJ h;skip
  (repeat first|with_reducible refine kp [0,1,5,6,7,27] ?_|simp only[kV,simprocAttr,csC]|refine aN ?_);(try simp only[kV,simprocAttr,csC,hI,h,g1]);refine ulk ?_;(repeat first|simp only[kV,simprocAttr,csC,hI,h,g1]|refine aN ?_);exact hQ _ (Sub.toG [0,1,5,6,7] [])
 ·have hI:¬ (i:Int)<(a.length:Int):=by omega
  rw[a8 (by omega),Int.add_zero] at hQ;skip
  (repeat first|with_reducible refine kp [0,1,5,6,7,27] ?_|simp only[kV,simprocAttr,csC]|refine aN ?_);(try simp only[kV,simprocAttr,csC,hI]);refine ulk ?_;(repeat first|simp only[kV,simprocAttr,csC,hI]|refine aN ?_);exact hQ _ (Sub.toG [0,1,5,6,7] [])
theorem BB (a b o:List Int) (c:Int) (i:Nat) (hb:Z4.Dig b) (c0:0≤c) (c1:c≤20000) (Q:AExit→St→Prop) (hQ:∀s,Sub [3] s (dS a b o (c+at_ b i) i)→Q .normal s) :
  cw [3] (ConX Try.prog []) m5 Q (dS a b o c i):=by
 have db:=hb.at_ i;by_cases h:i<b.length
 ·have hI:(i:Int)<(b.length:Int):=by omega
  have g1:=atJ h;skip
  (repeat first|with_reducible refine kp [0,1,5,6,7,37] ?_|simp only[kV,simprocAttr,csC]|refine aN ?_);(try simp only[kV,simprocAttr,csC,hI,h,g1]);refine ulk ?_;(repeat first|simp only[kV,simprocAttr,csC,hI,h,g1]|refine aN ?_);exact hQ _ (Sub.toG [0,1,5,6,7] [])
 ·have hI:¬ (i:Int)<(b.length:Int):=by omega
  rw[a8 (by omega),Int.add_zero] at hQ;skip
  (repeat first|with_reducible refine kp [0,1,5,6,7,37] ?_|simp only[kV,simprocAttr,csC]|refine aN ?_);(try simp only[kV,simprocAttr,csC,hI]);refine ulk ?_;(repeat first|simp only[kV,simprocAttr,csC,hI]|refine aN ?_);exact hQ _ (Sub.toG [0,1,5,6,7] [])
theorem BC (a b:List Int) (ha:Z4.Dig a) (hb:Z4.Dig b) (hla:a.length≤1000000000000) (hlb:b.length≤1000000000000):Con Try.prog [] 88 [LJ a,LJ b] (LJ (fJ a b)):=by
 obtain⟨m,hm⟩:∃m,m=max a.length b.length:=⟨_,rfl⟩
 have hm1:a.length≤m:=by omega
 have hm2:b.length≤m:=by omega
 have hm3:m≤1000000000000:=by omega
 refine t8.con rfl (by simp) ?_;(repeat first|simp only[kV,simprocAttr,csC,aw]|refine aN ?_);refine kp [0,1] ?_;(repeat first|simp only[kV,simprocAttr,csC,aw]|refine aN ?_);refine kp [0,1,5] ?_;(repeat first|simp only[kV,simprocAttr,csC,aw]|refine aN ?_);refine kp [0,1,5,6] ?_;(repeat first|simp only[kV,simprocAttr,csC,aw]|refine aN ?_);refine kp [0,1,5,6,7] ?_;(repeat first|simp only[kV,simprocAttr,csC,aw]|refine aN ?_);refine aY (ι:=Nat×Nat×Int×List Int) (fun s=>dA a b s.1 s.2.1 s.2.2.1 s.2.2.2=fJ a b∧s.2.2.2.length=s.2.1∧0≤s.2.2.1∧s.2.2.1≤1∧m+1≤s.1+s.2.1∧s.2.1≤m+1∧(s.2.1≤m∨s.2.2.1=0)) (fun s=>dS a b s.2.2.2 s.2.2.1 s.2.1) (fun s=>s.1) (m+1,0,0,[]) ⟨by rw[hm],rfl,Int.le_refl _,by simp,by simp only;omega,by simp only;omega,.inl (by simp only;omega)⟩ (Sub.nilG 5 205 3 1) ?_;rintro⟨f,i,c,out⟩ ⟨hr,hl,c0,c1,hf,him,hc⟩;simp only at hr hl c0 c1 hf him hc;have da:=ha.at_ i;have db:=hb.at_ i;have hlen:(out.map (D.int .i64)).length=out.length:=List.length_map _;by_cases h:i<a.length∨i<b.length∨0<c
 ·obtain⟨f,rfl⟩:∃g,f=g+1:=⟨f-1,by
   have:f≠0:=fun e=>by
    have hc0:c=0:=hc.resolve_left (by omega);omega
   omega⟩
  rw[dA,if_pos h] at hr;have hnew:m+1≤f+(i+1)∧i+1≤m+1∧(i+1≤m∨(c+at_ a i+at_ b i) / 10000=0):=by
   by_cases hm3:i<m
   ·exact⟨by omega,by omega,.inl (by omega)⟩
   ·have e1:at_ a i=0:=a8 (by omega);have e2:at_ b i=0:=a8 (by omega);refine⟨by omega,?_,.inr (by rw[e1,e2];omega)⟩;rcases h with h | h | h
    ·omega
    ·omega
    ·have:=hc.resolve_right (by omega);omega
  have hb1:(out.length+1)*8≤140737488355328:=by omega
  have f2:out.length+1=(out++[(c+at_ a i+at_ b i) % 10000]).length:=by rw[List.length_append];rfl
  have hl2:(out++[(c+at_ a i+at_ b i) % 10000]).length=i+1:=by rw[←f2,hl]
  have r1:(c+at_ a i+at_ b i).tmod 10000=(c+at_ a i+at_ b i) % 10000:=Int.tmod_eq_emod_of_nonneg (by omega);have r2:(c+at_ a i+at_ b i).tdiv 10000=(c+at_ a i+at_ b i) / 10000:=Int.tdiv_eq_ediv_of_nonneg (by omega);have k1:=BA a b out c i ha c0 (by omega);have k2:=BB a b out (c+at_ a i) i hb (by omega) (by omega);by_cases h1:i<a.length
  ·have h1I:(i:Int)<(a.length:Int):=by omega
   (repeat first|with_reducible refine kp [0,1,5,6,7,21] ?_|simp only[kV,simprocAttr,csC,h1I]|refine aN ?_);(try simp only[kV,simprocAttr,csC,h1I,r1,r2,f2,csQ]);refine ulk ?_;(repeat first|simp only[kV,simprocAttr,csC,h1I,r1,r2,f2,csQ]|refine aN ?_);refine⟨_,(Sub.toG [0,1,5,6,7] [47]).tr (Sub.rf _),?_⟩;refine ulk ?_;refine cN ?_;refine md ?_;refine cN ?_;refine k1 _ fun t ht=>⟨_,ht,?_⟩
   refine ulk ?_;refine cN ?_;refine k2 _ fun t ht=>⟨_,ht,?_⟩
   refine ulk ?_;(repeat first|with_reducible refine kp [0,1,5,6,7] ?_|simp only[kV,simprocAttr,csC,h1I,r1,r2,f2,csQ]|refine aN ?_);exact⟨(f,i+1,(c+at_ a i+at_ b i) / 10000,out++[(c+at_ a i+at_ b i) % 10000]),⟨hr,hl2,by simp only;omega,by simp only;omega,hnew.1,hnew.2.1,hnew.2.2⟩,(by rw[ib];exact (Sub.toG [0,1,5,6,7] [47])),by simp only;omega⟩
  ·have h1I:¬ (i:Int)<(a.length:Int):=by omega
   by_cases h2:i<b.length
   ·have h2I:(i:Int)<(b.length:Int):=by omega
    (repeat first|with_reducible refine kp [0,1,5,6,7,21] ?_|simp only[kV,simprocAttr,csC,h1I,h2I]|refine aN ?_);(try simp only[kV,simprocAttr,csC,h1I,h2I,r1,r2,f2,csQ]);refine ulk ?_;(repeat first|simp only[kV,simprocAttr,csC,h1I,h2I,r1,r2,f2,csQ]|refine aN ?_);refine⟨_,(Sub.toG [0,1,5,6,7] [47]).tr (Sub.rf _),?_⟩;refine ulk ?_;refine cN ?_;refine md ?_;refine cN ?_;refine k1 _ fun t ht=>⟨_,ht,?_⟩
    refine ulk ?_;refine cN ?_;refine k2 _ fun t ht=>⟨_,ht,?_⟩
    refine ulk ?_;(repeat first|with_reducible refine kp [0,1,5,6,7] ?_|simp only[kV,simprocAttr,csC,h1I,h2I,r1,r2,f2,csQ]|refine aN ?_);exact⟨(f,i+1,(c+at_ a i+at_ b i) / 10000,out++[(c+at_ a i+at_ b i) % 10000]),⟨hr,hl2,by simp only;omega,by simp only;omega,hnew.1,hnew.2.1,hnew.2.2⟩,(by rw[ib];exact (Sub.toG [0,1,5,6,7] [47])),by simp only;omega⟩
   ·have h2I:¬ (i:Int)<(b.length:Int):=by omega
    have h3:0<c:=by omega
    (repeat first|with_reducible refine kp [0,1,5,6,7,21] ?_|simp only[kV,simprocAttr,csC,h1I,h2I,h3]|refine aN ?_);(try simp only[kV,simprocAttr,csC,h1I,h2I,h3,r1,r2,f2,csQ]);refine ulk ?_;(repeat first|simp only[kV,simprocAttr,csC,h1I,h2I,h3,r1,r2,f2,csQ]|refine aN ?_);refine⟨_,(Sub.toG [0,1,5,6,7] [47]).tr (Sub.rf _),?_⟩;refine ulk ?_;refine cN ?_;refine md ?_;refine cN ?_;refine k1 _ fun t ht=>⟨_,ht,?_⟩
    refine ulk ?_;refine cN ?_;refine k2 _ fun t ht=>⟨_,ht,?_⟩
    refine ulk ?_;(repeat first|with_reducible refine kp [0,1,5,6,7] ?_|simp only[kV,simprocAttr,csC,h1I,h2I,h3,r1,r2,f2,csQ]|refine aN ?_);exact⟨(f,i+1,(c+at_ a i+at_ b i) / 10000,out++[(c+at_ a i+at_ b i) % 10000]),⟨hr,hl2,by simp only;omega,by simp only;omega,hnew.1,hnew.2.1,hnew.2.2⟩,(by rw[ib];exact (Sub.toG [0,1,5,6,7] [47])),by simp only;omega⟩
 ·have h1I:¬ (i:Int)<(a.length:Int):=by omega
  have h2I:¬ (i:Int)<(b.length:Int):=by omega
  have h3:¬ 0<c:=by omega
  have hr2:out=fJ a b:=by
   rw[←hr];cases f
   ·rfl
   ·rw[dA,if_neg h]
  (repeat first|with_reducible refine kp [0,1,5,6,7,21] ?_|simp only[kV,simprocAttr,csC,h1I,h2I,h3]|refine aN ?_);(try simp only[kV,simprocAttr,csC,h1I,h2I,h3,List.take_length,List.drop_zero,hlen,Bool.or_true]);refine ulk ?_;(repeat first|with_reducible refine kp [4,5] ?_|simp only[kV,simprocAttr,csC,ac,af,ae,ah,h1I,h2I,h3,List.take_length,List.drop_zero,hlen,Bool.or_true]|refine aN ?_);exact congrArg LJ hr2
end Go.Proofs.Ytdchbabgopglcaa.M
namespace Go.Proofs.Ytdchbabgopglcaa
def dm (a b:Int):List UInt8:=if b=1 then dec a else dec a++47::dec b
theorem No {z:Int} (h:Sm z):(dec z).length≤8796093022210:=by
 have h1:z.natAbs<2^dH:=h;have h2:=oP h1;rw[gU] at h2;unfold dec cr;split<;>split<;>simp<;>omega
namespace Z4
theorem dec_one {b:Int}:dec b=[49]↔b=1:=by
 constructor
 ·intro h;have h1:=Th b;rw[h] at h1;have h2:cr b.natAbs=[49]:=by rw[←h1.2];rfl
  have h3:=Nu b.natAbs;rw[h2] at h3;have h4:decide (b<0)=false:=by rw[←h1.1];rfl
  simp at h4;have h5:aG [49]=1:=by decide
  omega
 ·rintro rfl;unfold dec cr;rw[if_neg (by omega),if_neg (by decide),show (1:Int).natAbs=1 from rfl,bJ (by omega)];simp only[Nat.reduceDiv,Nat.reduceMod];rw[bX];rfl
end Z4
end Go.Proofs.Ytdchbabgopglcaa
namespace Go.Proofs.Ytdchbabgopglcaa.M
open Go.RowKit
structure Ar (l:List At):Prop where
 len:l.length*40≤140737488355328
 str:∀t∈l,t.1.length≤140737488355328
 ex:∀t∈l,t.2.length≤17592186044416
theorem Ar.s9 {l:List At} (h:Ar l):∀t∈l,t.1.length≤9223372036854775807:=fun t ht=>by have:=h.str t ht;omega
theorem EP {d:D} (y:TyW Try.prog 22 d.cells) (z:d.isAgg=a7 Try.prog 22):∃l:List At,d=LTa (39+1000000) (3+1000000) l∧Ar l:=by
 obtain⟨l,rfl,h1,h2,h3⟩:=pR Try.underlying22 y z;have e40:Try.prog.bytesOf 39=40:=by kernel_rfl
 have e8:Try.prog.bytesOf 3=8:=by kernel_rfl
 have ec:Try.prog.cellsOf 39=2:=by kernel_rfl
 have ec1:Try.prog.cellsOf 30=1:=by kernel_rfl
 have ec2:Try.prog.cellsOf 9=1:=by kernel_rfl
 have er:reachBytes≤140737488355328:=by decide
 rw[e40] at h1;have key:∃m:List At,l=m.map (atD (3+1000000))∧(∀t∈m,t.1.length≤140737488355328)∧∀t∈m,t.2.length≤17592186044416:=by
  clear h1 y z;induction l with
  |nil=>exact⟨[],rfl,by simp,by simp⟩
  |cons d l ih =>
   obtain⟨m,rfl,m1,m2⟩:=ih (fun d hd=>h2 d (by simp[hd])) (fun d hd=>h3 d (by simp[hd]));have g1:=h2 d (by simp);obtain⟨g2,g3,g4⟩:=h3 d (by simp);rw[ec] at g2;have g5:a7 Try.prog 39=true:=by kernel_rfl
   rw[g5] at g4;obtain⟨q,rfl⟩:∃q,d = .agg q:=by cases d<;>first | exact⟨_,rfl⟩ | (simp[D.isAgg] at g4)
   have hq:(D.agg q).cells=q:=rfl;rw[hq] at g1 g2 g3
   match q,g2 with
   |[a,b],_ =>
    generalize hqq:([a,b]:List D)=qq at g1;cases g1 with
    |struct t fs l' hu hl hf =>
     subst hqq;rw[Try.underlying39] at hu;cases hu;have f0:=hf _ (by simp;exact .inl rfl);have f1:=hf _ (by simp;exact .inr rfl);simp only[ec1,ec2] at f0 f1;have oa:∀x:D,x.one=true→x.cells=[x]∧x.isAgg=false:=fun x hx=>by cases x<;>first | exact⟨rfl,rfl⟩ | (simp[D.one] at hx)
     obtain⟨a1,a2⟩:=oa a (g3 a (by simp));obtain⟨b1,b2⟩:=oa b (g3 b (by simp));have t0:TyW Try.prog 9 a.cells:=by rw[a1];exact f0
     have t1:TyW Try.prog 30 b.cells:=by rw[b1];exact f1
     obtain⟨s,rfl,hs⟩:=Nm Try.underlying9 t0 (by rw[a2];kernel_rfl);obtain⟨e,rfl,he⟩:=Nn Try.underlying30 Try.underlying3 (by kernel_rfl) t1 (by rw[b2];kernel_rfl);rw[e8] at he;refine⟨(s,e)::m,rfl,fun t ht => ?_,fun t ht => ?_⟩
     ·rcases List.mem_cons.1 ht with rfl | ht
      ·exact Nat.le_trans hs er
      ·exact m1 t ht
     ·rcases List.mem_cons.1 ht with rfl | ht
      ·show e.length≤_
       omega
      ·exact m2 t ht
    |bool t b hu=>rw[Try.underlying39] at hu;cases hu
    |int t k n hu=>rw[Try.underlying39] at hu;cases hu
    |str t s hu=>rw[Try.underlying39] at hu;cases hu
    |slice t e l hu=>rw[Try.underlying39] at hu;cases hu
 obtain⟨m,rfl,m1,m2⟩:=key;rw[List.length_map] at h1;exact⟨m,by rw[ec],by omega,m1,m2⟩
theorem jw {P:Program}{t:TypeId}{l:List D}{a:D} (h:TyW P t l) (hl:l=[a]) (hu:P.underlying t=some (.int .i64)):∃n:Int,a = .int .i64 n:=by
 cases h with
 |int t k n hu'=>rw[hu] at hu';cases hu';cases hl;exact⟨n,rfl⟩
 |bool t b hu'=>rw[hu] at hu';cases hu'
 |str t s hu'=>rw[hu] at hu';cases hu'
 |slice t e l hu'=>rw[hu] at hu';cases hu'
 |struct t fs l hu'=>rw[hu] at hu';cases hu'
theorem EQ {P:Program}{t e:TypeId}{l:List D}{a:D} (h:TyW P t l) (hl:l=[a]) (hu:P.underlying t=some (.slice e)):a.cells=[a]∧a.isAgg=false:=by
 cases h with
 |int t k n hu'=>rw[hu] at hu';cases hu'
 |bool t b hu'=>rw[hu] at hu';cases hu'
 |str t s hu'=>rw[hu] at hu';cases hu'
 |slice t e l hu'=>cases hl;exact⟨rfl,rfl⟩
 |struct t fs l hu'=>rw[hu] at hu';cases hu'
inductive ArF:Fm→Prop where
 |mk {kd:Int}{p:List At}{rel v k:Int}{gs:List Fm}:Ar p→gs.length*80≤140737488355328→(∀g∈gs,ArF g)→ArF (.mk kd p rel v k gs)
abbrev FD (f:Fm):D:=fmD (39+1000000) (3+1000000) (25+1000000) f
abbrev FDs (l:List Fm):List D:=bi (39+1000000) (3+1000000) (25+1000000) l
set_option maxRecDepth 20000 in
theorem ER {t:TypeId}{l:List D} (h:TyW Try.prog t l):(t=25→∃f:Fm,l=(FD f).cells∧ArF f)∧(t=23→∃gs:List Fm,l=[.list (25+1000000) 6 (FDs gs)]∧gs.length*80≤140737488355328∧∀g∈gs,ArF g):=by
 have er:reachBytes≤140737488355328:=by decide
 have ef:=Try.underlying25;have es:=Try.underlying23;induction h with
 |bool t b hu=>exact⟨fun e=>(by rw[e,ef] at hu;cases hu),fun e=>(by rw[e,es] at hu;cases hu)⟩
 |int t k n hu=>exact⟨fun e=>(by rw[e,ef] at hu;cases hu),fun e=>(by rw[e,es] at hu;cases hu)⟩
 |str t s hu=>exact⟨fun e=>(by rw[e,ef] at hu;cases hu),fun e=>(by rw[e,es] at hu;cases hu)⟩
 |slice t e l hu h1 h2 h3 ih =>
  refine⟨fun e=>(by rw[e,ef] at hu;cases hu),fun et => ?_⟩;rw[et,es] at hu;cases hu;have e80:Try.prog.bytesOf 25=80:=by kernel_rfl
  have ec:Try.prog.cellsOf 25=6:=by kernel_rfl
  have eg:a7 Try.prog 25=true:=by kernel_rfl
  rw[e80] at h1;rw[ec];have key:∀m:List D,(∀d∈m,d∈l)→∃gs:List Fm,m=FDs gs∧m.length=gs.length∧∀g∈gs,ArF g:=by
   intro m;induction m with
   |nil=>exact fun _=>⟨[],by rw[FDs,bi],rfl,by simp⟩
   |cons d m im =>
    intro hm;obtain⟨gs,rfl,i1,i2⟩:=im fun d hd=>hm d (List.mem_cons_of_mem _ hd)
    obtain⟨f,hf,ha⟩:=(ih d (hm d List.mem_cons_self)).1 rfl;have hd:=(h3 d (hm d List.mem_cons_self)).2.2;rw[eg] at hd;obtain⟨q,rfl⟩:∃q,d = .agg q:=by cases d<;>first | exact⟨_,rfl⟩ | (simp[D.isAgg] at hd)
    have hq:D.agg q=FD f:=by
     cases f with
     |mk kd p rel v k gs =>
      rw[FD,fmD] at hf ⊢;exact congrArg D.agg hf
    refine⟨f::gs,by have e:FDs (f::gs)=FD f::FDs gs:=(by show bi _ _ _ (f::gs)=_;rw[bi]);rw[e,hq],by simp[i1],fun g hg => ?_⟩;rcases List.mem_cons.1 hg with rfl | hg
    ·exact ha
    ·exact i2 g hg
  obtain⟨gs,rfl,i1,i2⟩:=key l fun d hd=>hd
  exact⟨gs,rfl,by rw[←i1];omega,i2⟩
 |struct t fs l hu hl hf ih =>
  refine⟨fun et => ?_,fun e=>(by rw[e,es] at hu;cases hu)⟩;subst et;rw[ef] at hu;cases hu;have ec:Try.prog.cellsOf 25=6:=by kernel_rfl
  have ec1:Try.prog.cellsOf 22=1:=by kernel_rfl
  have ec2:Try.prog.cellsOf 3=1:=by kernel_rfl
  have ec3:Try.prog.cellsOf 23=1:=by kernel_rfl
  rw[ec] at hl
  match l,hl with
  |[a,b,c,d,e,g],_ =>
   simp only[List.mem_cons,List.not_mem_nil,or_false,forall_eq_or_imp,forall_eq,ec1,ec2,ec3,List.drop_succ_cons,List.drop_zero,List.take_succ_cons,List.take_zero] at hf ih;obtain⟨f0,f1,f2,f3,f4,f5⟩:=hf;obtain⟨-,-,-,-,-,i5⟩:=ih;obtain⟨n0,rfl⟩:=jw f0 rfl Try.underlying3;obtain⟨n2,rfl⟩:=jw f2 rfl Try.underlying3;obtain⟨n3,rfl⟩:=jw f3 rfl Try.underlying3;obtain⟨n4,rfl⟩:=jw f4 rfl Try.underlying3;obtain⟨b1,b2⟩:=EQ f1 rfl Try.underlying22;obtain⟨p,rfl,hp⟩:=EP (by rw[b1];exact f1) (by rw[b2];kernel_rfl);obtain⟨gs,hg,hg1,hg2⟩:=i5.2 trivial;obtain rfl:=List.head_eq_of_cons_eq hg;exact⟨.mk n0 p n2 n3 n4 gs,by rw[FD,fmD];rfl,.mk hp hg1 hg2⟩
mutual
theorem oD (T U X:Nat):∀(f:Fm) (ab:List Int),(nds f ab).length≤bkD (fmD T U X f)
 |.mk kd p rel v k gs,ab=>by
  rw[nds,fmD,bkD,List.length_cons];have h:=oE T U X gs (if kd=8∨kd=9 then ab++[v] else ab);simp only[bkL,bkD];omega
theorem oE (T U X:Nat):∀(l:List Fm) (ab:List Int),(ndsL l ab).length≤bkL (bi T U X l)
 |[],ab=>by rw[ndsL];exact Nat.zero_le _
 |a::l,ab=>by
  rw[ndsL,bi,bkL,List.length_append];have h1:=oD T U X a ab;have h2:=oE T U X l ab;omega
end
theorem ES (T U X:Nat) (f:Fm):0<bkD (fmD T U X f):=by
 cases f;rw[fmD,bkD];simp only[bkL,bkD];omega
theorem oF (U:Nat):∀(l:List At),l.length≤bkL (l.map (atD U))∧∀t∈l,t.2.length≤bkL (l.map (atD U))
 |[]=>⟨Nat.zero_le _,fun t ht=>by cases ht⟩
 |t::l=>by
  obtain⟨h1,h2⟩:=oF U l;have hi:∀e:List Int,bkL (e.map (D.int .i64))=e.length:=by
   intro e;induction e with
   |nil=>rfl
   |cons a e ih=>simp only[List.map_cons,bkL,bkD,ih,List.length_cons];omega
  have hb:bkD (atD U t)=t.2.length+2:=by
   unfold atD;rw[bkD];simp only[bkL,bkD,hi];omega
  rw[List.map_cons,bkL,hb];refine⟨by rw[List.length_cons];omega,fun u hu => ?_⟩;rcases List.mem_cons.1 hu with rfl | hu
  ·omega
  ·have:=h2 u hu;omega
set_option maxRecDepth 20000
set_option maxHeartbeats 4000000
def dB (a b:List Int):Nat→Nat→Int→List Int→List Int
 |0,_,_,out=>out
 |f+1,i,c,out=>dB a b f (i+1) (-((at_ a i-c-at_ b i) / 10000)) (out++[(at_ a i-c-at_ b i) % 10000])
theorem ng {a b:List Int} (ha:Z4.Dig a) (hb:Z4.Dig b) (hl:b.length≤a.length) (hv:Z4.valL b≤Z4.valL a):∀{f i:Nat}{c:Int}{out:List Int},Z4.Dig out→out.length=i→0≤c→c≤1→Z4.valL out-c*10000^i=Z4.valL (a.take i)-Z4.valL (b.take i)→f+i=a.length →
  Z4.Dig (dB a b f i c out)∧Z4.valL (dB a b f i c out)=Z4.valL a-Z4.valL b∧(dB a b f i c out).length=a.length
 |0,i,c,out,hd,hl2,c0,c1,hs,hf=>by
  unfold dB;rw[Z4.valL_take_all (by omega),Z4.valL_take_all (by omega)] at hs;have h1:=Z4.valL_lt hd;rw[hl2] at h1;have hc:c=0:=by
   by_cases hc:c=1
   ·rw[hc,Int.one_mul] at hs;omega
   ·omega
  rw[hc,Int.zero_mul,Int.sub_zero] at hs;exact⟨hd,hs,by omega⟩
 |f+1,i,c,out,hd,hl2,c0,c1,hs,hf=>by
  have da:=ha.at_ i;have db:=hb.at_ i;unfold dB;refine ng ha hb hl hv (hd.snoc (by omega)) (by simp[hl2]) (by omega) (by omega) ?_ (by omega);rw[Z4.valL_snoc,hl2,Z4.valL_take_succ,Z4.valL_take_succ,Int.pow_succ];have e:at_ a i-c-at_ b i=10000*((at_ a i-c-at_ b i) / 10000)+(at_ a i-c-at_ b i) % 10000:=by omega
  generalize (at_ a i-c-at_ b i) / 10000=q at *;generalize (at_ a i-c-at_ b i) % 10000=r at *;generalize (10000:Int)^i=p at *;grind
abbrev fH (a b:List Int):List Int:=dB a b a.length 0 0 []
theorem nh {a b:List Int} (ha:Z4.Dig a) (hb:Z4.Dig b) (hl:b.length≤a.length) (hv:Z4.valL b≤Z4.valL a):Z4.Dig (fH a b)∧Z4.valL (fH a b)=Z4.valL a-Z4.valL b∧(fH a b).length=a.length:=
 ng ha hb hl hv (fun x hx=>by cases hx) rfl (by omega) (by omega) (by simp[Z4.valL]) rfl
abbrev dT (a b o:List Int) (i:Nat) (x:Int):St:=⟨av [(0,.p (LJ a)),(1,.p (LJ b)),(5,.slice 205 0 o.length),(7,.p (.int .i64 i)),(8,.p (.int .i64 x))],az [(205,⟨3,1,.row (o.map (D.int .i64)),false⟩)]⟩
abbrev dU (a b o:List Int) (c:Int) (i:Nat) (x:Int):St:=⟨av [(0,.p (LJ a)),(1,.p (LJ b)),(5,.slice 205 0 o.length),(6,.p (.int .i64 c)),(7,.p (.int .i64 i)),(8,.p (.int .i64 x))],az [(205,⟨3,1,.row (o.map (D.int .i64)),false⟩)]⟩
theorem x7 (a b o:List Int) (i:Nat) (x:Int) (hb:Z4.Dig b) (c0:-1≤x) (c1:x≤9999) (Q:AExit→St→Prop) (hQ:∀s,Sub [3] s (dT a b o i (x-at_ b i))→Q .normal s) :
  cw [3] (ConX Try.prog []) m6 Q (dT a b o i x):=by
 have db:=hb.at_ i;by_cases h:i<b.length
 ·have hI:(i:Int)<(b.length:Int):=by omega
  have g1:=atJ h;skip
  (repeat first|with_reducible refine kp [0,1,5,7,8,24] ?_|simp only[kV,simprocAttr,csC]|refine aN ?_);(try simp only[kV,simprocAttr,csC,hI,h,g1]);refine ulk ?_;(repeat first|simp only[kV,simprocAttr,csC,hI,h,g1]|refine aN ?_);exact hQ _ (Sub.toG [0,1,5,7,8] [])
 ·have hI:¬ (i:Int)<(b.length:Int):=by omega
  rw[a8 (by omega),Int.sub_zero] at hQ;skip
  (repeat first|with_reducible refine kp [0,1,5,7,8,24] ?_|simp only[kV,simprocAttr,csC]|refine aN ?_);(try simp only[kV,simprocAttr,csC,hI]);refine ulk ?_;(repeat first|simp only[kV,simprocAttr,csC,hI]|refine aN ?_);exact hQ _ (Sub.toG [0,1,5,7,8] [])
theorem x8 (a b o:List Int) (i:Nat) (x:Int) (c0:-10000≤x) (c1:x≤9999) (Q:AExit→St→Prop) (hQ:∀s,Sub [3] s (dU a b o (-(x / 10000)) i (x % 10000))→Q .normal s) :
  cw [3] (ConX Try.prog []) m7 Q (dU a b o 0 i x):=by
 by_cases h:x<0
 ·rw[show x / 10000 = -1 by omega,show x % 10000=x+10000 by omega] at hQ;skip
  (repeat first|with_reducible refine kp [0,1,5,6,7,8,32] ?_|simp only[kV,simprocAttr,csC]|refine aN ?_);(try simp only[kV,simprocAttr,csC,h]);refine ulk ?_;(repeat first|with_reducible refine kp [0,1,5,7,8] ?_|simp only[kV,simprocAttr,csC,h]|refine aN ?_);exact hQ _ (Sub.toG [0,1,5,6,7,8] [])
 ·rw[show x / 10000=0 by omega,show x % 10000=x by omega] at hQ;skip
  (repeat first|with_reducible refine kp [0,1,5,6,7,8,32] ?_|simp only[kV,simprocAttr,csC]|refine aN ?_);(try simp only[kV,simprocAttr,csC,h]);refine ulk ?_;(repeat first|simp only[kV,simprocAttr,csC,h]|refine aN ?_);exact hQ _ (Sub.toG [0,1,5,6,7,8] [])
theorem ni (a b:List Int) (ha:Z4.Dig a) (hb:Z4.Dig b) (hla:a.length≤1000000000000):Con Try.prog [] 89 [LJ a,LJ b] (LJ (fH a b)):=by
 refine uu.con rfl (by simp) ?_;(repeat first|simp only[kV,simprocAttr,csC,aw]|refine aN ?_);refine kp [0,1] ?_;(repeat first|simp only[kV,simprocAttr,csC,aw]|refine aN ?_);refine kp [0,1,5] ?_;(repeat first|simp only[kV,simprocAttr,csC,aw]|refine aN ?_);refine kp [0,1,5,6] ?_;(repeat first|simp only[kV,simprocAttr,csC,aw]|refine aN ?_);refine kp [0,1,5,6,7] ?_;(repeat first|simp only[kV,simprocAttr,csC,aw]|refine aN ?_);refine aY (ι:=Nat×Nat×Int×List Int) (fun s=>dB a b s.1 s.2.1 s.2.2.1 s.2.2.2=fH a b∧s.2.2.2.length=s.2.1∧0≤s.2.2.1∧s.2.2.1≤1∧s.1+s.2.1=a.length) (fun s=>dS a b s.2.2.2 s.2.2.1 s.2.1) (fun s=>s.1) (a.length,0,0,[]) ⟨rfl,rfl,Int.le_refl _,by simp,rfl⟩ (Sub.nilG 5 205 3 1) ?_;rintro⟨f,i,c,out⟩ ⟨hr,hl,c0,c1,hf⟩;simp only at hr hl c0 c1 hf;have da:=ha.at_ i;have db:=hb.at_ i;have hlen:(out.map (D.int .i64)).length=out.length:=List.length_map _;cases f with
 |zero =>
  have hI:¬ (i:Int)<(a.length:Int):=by omega
  (repeat first|with_reducible refine kp [0,1,5,6,7,12] ?_|simp only[kV,simprocAttr,csC,hI]|refine aN ?_);(try simp only[kV,simprocAttr,csC,hI,List.take_length,List.drop_zero,hlen,Bool.or_true]);refine ulk ?_;(repeat first|with_reducible refine kp [4,5] ?_|simp only[kV,simprocAttr,csC,ac,af,ae,ah,hI,List.take_length,List.drop_zero,hlen,Bool.or_true]|refine aN ?_);exact congrArg LJ hr
 |succ f =>
  have hI:(i:Int)<(a.length:Int):=by omega
  have h:i<a.length:=by omega
  have g1:=atJ h;rw[dB] at hr;have hb1:(out.length+1)*8≤140737488355328:=by omega
  have f2:out.length+1=(out++[(at_ a i-c-at_ b i) % 10000]).length:=by rw[List.length_append];rfl
  have hl2:(out++[(at_ a i-c-at_ b i) % 10000]).length=i+1:=by rw[←f2,hl]
  have k1:=x7 a b out i (at_ a i-c) hb (by omega) (by omega);have k2:=x8 a b out i (at_ a i-c-at_ b i) (by omega) (by omega);(repeat first|with_reducible refine kp [0,1,5,6,7,12] ?_|simp only[kV,simprocAttr,csC,hI]|refine aN ?_);(try simp only[kV,simprocAttr,csC,hI,h,g1,f2,csQ]);refine ulk ?_;(repeat first|simp only[kV,simprocAttr,csC,hI,h,g1,f2,csQ]|refine aN ?_);refine kp [0,1,5,6,7] ?_;(repeat first|simp only[kV,simprocAttr,csC,hI,h,g1,f2,csQ]|refine aN ?_);refine⟨_,(Sub.toG [0,1,5,7,8] [37]).tr (Sub.rf _),?_⟩;refine ulk ?_;refine cN ?_;refine k1 _ fun t ht=>⟨_,ht,?_⟩
  refine ulk ?_;(repeat first|simp only[kV,simprocAttr,csC,hI,h,g1,f2,csQ]|refine aN ?_);refine⟨_,(Sub.toG [0,1,5,6,7,8] [37]).tr (Sub.rf _),?_⟩;refine ulk ?_;refine cN ?_;refine k2 _ fun t ht=>⟨_,ht,?_⟩
  refine ulk ?_;(repeat first|with_reducible refine kp [0,1,5,6,7] ?_|simp only[kV,simprocAttr,csC,hI,h,g1,f2,csQ]|refine aN ?_);exact⟨(f,i+1,-((at_ a i-c-at_ b i) / 10000),out++[(at_ a i-c-at_ b i) % 10000]),⟨hr,hl2,by simp only;omega,by simp only;omega,by simp only;omega⟩,(by rw[ib];exact (Sub.toG [0,1,5,6,7] [37])),by simp only;omega⟩
theorem x9 (z:Int):Z4.valL (zd z)=z.natAbs:=(cI z).2.2
theorem jf (z:Int):sg (decide (z<0)) (Z4.valL (zd z))=z:=by rw[x9];exact iW z
theorem nj (a b:Int) (hla:(zd a).length≤900000000000) (hlb:(zd b).length≤900000000000):Con Try.prog [] 82 [aF a,aF b] (aF (a+b)):=by
 by_cases ha0:a=0
 ·subst ha0;rw[Int.zero_add];have e:zd 0=[]:=fi.2 rfl;rw[aX,aX,e];refine g9.con rfl (by simp) ?_;(repeat first|with_reducible refine kp [2,3,4,8] ?_|simp only[kV,simprocAttr,csC,aw]|refine aN ?_);refine ulk ?_;(repeat first|with_reducible refine kp [4] ?_|simp only[kV,simprocAttr,csC,ac,af,ae,ah]|refine aN ?_)
 by_cases hb0:b=0
 ·subst hb0;rw[Int.add_zero];have e:zd 0=[]:=fi.2 rfl;have hI:¬ ((zd a).length:Int)=0:=by have:=fp ha0;omega
  rw[aX,aX,e];refine g9.con rfl (by simp) ?_;(repeat first|with_reducible refine kp [2,3,4,8] ?_|simp only[kV,simprocAttr,csC,aw]|refine aN ?_);(try simp only[kV,simprocAttr,csC,hI]);refine ulk ?_;(repeat first|with_reducible refine kp [2,3,4,13] ?_|simp only[kV,simprocAttr,csC,hI]|refine aN ?_);refine ulk ?_;(repeat first|with_reducible refine kp [4] ?_|simp only[kV,simprocAttr,csC,ac,af,ae,ah]|refine aN ?_)
 have hI:¬ ((zd a).length:Int)=0:=by have:=fp ha0;omega
 have hJ:¬ ((zd b).length:Int)=0:=by have:=fp hb0;omega
 obtain⟨d1,n1,v1⟩:=cI a;obtain⟨d2,n2,v2⟩:=cI b;have s1:=jf a;have s2:=jf b;rw[aX a,aX b];have key:∀z,Con Try.prog [] 82 [.agg [.bool (decide (a<0)),LJ (zd a)],.agg [.bool (decide (b<0)),LJ (zd b)]] (aF z)→z=a+b→Con Try.prog [] 82 [.agg [.bool (decide (a<0)),LJ (zd a)],.agg [.bool (decide (b<0)),LJ (zd b)]] (aF (a+b)):=fun z h e=>e ▸ h
 generalize decide (a<0)=m at *;generalize decide (b<0)=n at *;generalize zd a=x at *;generalize zd b=y at *;by_cases hs:m=n
 ·subst hs;obtain⟨q1,q2,q3⟩:=Bv d1 d2;refine key _ ?_ ((p9 (m:=m) (n:=m) (p:=Z4.valL x) (q:=Z4.valL y) rfl).trans (by rw[s1,s2]));have c1:=BC x y d1 d2 (by omega) (by omega);have c2:=du m (fJ x y) q1 (Nat.le_trans q3 (by omega));rw[q2] at c2;have hm:(m == m)=true:=by simp
  refine g9.con rfl (by simp) ?_;(repeat first|with_reducible refine kp [2,3,4,8] ?_|simp only[kV,simprocAttr,csC,aw]|refine aN ?_);(try simp only[kV,simprocAttr,csC,hI]);refine ulk ?_;(repeat first|with_reducible refine kp [2,3,4,13] ?_|simp only[kV,simprocAttr,csC,hI]|refine aN ?_);(try simp only[kV,simprocAttr,csC,hJ]);refine ulk ?_;(repeat first|with_reducible refine kp [2,3,4,19] ?_|simp only[kV,simprocAttr,csC,hJ]|refine aN ?_);(try simp only[kV,simprocAttr,csC,hm]);refine ulk ?_;(repeat first|simp only[kV,simprocAttr,csC,hm]|refine aN ?_);refine⟨_,cx (c1),ulc ?_⟩;(repeat first|simp only[kV,simprocAttr,csC]|refine aN ?_);refine⟨_,cx (c2),ulc ?_⟩;(repeat first|with_reducible refine kp [4] ?_|simp only[kV,simprocAttr,csC,ac,af,ae,ah]|refine aN ?_)
 ·have hs':(m == n)=false:=by cases m<;>cases n<;>simp at hs ⊢
  have c1:=qS x y d1 d2 n1 n2 (by omega) (by omega);by_cases hc:Z4.valL y≤Z4.valL x
  ·have hlen:y.length≤x.length:=by
    by_cases h:y.length≤x.length
    ·exact h
    ·have:=Z4.valL_lt_of_len d1 d2 n2 (by omega:x.length<y.length);omega
   obtain⟨q1,q2,q3⟩:=nh d1 d2 hlen hc;refine key _ ?_ ((qa (m:=m) (n:=n) (p:=Z4.valL x) (q:=Z4.valL y) hs).trans (by rw[s1,s2]));have c2:=ni x y d1 d2 (by omega);have c3:=du m (fH x y) q1 (by omega);rw[q2] at c3;have hz:0≤cmpZ (Z4.valL x) (Z4.valL y):=by unfold cmpZ;(repeat' split)<;>omega
   generalize cmpZ (Z4.valL x) (Z4.valL y)=z at *;refine g9.con rfl (by simp) ?_;(repeat first|with_reducible refine kp [2,3,4,8] ?_|simp only[kV,simprocAttr,csC,aw]|refine aN ?_);(try simp only[kV,simprocAttr,csC,hI]);refine ulk ?_;(repeat first|with_reducible refine kp [2,3,4,13] ?_|simp only[kV,simprocAttr,csC,hI]|refine aN ?_);(try simp only[kV,simprocAttr,csC,hJ]);refine ulk ?_;(repeat first|with_reducible refine kp [2,3,4,19] ?_|simp only[kV,simprocAttr,csC,hJ]|refine aN ?_);(try simp only[kV,simprocAttr,csC,hs,hs']);refine ulk ?_;(repeat first|with_reducible refine kp [2,3,4] ?_|simp only[kV,simprocAttr,csC,hs,hs']|refine aN ?_);refine⟨_,cx (c1),ulc ?_⟩;(repeat first|with_reducible refine kp [2,3,4,33] ?_|simp only[kV,simprocAttr,csC]|refine aN ?_);(try simp only[kV,simprocAttr,csC,hz]);refine ulk ?_;(repeat first|simp only[kV,simprocAttr,csC,hz]|refine aN ?_);refine⟨_,cx (c2),ulc ?_⟩;(repeat first|simp only[kV,simprocAttr,csC]|refine aN ?_);refine⟨_,cx (c3),ulc ?_⟩;(repeat first|with_reducible refine kp [4] ?_|simp only[kV,simprocAttr,csC,ac,af,ae,ah]|refine aN ?_)
  ·have hlen:x.length≤y.length:=by
    by_cases h:x.length≤y.length
    ·exact h
    ·have:=Z4.valL_lt_of_len d2 d1 n1 (by omega:y.length<x.length);omega
   obtain⟨q1,q2,q3⟩:=nh d2 d1 hlen (by omega);refine key _ ?_ ((qb (m:=m) (n:=n) (p:=Z4.valL x) (q:=Z4.valL y) hs).trans (by rw[s1,s2]));have c2:=ni y x d2 d1 (by omega);have c3:=du n (fH y x) q1 (by omega);rw[q2] at c3;have hz:¬ 0≤cmpZ (Z4.valL x) (Z4.valL y):=by unfold cmpZ;(repeat' split)<;>omega
   generalize cmpZ (Z4.valL x) (Z4.valL y)=z at *;refine g9.con rfl (by simp) ?_;(repeat first|with_reducible refine kp [2,3,4,8] ?_|simp only[kV,simprocAttr,csC,aw]|refine aN ?_);(try simp only[kV,simprocAttr,csC,hI]);refine ulk ?_;(repeat first|with_reducible refine kp [2,3,4,13] ?_|simp only[kV,simprocAttr,csC,hI]|refine aN ?_);(try simp only[kV,simprocAttr,csC,hJ]);refine ulk ?_;(repeat first|with_reducible refine kp [2,3,4,19] ?_|simp only[kV,simprocAttr,csC,hJ]|refine aN ?_);(try simp only[kV,simprocAttr,csC,hs,hs']);refine ulk ?_;(repeat first|with_reducible refine kp [2,3,4] ?_|simp only[kV,simprocAttr,csC,hs,hs']|refine aN ?_);refine⟨_,cx (c1),ulc ?_⟩;(repeat first|with_reducible refine kp [2,3,4,33] ?_|simp only[kV,simprocAttr,csC]|refine aN ?_);(try simp only[kV,simprocAttr,csC,hz]);refine ulk ?_;(repeat first|with_reducible refine kp [2,3,4] ?_|simp only[kV,simprocAttr,csC,hz]|refine aN ?_);refine⟨_,cx (c2),ulc ?_⟩;(repeat first|simp only[kV,simprocAttr,csC]|refine aN ?_);refine⟨_,cx (c3),ulc ?_⟩;(repeat first|with_reducible refine kp [4] ?_|simp only[kV,simprocAttr,csC,ac,af,ae,ah]|refine aN ?_)
theorem yb (z:Int):zd (-z)=zd z:=by unfold zd;rw[Int.natAbs_neg]
theorem kE (a b:Int) (hla:(zd a).length≤900000000000) (hlb:(zd b).length≤900000000000):Con Try.prog [] 81 [aF a,aF b] (aF (a-b)):=by
 have c1:=mq b (by omega);have c2:=nj a (-b) hla (by rw[yb];exact hlb);rw[←Int.sub_eq_add_neg] at c2;refine uY.con rfl (by simp) ?_;(repeat first|with_reducible refine kp [2,3,4] ?_|simp only[kV,simprocAttr,csC,aw]|refine aN ?_);refine⟨_,cx (c1),ulc ?_⟩;(repeat first|simp only[kV,simprocAttr,csC]|refine aN ?_);refine⟨_,cx (c2),ulc ?_⟩;(repeat first|with_reducible refine kp [4] ?_|simp only[kV,simprocAttr,csC,ac,af,ae,ah]|refine aN ?_)
theorem yd (a b:Int) (hla:(zd a).length≤900000000000) (hlb:(zd b).length≤900000000000):Con Try.prog [] 79 [aF a,aF b] (.int .i64 (cmpZ a b)):=by
 have c1:=kE a b hla hlb;have c2:=Rq (a-b);have e:bR (a-b)=cmpZ a b:=by unfold bR cmpZ;(repeat' split)<;>omega
 rw[e] at c2;refine u6.con rfl (by simp) ?_;(repeat first|with_reducible refine kp [2,3] ?_|simp only[kV,simprocAttr,csC,aw]|refine aN ?_);refine⟨_,cx (c1),ulc ?_⟩;(repeat first|simp only[kV,simprocAttr,csC]|refine aN ?_);refine⟨_,cx (c2),ulc ?_⟩;(repeat first|with_reducible refine kp [4] ?_|simp only[kV,simprocAttr,csC,ac,af,ae,ah]|refine aN ?_)
end Go.Proofs.Ytdchbabgopglcaa.M
namespace Go.Proofs.Ytdchbabgopglcaa
theorem PI {u:List UInt8}:bH (u.take (bH u))=bH u:=by
 unfold bH;induction u with
 |nil=>rfl
 |cons c t ih =>
  by_cases h:eF c=true
  ·rw[List.takeWhile_cons_of_pos h,List.length_cons,List.take_succ_cons,List.takeWhile_cons_of_pos h,List.length_cons,ih]
  ·rw[List.takeWhile_cons_of_neg h];rfl
theorem PJ {t:List UInt8} (h:(ar true t).2=true):bT (t.take (ar true t).1)=true:=by
 obtain⟨f,hf⟩:∃f,f=(if true&&aH t then 1 else 0):=⟨_,rfl⟩
 by_cases h48:((t.drop f).head? == some 48)=true
 ·rw[eH hf.symm h48] at h ⊢;by_cases hf1:f=1
  ·subst hf1;simp at h
  ·have hf0:f=0:=by rw[hf] at hf1 ⊢;split at hf1<;>simp_all
   subst hf0;rw[List.drop_zero] at h48
   match t,h48 with
   |[],h48=>simp at h48
   |c::u,h48 =>
    have hc:c=48:=by simpa using h48
    subst hc;simp;decide
 ·have h48':((t.drop f).head? == some 48)=false:=by simpa using h48
  have hr:=dI (sg:=true) hf.symm h48' rfl;rw[hr] at h ⊢;simp only[decide_eq_true_eq] at h;have hd:0<bH (t.drop f):=by omega
  obtain⟨d,hdd⟩:∃d,d=bH (t.drop f):=⟨_,rfl⟩
  rw[←hdd] at hd ⊢;have hneg:aH (t.take (f+d))=aH t:=by
   unfold aH
   match t with
   |[]=>simp
   |c::u =>
    obtain⟨k,hk⟩:∃k,f+d=k+1:=⟨f+d-1,by omega⟩
    rw[hk];rfl
  have hdr:(t.take (f+d)).drop f=(t.drop f).take d:=by
   rw[List.drop_take];congr 1
   omega
  have h482:(((t.take (f+d)).drop f).head? == some 48)=false:=by
   rw[hdr];obtain⟨k,hk⟩:∃k,d=k+1:=⟨d-1,by omega⟩
   rw[hk];cases hu:t.drop f with
   |nil=>rfl
   |cons c u=>rw[hu] at h48';exact h48'
  have hrun:bH ((t.take (f+d)).drop f)=d:=by rw[hdr,hdd,PI]
  have hr2:=dI (sg:=true) (t:=t.take (f+d)) (f:=f) (by rw[hneg];exact hf.symm) h482 rfl;rw[hrun] at hr2;unfold bT;rw[hr2];simp;omega
theorem p4 {u:List UInt8} (h:(ar false u).2=true) (hl:u.length≤(ar false u).1):bT u=true∧u≠[48]:=by
 by_cases h48:((u.drop 0).head? == some 48)=true
 ·rw[eH (sg:=false) rfl h48] at h;simp at h
 ·have h48':((u.drop 0).head? == some 48)=false:=by simpa using h48
  have hr:=dI (sg:=false) (t:=u) (f:=0) rfl h48' rfl;rw[hr] at h hl;rw[List.drop_zero] at h hl h48';simp only[decide_eq_true_eq,Nat.zero_add] at h hl;have hall:=nW (l:=u) hl;have hneg:aH u=false:=by
   match u,h with
   |[],h=>rfl
   |c::v,h =>
    have:=hall 0 (by simp);rw[eG] at this;simp only[aH,List.head?_cons];rw[beq_eq_false_iff_ne];intro e;injection e with e
    subst e;simp at this
  refine⟨?_,fun e=>by subst e;simp at h48'⟩;have hr2:=dI (sg:=true) (t:=u) (f:=0) (by rw[hneg];rfl) (by rw[List.drop_zero];exact h48') rfl;unfold bT;rw[hr2];simp;omega
end Go.Proofs.Ytdchbabgopglcaa
