/- Lemmas. -/
import Derived.Test.YtbnhgnhgbhjkcaaGreatQ32
set_option linter.defProp false
set_option linter.unusedSimpArgs false
set_option linter.unusedVariables false
namespace Go.Proofs.YtbnhgnhgbhjkcaaGreat.M
set_option linter.unusedSimpArgs false
set_option maxRecDepth 20000
set_option maxHeartbeats 4000000
open Go.RowKit
def dA (a b:List Int):Nat→Nat→Int→List Int→List Int
 |0,_,_,out=>out
 |f+1,i,c,out=>if i<a.length∨i<b.length∨0<c then dA a b f (i+1) ((c+at_ a i+at_ b i) / 10000) (out++[(c+at_ a i+at_ b i) % 10000]) else out
theorem sX {a b:List Int} (ha:Z4.Dig a) (hb:Z4.Dig b){m:Nat} (h1:a.length≤m) (h2:b.length≤m):∀{f i:Nat}{c:Int}{out:List Int},Z4.Dig out→out.length=i→0≤c→c≤1→Z4.valL out+c*10000^i=Z4.valL (a.take i)+Z4.valL (b.take i)→m+1≤f+i→(i≤m∨c=0) →
  Z4.Dig (dA a b f i c out)∧Z4.valL (dA a b f i c out)=Z4.valL a+Z4.valL b∧(dA a b f i c out).length≤max (m+1) i
 |0,i,c,out,hd,hl,c0,c1,hv,hf,hc=>by
  have hc0:c=0:=hc.resolve_left (by omega);rw[hc0,Int.zero_mul,z8Y,Z4.valL_take_all (by omega),Z4.valL_take_all (by omega)] at hv;exact⟨hd,hv,by unfold dA;omega⟩
 |f+1,i,c,out,hd,hl,c0,c1,hv,hf,hc=>by
  have da:=ha.at_ i;have db:=hb.at_ i;unfold dA;by_cases h:i<a.length∨i<b.length∨0<c
  ·rw[if_pos h];have hx:0≤(c+at_ a i+at_ b i) % 10000∧(c+at_ a i+at_ b i) % 10000≤9999:=by omega
   have:=sX ha hb h1 h2 (f:=f) (i:=i+1) (c:=(c+at_ a i+at_ b i) / 10000) (out:=out++[(c+at_ a i+at_ b i) % 10000]) (hd.snoc hx) (by simp[hl]) (by omega) (by omega) ?_ (by omega) ?_
   ·exact⟨this.1,this.2.1,by have:=this.2.2;rcases h with h | h | h<;>omega⟩
   ·rw[Z4.valL_snoc,hl,Z4.valL_take_succ,Z4.valL_take_succ,z9H];have e:(c+at_ a i+at_ b i)=10000*((c+at_ a i+at_ b i) / 10000)+(c+at_ a i+at_ b i) % 10000:=by omega
    generalize (c+at_ a i+at_ b i) / 10000=q at *;generalize (c+at_ a i+at_ b i) % 10000=r at *;generalize (10000:Int)^i=p at *;grind
   ·by_cases hm:i<m
    ·exact .inl (by omega)
    ·right
     have e1:at_ a i=0:=bx (by omega);have e2:at_ b i=0:=bx (by omega);rw[e1,e2];omega
  ·rw[if_neg h];have hc0:c=0:=by omega
   rw[hc0,Int.zero_mul,z8Y,Z4.valL_take_all (by omega),Z4.valL_take_all (by omega)] at hv;exact⟨hd,hv,by omega⟩
abbrev gL (a b:List Int):List Int:=dA a b (max a.length b.length+1) 0 0 []
theorem VK {a b:List Int} (ha:Z4.Dig a) (hb:Z4.Dig b):Z4.Dig (gL a b)∧Z4.valL (gL a b)=Z4.valL a+Z4.valL b∧(gL a b).length≤max a.length b.length+1:=by
 have:=sX ha hb (Nat.le_max_left a.length b.length) (Nat.le_max_right a.length b.length) (f:=max a.length b.length+1) (i:=0) (c:=0) (out:=[]) (fun x hx=>by cases hx) rfl (by omega) (by omega) (by simp[Z4.valL]) (by omega) (.inl (by omega));exact⟨this.1,this.2.1,z9E this.2.2 (by omega)⟩
theorem jq (l:List Int) (x:Int):l.map (D.int .i64)++[.int .i64 x]=(l++[x]).map (D.int .i64):=by rw[z9U];rfl
theorem VL (x:Int):(List.replicate 1 (0:Int)).set 0 x=[x]:=rfl
theorem VM (x:Int):List.take 1 [x]=[x]:=rfl
theorem VN (x:Int):[x].length=1:=rfl
def csQ:=an @VL (an @VM (an @VN csC))
abbrev dS (a b o:List Int) (c:Int) (i:Nat):St:=⟨ar [(0,.p (LJ a)),(1,.p (LJ b)),(5,.slice 205 0 o.length),(6,.p (.int .i64 c)),(7,.p (.int .i64 i))],au [(205,⟨3,1,.row (o.map (D.int .i64)),false⟩)]⟩
theorem VO (a b o:List Int) (c:Int) (i:Nat) (ha:Z4.Dig a) (c0:0≤c) (c1:c≤20000) (Q:AExit→St→Prop) (hQ:∀s,Sub [3] s (dS a b o (c+at_ a i) i)→Q .normal s) :
  cw [3] (ConX Tryz.prog []) wt Q (dS a b o c i):=by
 have da:=ha.at_ i;by_cases h:i<a.length
 ·have hI:(i:Int)<(a.length:Int):=by omega
  have g1:=atJ h;skip
  (repeat first|with_reducible refine kp [0,1,5,6,7,27] ?_|simp only[kV,simprocAttr,csC]|refine aN ?_);(try simp only[kV,simprocAttr,csC,hI,h,g1]);refine ulk ?_;(repeat first|simp only[kV,simprocAttr,csC,hI,h,g1]|refine aN ?_);exact hQ _ (Sub.toG [0,1,5,6,7] [])
 ·have hI:¬ (i:Int)<(a.length:Int):=by omega
  rw[bx (by omega),z8Y] at hQ;skip
  (repeat first|with_reducible refine kp [0,1,5,6,7,27] ?_|simp only[kV,simprocAttr,csC]|refine aN ?_);(try simp only[kV,simprocAttr,csC,hI]);refine ulk ?_;(repeat first|simp only[kV,simprocAttr,csC,hI]|refine aN ?_);exact hQ _ (Sub.toG [0,1,5,6,7] [])
theorem VP (a b o:List Int) (c:Int) (i:Nat) (hb:Z4.Dig b) (c0:0≤c) (c1:c≤20000) (Q:AExit→St→Prop) (hQ:∀s,Sub [3] s (dS a b o (c+at_ b i) i)→Q .normal s) :
  cw [3] (ConX Tryz.prog []) wu Q (dS a b o c i):=by
 have db:=hb.at_ i;by_cases h:i<b.length
 ·have hI:(i:Int)<(b.length:Int):=by omega
  have g1:=atJ h;skip
  (repeat first|with_reducible refine kp [0,1,5,6,7,37] ?_|simp only[kV,simprocAttr,csC]|refine aN ?_);(try simp only[kV,simprocAttr,csC,hI,h,g1]);refine ulk ?_;(repeat first|simp only[kV,simprocAttr,csC,hI,h,g1]|refine aN ?_);exact hQ _ (Sub.toG [0,1,5,6,7] [])
 ·have hI:¬ (i:Int)<(b.length:Int):=by omega
  rw[bx (by omega),z8Y] at hQ;skip
  (repeat first|with_reducible refine kp [0,1,5,6,7,37] ?_|simp only[kV,simprocAttr,csC]|refine aN ?_);(try simp only[kV,simprocAttr,csC,hI]);refine ulk ?_;(repeat first|simp only[kV,simprocAttr,csC,hI]|refine aN ?_);exact hQ _ (Sub.toG [0,1,5,6,7] [])
theorem VQ (a b:List Int) (ha:Z4.Dig a) (hb:Z4.Dig b) (hla:a.length≤1000000000000) (hlb:b.length≤1000000000000):Con Tryz.prog [] 123 [LJ a,LJ b] (LJ (gL a b)):=by
 obtain⟨m,hm⟩:∃m,m=max a.length b.length:=⟨_,rfl⟩
 have hm1:a.length≤m:=by omega
 have hm2:b.length≤m:=by omega
 have hm3:m≤1000000000000:=by omega
 refine zeI.con rfl (by simp) ?_;(repeat first|simp only[kV,simprocAttr,csC,ax]|refine aN ?_);refine kp [0,1] ?_;(repeat first|simp only[kV,simprocAttr,csC,ax]|refine aN ?_);refine kp [0,1,5] ?_;(repeat first|simp only[kV,simprocAttr,csC,ax]|refine aN ?_);refine kp [0,1,5,6] ?_;(repeat first|simp only[kV,simprocAttr,csC,ax]|refine aN ?_);refine kp [0,1,5,6,7] ?_;(repeat first|simp only[kV,simprocAttr,csC,ax]|refine aN ?_);refine aB (ι:=Nat×Nat×Int×List Int) (fun s=>dA a b s.1 s.2.1 s.2.2.1 s.2.2.2=gL a b∧s.2.2.2.length=s.2.1∧0≤s.2.2.1∧s.2.2.1≤1∧m+1≤s.1+s.2.1∧s.2.1≤m+1∧(s.2.1≤m∨s.2.2.1=0)) (fun s=>dS a b s.2.2.2 s.2.2.1 s.2.1) (fun s=>s.1) (m+1,0,0,[]) ⟨by rw[hm],rfl,Int.le_refl _,by simp,by simp only;omega,by simp only;omega,.inl (by simp only;omega)⟩ (Sub.nilG 5 205 3 1) ?_;rintro⟨f,i,c,out⟩ ⟨hr,hl,c0,c1,hf,him,hc⟩;simp only at hr hl c0 c1 hf him hc;have da:=ha.at_ i;have db:=hb.at_ i;have hlen:(out.map (D.int .i64)).length=out.length:=z9V _;by_cases h:i<a.length∨i<b.length∨0<c
 ·obtain⟨f,rfl⟩:∃g,f=g+1:=⟨f-1,by
   have:f≠0:=fun e=>by
    have hc0:c=0:=hc.resolve_left (by omega);omega
   omega⟩
  rw[dA,if_pos h] at hr;have hnew:m+1≤f+(i+1)∧i+1≤m+1∧(i+1≤m∨(c+at_ a i+at_ b i) / 10000=0):=by
   by_cases hm3:i<m
   ·exact⟨by omega,by omega,.inl (by omega)⟩
   ·have e1:at_ a i=0:=bx (by omega);have e2:at_ b i=0:=bx (by omega);refine⟨by omega,?_,.inr (by rw[e1,e2];omega)⟩;rcases h with h | h | h
    ·omega
    ·omega
    ·have:=hc.resolve_right (by omega);omega
  have hb1:(out.length+1)*8≤140737488355328:=by omega
  have f2:out.length+1=(out++[(c+at_ a i+at_ b i) % 10000]).length:=by rw[z96];rfl
  have hl2:(out++[(c+at_ a i+at_ b i) % 10000]).length=i+1:=by rw[←f2,hl]
  have r1:(c+at_ a i+at_ b i).tmod 10000=(c+at_ a i+at_ b i) % 10000:=Int.tmod_eq_emod_of_nonneg (by omega);have r2:(c+at_ a i+at_ b i).tdiv 10000=(c+at_ a i+at_ b i) / 10000:=Int.tdiv_eq_ediv_of_nonneg (by omega);have k1:=VO a b out c i ha c0 (by omega);have k2:=VP a b out (c+at_ a i) i hb (by omega) (by omega);by_cases h1:i<a.length
  ·have h1I:(i:Int)<(a.length:Int):=by omega
   (repeat first|with_reducible refine kp [0,1,5,6,7,21] ?_|simp only[kV,simprocAttr,csC,h1I]|refine aN ?_);(try simp only[kV,simprocAttr,csC,h1I,r1,r2,f2,csQ]);refine ulk ?_;(repeat first|simp only[kV,simprocAttr,csC,h1I,r1,r2,f2,csQ]|refine aN ?_);refine⟨_,(Sub.toG [0,1,5,6,7] [47]).tr (Sub.rf _),?_⟩;refine ulk ?_;refine dk ?_;refine pC ?_;refine dk ?_;refine k1 _ fun t ht=>⟨_,ht,?_⟩
   refine ulk ?_;refine dk ?_;refine k2 _ fun t ht=>⟨_,ht,?_⟩
   refine ulk ?_;(repeat first|with_reducible refine kp [0,1,5,6,7] ?_|simp only[kV,simprocAttr,csC,h1I,r1,r2,f2,csQ]|refine aN ?_);exact⟨(f,i+1,(c+at_ a i+at_ b i) / 10000,out++[(c+at_ a i+at_ b i) % 10000]),⟨hr,hl2,by simp only;omega,by simp only;omega,hnew.1,hnew.2.1,hnew.2.2⟩,(by rw[jq];exact (Sub.toG [0,1,5,6,7] [47])),by simp only;omega⟩
  ·have h1I:¬ (i:Int)<(a.length:Int):=by omega
   by_cases h2:i<b.length
   ·have h2I:(i:Int)<(b.length:Int):=by omega
    (repeat first|with_reducible refine kp [0,1,5,6,7,21] ?_|simp only[kV,simprocAttr,csC,h1I,h2I]|refine aN ?_);(try simp only[kV,simprocAttr,csC,h1I,h2I,r1,r2,f2,csQ]);refine ulk ?_;(repeat first|simp only[kV,simprocAttr,csC,h1I,h2I,r1,r2,f2,csQ]|refine aN ?_);refine⟨_,(Sub.toG [0,1,5,6,7] [47]).tr (Sub.rf _),?_⟩;refine ulk ?_;refine dk ?_;refine pC ?_;refine dk ?_;refine k1 _ fun t ht=>⟨_,ht,?_⟩
    refine ulk ?_;refine dk ?_;refine k2 _ fun t ht=>⟨_,ht,?_⟩
    refine ulk ?_;(repeat first|with_reducible refine kp [0,1,5,6,7] ?_|simp only[kV,simprocAttr,csC,h1I,h2I,r1,r2,f2,csQ]|refine aN ?_);exact⟨(f,i+1,(c+at_ a i+at_ b i) / 10000,out++[(c+at_ a i+at_ b i) % 10000]),⟨hr,hl2,by simp only;omega,by simp only;omega,hnew.1,hnew.2.1,hnew.2.2⟩,(by rw[jq];exact (Sub.toG [0,1,5,6,7] [47])),by simp only;omega⟩
   ·have h2I:¬ (i:Int)<(b.length:Int):=by omega
    have h3:0<c:=by omega
    (repeat first|with_reducible refine kp [0,1,5,6,7,21] ?_|simp only[kV,simprocAttr,csC,h1I,h2I,h3]|refine aN ?_);(try simp only[kV,simprocAttr,csC,h1I,h2I,h3,r1,r2,f2,csQ]);refine ulk ?_;(repeat first|simp only[kV,simprocAttr,csC,h1I,h2I,h3,r1,r2,f2,csQ]|refine aN ?_);refine⟨_,(Sub.toG [0,1,5,6,7] [47]).tr (Sub.rf _),?_⟩;refine ulk ?_;refine dk ?_;refine pC ?_;refine dk ?_;refine k1 _ fun t ht=>⟨_,ht,?_⟩
    refine ulk ?_;refine dk ?_;refine k2 _ fun t ht=>⟨_,ht,?_⟩
    refine ulk ?_;(repeat first|with_reducible refine kp [0,1,5,6,7] ?_|simp only[kV,simprocAttr,csC,h1I,h2I,h3,r1,r2,f2,csQ]|refine aN ?_);exact⟨(f,i+1,(c+at_ a i+at_ b i) / 10000,out++[(c+at_ a i+at_ b i) % 10000]),⟨hr,hl2,by simp only;omega,by simp only;omega,hnew.1,hnew.2.1,hnew.2.2⟩,(by rw[jq];exact (Sub.toG [0,1,5,6,7] [47])),by simp only;omega⟩
 ·have h1I:¬ (i:Int)<(a.length:Int):=by omega
  have h2I:¬ (i:Int)<(b.length:Int):=by omega
  have h3:¬ 0<c:=by omega
  have hr2:out=gL a b:=by
   rw[←hr];cases f
   ·rfl
   ·rw[dA,if_neg h]
  (repeat first|with_reducible refine kp [0,1,5,6,7,21] ?_|simp only[kV,simprocAttr,csC,h1I,h2I,h3]|refine aN ?_);(try simp only[kV,simprocAttr,csC,h1I,h2I,h3,z9x,z9u,hlen,Bool.or_true]);refine ulk ?_;(repeat first|with_reducible refine kp [4,5] ?_|simp only[kV,simprocAttr,csC,af,ai,aq,ah,h1I,h2I,h3,z9x,z9u,hlen,Bool.or_true]|refine aN ?_);exact congrArg LJ hr2
end Go.Proofs.YtbnhgnhgbhjkcaaGreat.M
namespace Go.Proofs.YtbnhgnhgbhjkcaaGreat
set_option linter.unusedSimpArgs false
def cN (a b:Int):List UInt8:=if b=1 then dec a else dec a++47::dec b
theorem zbv {z:Int} (h:Sm z):(dec z).length≤8796093022210:=by
 have h1:z.natAbs<2^ei:=h;have h2:=sB h1;rw[iU] at h2;unfold dec cP;split<;>split<;>simp<;>omega
namespace Z4
theorem dec_one {b:Int}:dec b=[49]↔b=1:=by
 constructor
 ·intro h;have h1:=zaL b;rw[h] at h1;have h2:cP b.natAbs=[49]:=by rw[←h1.2];rfl
  have h3:=C0 b.natAbs;rw[h2] at h3;have h4:decide (b<0)=false:=by rw[←h1.1];rfl
  simp at h4;have h5:aJ [49]=1:=by decide
  omega
 ·rintro rfl;unfold dec cP;rw[if_neg (by omega),if_neg (by decide),show (1:Int).natAbs=1 from rfl,bQ (by omega)];simp only[Nat.reduceDiv,Nat.reduceMod];rw[cF];rfl
end Z4
end Go.Proofs.YtbnhgnhgbhjkcaaGreat
namespace Go.Proofs.YtbnhgnhgbhjkcaaGreat.M
set_option linter.unusedSimpArgs false
set_option maxRecDepth 20000
set_option maxHeartbeats 4000000
open Go.RowKit
def dB (a b:List Int):Nat→Nat→Int→List Int→List Int
 |0,_,_,out=>out
 |f+1,i,c,out=>dB a b f (i+1) (-((at_ a i-c-at_ b i) / 10000)) (out++[(at_ a i-c-at_ b i) % 10000])
theorem wc {a b:List Int} (ha:Z4.Dig a) (hb:Z4.Dig b) (hl:b.length≤a.length) (hv:Z4.valL b≤Z4.valL a):∀{f i:Nat}{c:Int}{out:List Int},Z4.Dig out→out.length=i→0≤c→c≤1→Z4.valL out-c*10000^i=Z4.valL (a.take i)-Z4.valL (b.take i)→f+i=a.length →
  Z4.Dig (dB a b f i c out)∧Z4.valL (dB a b f i c out)=Z4.valL a-Z4.valL b∧(dB a b f i c out).length=a.length
 |0,i,c,out,hd,hl2,c0,c1,hs,hf=>by
  unfold dB;rw[Z4.valL_take_all (by omega),Z4.valL_take_all (by omega)] at hs;have h1:=Z4.valL_lt hd;rw[hl2] at h1;have hc:c=0:=by
   by_cases hc:c=1
   ·rw[hc,Int.one_mul] at hs;omega
   ·omega
  rw[hc,Int.zero_mul,z9G] at hs;exact⟨hd,hs,by omega⟩
 |f+1,i,c,out,hd,hl2,c0,c1,hs,hf=>by
  have da:=ha.at_ i;have db:=hb.at_ i;unfold dB;refine wc ha hb hl hv (hd.snoc (by omega)) (by simp[hl2]) (by omega) (by omega) ?_ (by omega);rw[Z4.valL_snoc,hl2,Z4.valL_take_succ,Z4.valL_take_succ,z9H];have e:at_ a i-c-at_ b i=10000*((at_ a i-c-at_ b i) / 10000)+(at_ a i-c-at_ b i) % 10000:=by omega
  generalize (at_ a i-c-at_ b i) / 10000=q at *;generalize (at_ a i-c-at_ b i) % 10000=r at *;generalize (10000:Int)^i=p at *;grind
abbrev gT (a b:List Int):List Int:=dB a b a.length 0 0 []
theorem we {a b:List Int} (ha:Z4.Dig a) (hb:Z4.Dig b) (hl:b.length≤a.length) (hv:Z4.valL b≤Z4.valL a):Z4.Dig (gT a b)∧Z4.valL (gT a b)=Z4.valL a-Z4.valL b∧(gT a b).length=a.length:=
 wc ha hb hl hv (fun x hx=>by cases hx) rfl (by omega) (by omega) (by simp[Z4.valL]) rfl
abbrev dT (a b o:List Int) (i:Nat) (x:Int):St:=⟨ar [(0,.p (LJ a)),(1,.p (LJ b)),(5,.slice 205 0 o.length),(7,.p (.int .i64 i)),(8,.p (.int .i64 x))],au [(205,⟨3,1,.row (o.map (D.int .i64)),false⟩)]⟩
abbrev dU (a b o:List Int) (c:Int) (i:Nat) (x:Int):St:=⟨ar [(0,.p (LJ a)),(1,.p (LJ b)),(5,.slice 205 0 o.length),(6,.p (.int .i64 c)),(7,.p (.int .i64 i)),(8,.p (.int .i64 x))],au [(205,⟨3,1,.row (o.map (D.int .i64)),false⟩)]⟩
theorem zcI (a b o:List Int) (i:Nat) (x:Int) (hb:Z4.Dig b) (c0:-1≤x) (c1:x≤9999) (Q:AExit→St→Prop) (hQ:∀s,Sub [3] s (dT a b o i (x-at_ b i))→Q .normal s) :
  cw [3] (ConX Tryz.prog []) wv Q (dT a b o i x):=by
 have db:=hb.at_ i;by_cases h:i<b.length
 ·have hI:(i:Int)<(b.length:Int):=by omega
  have g1:=atJ h;skip
  (repeat first|with_reducible refine kp [0,1,5,7,8,24] ?_|simp only[kV,simprocAttr,csC]|refine aN ?_);(try simp only[kV,simprocAttr,csC,hI,h,g1]);refine ulk ?_;(repeat first|simp only[kV,simprocAttr,csC,hI,h,g1]|refine aN ?_);exact hQ _ (Sub.toG [0,1,5,7,8] [])
 ·have hI:¬ (i:Int)<(b.length:Int):=by omega
  rw[bx (by omega),z9G] at hQ;skip
  (repeat first|with_reducible refine kp [0,1,5,7,8,24] ?_|simp only[kV,simprocAttr,csC]|refine aN ?_);(try simp only[kV,simprocAttr,csC,hI]);refine ulk ?_;(repeat first|simp only[kV,simprocAttr,csC,hI]|refine aN ?_);exact hQ _ (Sub.toG [0,1,5,7,8] [])
theorem zcJ (a b o:List Int) (i:Nat) (x:Int) (c0:-10000≤x) (c1:x≤9999) (Q:AExit→St→Prop) (hQ:∀s,Sub [3] s (dU a b o (-(x / 10000)) i (x % 10000))→Q .normal s) :
  cw [3] (ConX Tryz.prog []) ww Q (dU a b o 0 i x):=by
 by_cases h:x<0
 ·rw[show x / 10000 = -1 by omega,show x % 10000=x+10000 by omega] at hQ;skip
  (repeat first|with_reducible refine kp [0,1,5,6,7,8,32] ?_|simp only[kV,simprocAttr,csC]|refine aN ?_);(try simp only[kV,simprocAttr,csC,h]);refine ulk ?_;(repeat first|with_reducible refine kp [0,1,5,7,8] ?_|simp only[kV,simprocAttr,csC,h]|refine aN ?_);exact hQ _ (Sub.toG [0,1,5,6,7,8] [])
 ·rw[show x / 10000=0 by omega,show x % 10000=x by omega] at hQ;skip
  (repeat first|with_reducible refine kp [0,1,5,6,7,8,32] ?_|simp only[kV,simprocAttr,csC]|refine aN ?_);(try simp only[kV,simprocAttr,csC,h]);refine ulk ?_;(repeat first|simp only[kV,simprocAttr,csC,h]|refine aN ?_);exact hQ _ (Sub.toG [0,1,5,6,7,8] [])
theorem wg (a b:List Int) (ha:Z4.Dig a) (hb:Z4.Dig b) (hla:a.length≤1000000000000):Con Tryz.prog [] 125 [LJ a,LJ b] (LJ (gT a b)):=by
 refine ze3.con rfl (by simp) ?_;(repeat first|simp only[kV,simprocAttr,csC,ax]|refine aN ?_);refine kp [0,1] ?_;(repeat first|simp only[kV,simprocAttr,csC,ax]|refine aN ?_);refine kp [0,1,5] ?_;(repeat first|simp only[kV,simprocAttr,csC,ax]|refine aN ?_);refine kp [0,1,5,6] ?_;(repeat first|simp only[kV,simprocAttr,csC,ax]|refine aN ?_);refine kp [0,1,5,6,7] ?_;(repeat first|simp only[kV,simprocAttr,csC,ax]|refine aN ?_);refine aB (ι:=Nat×Nat×Int×List Int) (fun s=>dB a b s.1 s.2.1 s.2.2.1 s.2.2.2=gT a b∧s.2.2.2.length=s.2.1∧0≤s.2.2.1∧s.2.2.1≤1∧s.1+s.2.1=a.length) (fun s=>dS a b s.2.2.2 s.2.2.1 s.2.1) (fun s=>s.1) (a.length,0,0,[]) ⟨rfl,rfl,Int.le_refl _,by simp,rfl⟩ (Sub.nilG 5 205 3 1) ?_;rintro⟨f,i,c,out⟩ ⟨hr,hl,c0,c1,hf⟩;simp only at hr hl c0 c1 hf;have da:=ha.at_ i;have db:=hb.at_ i;have hlen:(out.map (D.int .i64)).length=out.length:=z9V _;cases f with
 |zero =>
  have hI:¬ (i:Int)<(a.length:Int):=by omega
  (repeat first|with_reducible refine kp [0,1,5,6,7,12] ?_|simp only[kV,simprocAttr,csC,hI]|refine aN ?_);(try simp only[kV,simprocAttr,csC,hI,z9x,z9u,hlen,Bool.or_true]);refine ulk ?_;(repeat first|with_reducible refine kp [4,5] ?_|simp only[kV,simprocAttr,csC,af,ai,aq,ah,hI,z9x,z9u,hlen,Bool.or_true]|refine aN ?_);exact congrArg LJ hr
 |succ f =>
  have hI:(i:Int)<(a.length:Int):=by omega
  have h:i<a.length:=by omega
  have g1:=atJ h;rw[dB] at hr;have hb1:(out.length+1)*8≤140737488355328:=by omega
  have f2:out.length+1=(out++[(at_ a i-c-at_ b i) % 10000]).length:=by rw[z96];rfl
  have hl2:(out++[(at_ a i-c-at_ b i) % 10000]).length=i+1:=by rw[←f2,hl]
  have k1:=zcI a b out i (at_ a i-c) hb (by omega) (by omega);have k2:=zcJ a b out i (at_ a i-c-at_ b i) (by omega) (by omega);(repeat first|with_reducible refine kp [0,1,5,6,7,12] ?_|simp only[kV,simprocAttr,csC,hI]|refine aN ?_);(try simp only[kV,simprocAttr,csC,hI,h,g1,f2,csQ]);refine ulk ?_;(repeat first|simp only[kV,simprocAttr,csC,hI,h,g1,f2,csQ]|refine aN ?_);refine kp [0,1,5,6,7] ?_;(repeat first|simp only[kV,simprocAttr,csC,hI,h,g1,f2,csQ]|refine aN ?_);refine⟨_,(Sub.toG [0,1,5,7,8] [37]).tr (Sub.rf _),?_⟩;refine ulk ?_;refine dk ?_;refine k1 _ fun t ht=>⟨_,ht,?_⟩
  refine ulk ?_;(repeat first|simp only[kV,simprocAttr,csC,hI,h,g1,f2,csQ]|refine aN ?_);refine⟨_,(Sub.toG [0,1,5,6,7,8] [37]).tr (Sub.rf _),?_⟩;refine ulk ?_;refine dk ?_;refine k2 _ fun t ht=>⟨_,ht,?_⟩
  refine ulk ?_;(repeat first|with_reducible refine kp [0,1,5,6,7] ?_|simp only[kV,simprocAttr,csC,hI,h,g1,f2,csQ]|refine aN ?_);exact⟨(f,i+1,-((at_ a i-c-at_ b i) / 10000),out++[(at_ a i-c-at_ b i) % 10000]),⟨hr,hl2,by simp only;omega,by simp only;omega,by simp only;omega⟩,(by rw[jq];exact (Sub.toG [0,1,5,6,7] [37])),by simp only;omega⟩
theorem zcK (z:Int):Z4.valL (zd z)=z.natAbs:=(cU z).2.2
theorem mj (z:Int):sg (decide (z<0)) (Z4.valL (zd z))=z:=by rw[zcK];exact jM z
theorem pL (a b:Int) (hla:(zd a).length≤900000000000) (hlb:(zd b).length≤900000000000):Con Tryz.prog [] 98 [aH a,aH b] (aH (a+b)):=by
 by_cases ha0:a=0
 ·subst ha0;rw[Int.zero_add];have e:zd 0=[]:=fR.2 rfl;rw[bh,bh,e];refine jR.con rfl (by simp) ?_;(repeat first|with_reducible refine kp [2,3,4,8] ?_|simp only[kV,simprocAttr,csC,ax]|refine aN ?_);refine ulk ?_;(repeat first|with_reducible refine kp [4] ?_|simp only[kV,simprocAttr,csC,af,ai,aq,ah]|refine aN ?_)
 by_cases hb0:b=0
 ·subst hb0;rw[z8Y];have e:zd 0=[]:=fR.2 rfl;have hI:¬ ((zd a).length:Int)=0:=by have:=fS ha0;omega
  rw[bh,bh,e];refine jR.con rfl (by simp) ?_;(repeat first|with_reducible refine kp [2,3,4,8] ?_|simp only[kV,simprocAttr,csC,ax]|refine aN ?_);(try simp only[kV,simprocAttr,csC,hI]);refine ulk ?_;(repeat first|with_reducible refine kp [2,3,4,13] ?_|simp only[kV,simprocAttr,csC,hI]|refine aN ?_);refine ulk ?_;(repeat first|with_reducible refine kp [4] ?_|simp only[kV,simprocAttr,csC,af,ai,aq,ah]|refine aN ?_)
 have hI:¬ ((zd a).length:Int)=0:=by have:=fS ha0;omega
 have hJ:¬ ((zd b).length:Int)=0:=by have:=fS hb0;omega
 obtain⟨d1,n1,v1⟩:=cU a;obtain⟨d2,n2,v2⟩:=cU b;have s1:=mj a;have s2:=mj b;rw[bh a,bh b];have key:∀z,Con Tryz.prog [] 98 [.agg [.bool (decide (a<0)),LJ (zd a)],.agg [.bool (decide (b<0)),LJ (zd b)]] (aH z)→z=a+b→Con Tryz.prog [] 98 [.agg [.bool (decide (a<0)),LJ (zd a)],.agg [.bool (decide (b<0)),LJ (zd b)]] (aH (a+b)):=fun z h e=>e ▸ h
 generalize decide (a<0)=m at *;generalize decide (b<0)=n at *;generalize zd a=x at *;generalize zd b=y at *;by_cases hs:m=n
 ·subst hs;obtain⟨q1,q2,q3⟩:=VK d1 d2;refine key _ ?_ ((rE (m:=m) (n:=m) (p:=Z4.valL x) (q:=Z4.valL y) rfl).trans (by rw[s1,s2]));have c1:=VQ x y d1 d2 (by omega) (by omega);have c2:=dW m (gL x y) q1 (z9E q3 (by omega));rw[q2] at c2;have hm:(m == m)=true:=by simp
  refine jR.con rfl (by simp) ?_;(repeat first|with_reducible refine kp [2,3,4,8] ?_|simp only[kV,simprocAttr,csC,ax]|refine aN ?_);(try simp only[kV,simprocAttr,csC,hI]);refine ulk ?_;(repeat first|with_reducible refine kp [2,3,4,13] ?_|simp only[kV,simprocAttr,csC,hI]|refine aN ?_);(try simp only[kV,simprocAttr,csC,hJ]);refine ulk ?_;(repeat first|with_reducible refine kp [2,3,4,19] ?_|simp only[kV,simprocAttr,csC,hJ]|refine aN ?_);(try simp only[kV,simprocAttr,csC,hm]);refine ulk ?_;(repeat first|simp only[kV,simprocAttr,csC,hm]|refine aN ?_);refine⟨_,cx (c1),ulc ?_⟩;(repeat first|simp only[kV,simprocAttr,csC]|refine aN ?_);refine⟨_,cx (c2),ulc ?_⟩;(repeat first|with_reducible refine kp [4] ?_|simp only[kV,simprocAttr,csC,af,ai,aq,ah]|refine aN ?_)
 ·have hs':(m == n)=false:=by cases m<;>cases n<;>simp at hs ⊢
  have c1:=tn x y d1 d2 n1 n2 (by omega) (by omega);by_cases hc:Z4.valL y≤Z4.valL x
  ·have hlen:y.length≤x.length:=by
    by_cases h:y.length≤x.length
    ·exact h
    ·have:=Z4.valL_lt_of_len d1 d2 n2 (by omega:x.length<y.length);omega
   obtain⟨q1,q2,q3⟩:=we d1 d2 hlen hc;refine key _ ?_ ((rF (m:=m) (n:=n) (p:=Z4.valL x) (q:=Z4.valL y) hs).trans (by rw[s1,s2]));have c2:=wg x y d1 d2 (by omega);have c3:=dW m (gT x y) q1 (by omega);rw[q2] at c3;have hz:0≤cmpZ (Z4.valL x) (Z4.valL y):=by unfold cmpZ;(repeat' split)<;>omega
   generalize cmpZ (Z4.valL x) (Z4.valL y)=z at *;refine jR.con rfl (by simp) ?_;(repeat first|with_reducible refine kp [2,3,4,8] ?_|simp only[kV,simprocAttr,csC,ax]|refine aN ?_);(try simp only[kV,simprocAttr,csC,hI]);refine ulk ?_;(repeat first|with_reducible refine kp [2,3,4,13] ?_|simp only[kV,simprocAttr,csC,hI]|refine aN ?_);(try simp only[kV,simprocAttr,csC,hJ]);refine ulk ?_;(repeat first|with_reducible refine kp [2,3,4,19] ?_|simp only[kV,simprocAttr,csC,hJ]|refine aN ?_);(try simp only[kV,simprocAttr,csC,hs,hs']);refine ulk ?_;(repeat first|with_reducible refine kp [2,3,4] ?_|simp only[kV,simprocAttr,csC,hs,hs']|refine aN ?_);refine⟨_,cx (c1),ulc ?_⟩;(repeat first|with_reducible refine kp [2,3,4,33] ?_|simp only[kV,simprocAttr,csC]|refine aN ?_);(try simp only[kV,simprocAttr,csC,hz]);refine ulk ?_;(repeat first|simp only[kV,simprocAttr,csC,hz]|refine aN ?_);refine⟨_,cx (c2),ulc ?_⟩;(repeat first|simp only[kV,simprocAttr,csC]|refine aN ?_);refine⟨_,cx (c3),ulc ?_⟩;(repeat first|with_reducible refine kp [4] ?_|simp only[kV,simprocAttr,csC,af,ai,aq,ah]|refine aN ?_)
  ·have hlen:x.length≤y.length:=by
    by_cases h:x.length≤y.length
    ·exact h
    ·have:=Z4.valL_lt_of_len d2 d1 n1 (by omega:y.length<x.length);omega
   obtain⟨q1,q2,q3⟩:=we d2 d1 hlen (by omega);refine key _ ?_ ((rG (m:=m) (n:=n) (p:=Z4.valL x) (q:=Z4.valL y) hs).trans (by rw[s1,s2]));have c2:=wg y x d2 d1 (by omega);have c3:=dW n (gT y x) q1 (by omega);rw[q2] at c3;have hz:¬ 0≤cmpZ (Z4.valL x) (Z4.valL y):=by unfold cmpZ;(repeat' split)<;>omega
   generalize cmpZ (Z4.valL x) (Z4.valL y)=z at *;refine jR.con rfl (by simp) ?_;(repeat first|with_reducible refine kp [2,3,4,8] ?_|simp only[kV,simprocAttr,csC,ax]|refine aN ?_);(try simp only[kV,simprocAttr,csC,hI]);refine ulk ?_;(repeat first|with_reducible refine kp [2,3,4,13] ?_|simp only[kV,simprocAttr,csC,hI]|refine aN ?_);(try simp only[kV,simprocAttr,csC,hJ]);refine ulk ?_;(repeat first|with_reducible refine kp [2,3,4,19] ?_|simp only[kV,simprocAttr,csC,hJ]|refine aN ?_);(try simp only[kV,simprocAttr,csC,hs,hs']);refine ulk ?_;(repeat first|with_reducible refine kp [2,3,4] ?_|simp only[kV,simprocAttr,csC,hs,hs']|refine aN ?_);refine⟨_,cx (c1),ulc ?_⟩;(repeat first|with_reducible refine kp [2,3,4,33] ?_|simp only[kV,simprocAttr,csC]|refine aN ?_);(try simp only[kV,simprocAttr,csC,hz]);refine ulk ?_;(repeat first|with_reducible refine kp [2,3,4] ?_|simp only[kV,simprocAttr,csC,hz]|refine aN ?_);refine⟨_,cx (c2),ulc ?_⟩;(repeat first|simp only[kV,simprocAttr,csC]|refine aN ?_);refine⟨_,cx (c3),ulc ?_⟩;(repeat first|with_reducible refine kp [4] ?_|simp only[kV,simprocAttr,csC,af,ai,aq,ah]|refine aN ?_)
theorem zcL (z:Int):zd (-z)=zd z:=by unfold zd;rw[Int.natAbs_neg]
theorem pM (a b:Int) (hla:(zd a).length≤900000000000) (hlb:(zd b).length≤900000000000):Con Tryz.prog [] 138 [aH a,aH b] (aH (a-b)):=by
 have c1:=nX b (by omega);have c2:=pL a (-b) hla (by rw[zcL];exact hlb);rw[←Int.sub_eq_add_neg] at c2;refine zfx.con rfl (by simp) ?_;(repeat first|with_reducible refine kp [2,3,4] ?_|simp only[kV,simprocAttr,csC,ax]|refine aN ?_);refine⟨_,cx (c1),ulc ?_⟩;(repeat first|simp only[kV,simprocAttr,csC]|refine aN ?_);refine⟨_,cx (c2),ulc ?_⟩;(repeat first|with_reducible refine kp [4] ?_|simp only[kV,simprocAttr,csC,af,ai,aq,ah]|refine aN ?_)
theorem zcM (a b:Int) (hla:(zd a).length≤900000000000) (hlb:(zd b).length≤900000000000):Con Tryz.prog [] 137 [aH a,aH b] (.int .i64 (cmpZ a b)):=by
 have c1:=pM a b hla hlb;have c2:=tk (a-b);have e:bM (a-b)=cmpZ a b:=by unfold bM cmpZ;(repeat' split)<;>omega
 rw[e] at c2;refine zfE.con rfl (by simp) ?_;(repeat first|with_reducible refine kp [2,3] ?_|simp only[kV,simprocAttr,csC,ax]|refine aN ?_);refine⟨_,cx (c1),ulc ?_⟩;(repeat first|simp only[kV,simprocAttr,csC]|refine aN ?_);refine⟨_,cx (c2),ulc ?_⟩;(repeat first|with_reducible refine kp [4] ?_|simp only[kV,simprocAttr,csC,af,ai,aq,ah]|refine aN ?_)
end Go.Proofs.YtbnhgnhgbhjkcaaGreat.M
namespace Go.Proofs.YtbnhgnhgbhjkcaaGreat
set_option linter.unusedSimpArgs false
theorem yI {u:List UInt8}:bP (u.take (bP u))=bP u:=by
 unfold bP;induction u with
 |nil=>rfl
 |cons c t ih =>
  by_cases h:fH c=true
  ·rw[List.takeWhile_cons_of_pos h,List.length_cons,List.take_succ_cons,List.takeWhile_cons_of_pos h,List.length_cons,ih]
  ·rw[List.takeWhile_cons_of_neg h];rfl
theorem yJ {t:List UInt8} (h:(ay true t).2=true):cE (t.take (ay true t).1)=true:=by
 obtain⟨f,hf⟩:∃f,f=(if true&&aK t then 1 else 0):=⟨_,rfl⟩
 by_cases h48:((t.drop f).head? == some 48)=true
 ·rw[fJ hf.symm h48] at h ⊢;by_cases hf1:f=1
  ·subst hf1;simp at h
  ·have hf0:f=0:=by rw[hf] at hf1 ⊢;split at hf1<;>simp_all
   subst hf0;rw[z9u] at h48
   match t,h48 with
   |[],h48=>simp at h48
   |c::u,h48 =>
    have hc:c=48:=by simpa using h48
    subst hc;simp;decide
 ·have h48':((t.drop f).head? == some 48)=false:=by simpa using h48
  have hr:=eo (sg:=true) hf.symm h48' rfl;rw[hr] at h ⊢;simp only[z8T] at h;have hd:0<bP (t.drop f):=by omega
  obtain⟨d,hdd⟩:∃d,d=bP (t.drop f):=⟨_,rfl⟩
  rw[←hdd] at hd ⊢;have hneg:aK (t.take (f+d))=aK t:=by
   unfold aK
   match t with
   |[]=>simp
   |c::u =>
    obtain⟨k,hk⟩:∃k,f+d=k+1:=⟨f+d-1,by omega⟩
    rw[hk];rfl
  have hdr:(t.take (f+d)).drop f=(t.drop f).take d:=by
   rw[List.drop_take];congr 1
   omega
  have h482:(((t.take (f+d)).drop f).head? == some 48)=false:=by
   rw[hdr];obtain⟨k,hk⟩:∃k,d=k+1:=⟨d-1,by omega⟩
   rw[hk];cases hu:t.drop f with
   |nil=>rfl
   |cons c u=>rw[hu] at h48';exact h48'
  have hrun:bP ((t.take (f+d)).drop f)=d:=by rw[hdr,hdd,yI]
  have hr2:=eo (sg:=true) (t:=t.take (f+d)) (f:=f) (by rw[hneg];exact hf.symm) h482 rfl;rw[hrun] at hr2;unfold cE;rw[hr2];simp;omega
theorem qu {u:List UInt8} (h:(ay false u).2=true) (hl:u.length≤(ay false u).1):cE u=true∧u≠[48]:=by
 by_cases h48:((u.drop 0).head? == some 48)=true
 ·rw[fJ (sg:=false) rfl h48] at h;simp at h
 ·have h48':((u.drop 0).head? == some 48)=false:=by simpa using h48
  have hr:=eo (sg:=false) (t:=u) (f:=0) rfl h48' rfl;rw[hr] at h hl;rw[z9u] at h hl h48';simp only[z8T,z9o] at h hl;have hall:=wD (l:=u) hl;have hneg:aK u=false:=by
   match u,h with
   |[],h=>rfl
   |c::v,h =>
    have:=hall 0 (by simp);rw[fI] at this;simp only[aK,List.head?_cons];rw[beq_eq_false_iff_ne];intro e;injection e with e
    subst e;simp at this
  refine⟨?_,fun e=>by subst e;simp at h48'⟩;have hr2:=eo (sg:=true) (t:=u) (f:=0) (by rw[hneg];rfl) (by rw[z9u];exact h48') rfl;unfold cE;rw[hr2];simp;omega
end Go.Proofs.YtbnhgnhgbhjkcaaGreat
namespace Go.Proofs.YtbnhgnhgbhjkcaaGreat.M
set_option linter.unusedSimpArgs false
set_option maxRecDepth 20000
set_option maxHeartbeats 4000000
open Go.RowKit
theorem zhX (n:Int):inK .u64 n=decide (0≤n∧n≤18446744073709551615):=rfl
def csE:=an @zhX csC
theorem mo (n:Nat) (h2:n≤9223372036854775807):Con Tryz.prog [] 62 [.int .i64 n] (aH n):=by
 have hn0:¬ (n:Int)<0:=by omega
 have hn1:(0:Int)≤n:=by omega
 have hn2:(n:Int)≤18446744073709551615:=by omega
 have hn3:decide ((n:Int)<0)=false:=z8R hn0;refine zfT.con rfl (by simp) ?_;(repeat first|with_reducible refine kp [0,2,3,8] ?_|simp only[kV,simprocAttr,csE,aP,hn0,hn1,hn2]|refine aN ?_);refine ulk ?_;(repeat first|simp only[kV,simprocAttr,csE,hn0]|refine aN ?_);refine kp [0,2,3] ?_;(repeat first|simp only[kV,simprocAttr,csE,hn0]|refine aN ?_);refine kp [0,2,3,4] ?_;(repeat first|simp only[kV,simprocAttr,csE,hn0]|refine aN ?_);refine aB (ι:=Nat×Int×List Int) (fun s=>s.1+s.2.2.length=5∧0≤s.2.1∧s.2.1≤18446744073709551615∧s.2.1<10000^s.1∧Z4.Dig s.2.2∧Z4.valL s.2.2+s.2.1*10000^s.2.2.length=n) (fun s=>⟨ar [(0,.p (.int .i64 n)),(2,.ptr 2 0 0),(3,.p (.int .u64 s.2.1)),(4,.slice 205 0 s.2.2.length)],au [(2,⟨48,2,.box (.p (.agg [.bool false,LJ []])),false⟩),(205,⟨3,1,.row (s.2.2.map (D.int .i64)),false⟩)]⟩) (fun s=>s.1) (5,n,[]) ⟨rfl,hn1,hn2,by simp only;omega,fun x hx=>by (cases hx),by simp[Z4.valL]⟩ (Sub.nilG 4 205 3 1) ?_;rintro⟨f,u,out⟩ ⟨hl,u0,u1,u2,hd,hv⟩;simp only at hl u0 u1 u2 hd hv;have hlen:(out.map (D.int .i64)).length=out.length:=z9V _;by_cases h:0<u
 ·obtain⟨f,rfl⟩:∃g,f=g+1:=⟨f-1,by
   have:f≠0:=fun e=>by subst e;rw[Int.pow_zero] at u2;omega
   omega⟩
  have f2:out.length+1=(out++[u % 10000]).length:=by rw[z96];rfl
  have r1:u.tmod 10000=u % 10000:=Int.tmod_eq_emod_of_nonneg (by omega);have r2:u.tdiv 10000=u / 10000:=Int.tdiv_eq_ediv_of_nonneg (by omega);have hb1:(out.length+1)*8≤140737488355328:=by omega
  have hm0:0≤u % 10000∧u % 10000≤9999:=by omega
  have hq0:0≤u / 10000∧u / 10000≤u:=by omega
  (repeat first|with_reducible refine kp [0,2,3,4,12] ?_|simp only[kV,simprocAttr,csE,h]|refine aN ?_);(try simp only[kV,simprocAttr,csE,h,r1,r2,f2,csQ]);refine ulk ?_;(repeat first|with_reducible refine kp [0,2,3,4] ?_|simp only[kV,simprocAttr,csE,h,r1,r2,f2,csQ]|refine aN ?_);refine⟨(f,u / 10000,out++[u % 10000]),⟨by simp only;omega,hq0.1,by simp only;omega,?_,hd.snoc hm0,?_⟩,(by rw[jq];exact (Sub.toG [0,2,3,4] [17])),by simp only;omega⟩
  ·rw[z9H] at u2;simp only;generalize (10000:Int)^f=p at *;omega
  ·simp only;rw[Z4.valL_snoc,←f2,z9H,←hv];have e:u=10000*(u / 10000)+u % 10000:=by omega
   generalize u / 10000=q at *;generalize u % 10000=r at *;generalize (10000:Int)^out.length=p at *;grind
 ·have hu:u=0:=by omega
  rw[hu,Int.zero_mul,z8Y] at hv;have c1:=dW false out hd (by omega);rw[hv] at c1;rw[show sg false (n:Int)=n from rfl] at c1;(repeat first|with_reducible refine kp [0,2,3,4,12] ?_|simp only[kV,simprocAttr,csE,h]|refine aN ?_);(try simp only[kV,simprocAttr,csE,h,z9x,z9u,hlen,hn0,hn3]);refine ulk ?_;(repeat first|simp only[kV,simprocAttr,csE,h,z9x,z9u,hlen,hn0,hn3]|refine aN ?_);refine iy 205 _ [0,2,4] (by rfl) ?_;refine ulk ?_;(repeat first|simp only[kV,simprocAttr,csE,h,z9x,z9u,hlen,hn0,hn3]|refine aN ?_);refine⟨_,cx (c1),ulc ?_⟩;(repeat first|with_reducible refine kp [2] ?_|simp only[kV,simprocAttr,csE,af,ai,aq,ah]|refine aN ?_)
end Go.Proofs.YtbnhgnhgbhjkcaaGreat.M
namespace Go.Proofs.YtbnhgnhgbhjkcaaGreat
set_option linter.unusedSimpArgs false
open Go.RowKit
def bJ (t:List UInt8):Int×Int×Int×Int:=
 if (ay true t).2=true∧(ay true t).1<t.length∧byt t (ay true t).1=47 then
  if (ay false (t.drop ((ay true t).1+1))).2=true∧(t.drop ((ay true t).1+1)).length≤(ay false (t.drop ((ay true t).1+1))).1 then
   if (body (t.take (ay true t).1)).length≤1000∧(t.drop ((ay true t).1+1)).length≤1000 then
    if cN (frN (parseZ (t.take (ay true t).1)) (parseZ (t.drop ((ay true t).1+1)))) (frD (parseZ (t.take (ay true t).1)) (parseZ (t.drop ((ay true t).1+1))))=t then
     (frN (parseZ (t.take (ay true t).1)) (parseZ (t.drop ((ay true t).1+1))),frD (parseZ (t.take (ay true t).1)) (parseZ (t.drop ((ay true t).1+1))),0,0)
    else (0,1,3,0)
   else (0,1,2,0)
  else (0,1,1,((ay true t).1:Int)+1+(ay false (t.drop ((ay true t).1+1))).1)
 else if (ay true t).2=true∧t.length≤(ay true t).1 then (if (body t).length≤1000 then (parseZ t,1,0,0) else (0,1,2,0))
 else (0,1,1,(ay true t).1)
theorem qb {t:List UInt8} (h:(ay true t).2=false∨((ay true t).1<t.length∧byt t (ay true t).1≠47)):bJ t=(0,1,1,((ay true t).1:Int)):=by
 unfold bJ;rw[if_neg (by rintro⟨h1,h2,h3⟩;rcases h with h | ⟨_,h⟩;rw[h1] at h;cases h;exact h h3),if_neg (by rintro⟨h1,h2⟩;rcases h with h | ⟨h,_⟩;rw[h1] at h;cases h;omega)]
theorem qc {t:List UInt8} (h:(ay true t).2=true) (h2:t.length≤(ay true t).1):bJ t=if (body t).length≤1000 then (parseZ t,1,0,0) else (0,1,2,0):=by
 unfold bJ;rw[if_neg (by rintro⟨_,h4,_⟩;omega),if_pos ⟨h,h2⟩]
theorem qd {t:List UInt8} (h:(ay true t).2=true) (h2:(ay true t).1<t.length) (h3:byt t (ay true t).1=47):bJ t =
  if (ay false (t.drop ((ay true t).1+1))).2=true∧(t.drop ((ay true t).1+1)).length≤(ay false (t.drop ((ay true t).1+1))).1 then
   if (body (t.take (ay true t).1)).length≤1000∧(t.drop ((ay true t).1+1)).length≤1000 then
    if cN (frN (parseZ (t.take (ay true t).1)) (parseZ (t.drop ((ay true t).1+1)))) (frD (parseZ (t.take (ay true t).1)) (parseZ (t.drop ((ay true t).1+1))))=t then
     (frN (parseZ (t.take (ay true t).1)) (parseZ (t.drop ((ay true t).1+1))),frD (parseZ (t.take (ay true t).1)) (parseZ (t.drop ((ay true t).1+1))),0,0)
    else (0,1,3,0)
   else (0,1,2,0)
  else (0,1,1,((ay true t).1:Int)+1+(ay false (t.drop ((ay true t).1+1))).1):=by
 unfold bJ;rw[if_pos ⟨h,h2,h3⟩]
theorem j8 {u:List UInt8} (h:(ay false u).2=true) (hl:u.length≤(ay false u).1) (hu:u.length≤1000):parseZ u≠0:=by
 obtain⟨hok,hne⟩:=qu h hl;have hc:c6 u=0:=by
  unfold c6;rw[if_pos hok,if_pos (by rw[gW];omega)]
 intro h0;have:=tN hc;rw[h0,CY] at this;exact hne this.symm
end Go.Proofs.YtbnhgnhgbhjkcaaGreat
