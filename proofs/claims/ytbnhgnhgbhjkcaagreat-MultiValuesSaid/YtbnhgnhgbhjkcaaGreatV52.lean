/- Lemmas. -/
import Derived.Test.YtbnhgnhgbhjkcaaGreatV51
import Derived.Test.YtbnhgnhgbhjkcaaGreatV45
import Derived.Test.YtbnhgnhgbhjkcaaGreatV32
import Derived.Test.YtbnhgnhgbhjkcaaGreatV23
import Derived.ProofKit
import Derived.Test.YtbnhgnhgbhjkcaaGreatV50
set_option linter.defProp false
set_option linter.unusedSectionVars false
set_option linter.unusedSimpArgs false
set_option linter.unusedVariables false
namespace Go.Proofs.YtbnhgnhgbhjkcaaGreat.M
open Go.RowKit
set_option maxRecDepth 20000
set_option maxHeartbeats 2000000
abbrev LSt (T:Nat) (l:List (List UInt8)):D:=.list T 1 (l.map D.str)
abbrev FI:Nat:=88
abbrev LQ (l:List Rat):D:=.list FI 4 (l.map qI)
noncomputable def pF:Nat→List (List UInt8)→Int×Int
 |_,[]=>(0,0)
 |i,t::l=>if cR t=0 then pF (i+1) l else (cR t,(i:Int))
noncomputable def ptF (ts:List (List UInt8)) (n:Int):Int×Int:=if (ts.length:Int)=n then pF 0 ts else (8,0)
noncomputable def ptL (ts:List (List UInt8)):List Rat:=ts.map qR
theorem fq (ts:List (List UInt8)):(ptL ts).length=ts.length:=List.length_map _
theorem o9 {l:List (List UInt8)}{i:Nat} (h:i<l.length):(l.map D.str).getD i default = .str (st0 l i):=by simp[st0,h]
theorem vx:∀{l:List (List UInt8)}{i:Nat},(pF i l).1=0→pF i l=(0,0)∧∀t∈l,cR t=0
 |[],_,_=>⟨rfl,fun _ h=>by cases h⟩
 |t::l,i,h=>by
  rw[pF] at h ⊢;split at h
  ·rename_i h0;rw[if_pos h0];obtain⟨h1,h2⟩:=vx h;exact⟨h1,fun x hx=>by
    rcases List.mem_cons.1 hx with rfl | hx
    ·exact h0
    ·exact h2 x hx⟩
  ·rename_i h0;exact absurd h h0
theorem vy {ts:List (List UInt8)}{n:Int} (h:(ptF ts n).1=0):(ts.length:Int)=n∧ptF ts n=(0,0):=by
 unfold ptF at h ⊢;split at h
 ·rename_i h0;rw[if_pos h0];exact⟨h0,(vx h).1⟩
 ·cases h
noncomputable def ptA (ts:List (List UInt8)) (n:Int):List Rat:=if (ptF ts n).1=0 then ptL ts else []
theorem aW (x:Rat):cD (List.map AV.p (qI x).cells)=some (qI x).cells:=rfl
theorem zdK (T:Nat) (ts:List (List UInt8)) (n:Int) (hl:ts.length≤17592186044416) (hs:∀t∈ts,t.length≤9223372036854775807) (hn:n≤4) :
  Con Tryz.prog AN 56 [LSt T ts,J n] (.tup [LQ (ptA ts n),flt (ptF ts n).1 (ptF ts n).2]):=by
 by_cases hn:(ts.length:Int)=n
 ·have e:ptF ts n=pF 0 ts:=if_pos hn;refine qy.con rfl (by simp) ?_;(repeat first|with_reducible refine kp [0,1,5,14] ?_|simp only[kV,simprocAttr,aa,aW,ax,hn]|refine aN ?_);refine ulk ?_;(repeat first|simp only[kV,simprocAttr,aa,aW,hn]|refine aN ?_);refine kp [0,5] ?_;(repeat first|simp only[kV,simprocAttr,aa,aW,hn]|refine aN ?_);refine kp [0,5,6] ?_;(repeat first|simp only[kV,simprocAttr,aa,aW,hn]|refine aN ?_);refine kp [5,6,16,17,18] ?_;(repeat first|simp only[kV,simprocAttr,aa,aW,hn]|refine aN ?_);refine aE (ι:=Nat) (fun i=>i≤ts.length∧pF i (ts.drop i)=pF 0 ts) (fun i=>⟨ai [(5,.ptr 5 0 0),(6,.slice 206 0 i),(16,.p (LSt T ts)),(17,.p (J n)),(18,.p (J i))],
   aw [(5,⟨25,2,.box (.p (flt 0 0)),false⟩),(206,⟨FI,4,.row ((ptL (ts.take i)).map qI),false⟩)]⟩) (fun i=>ts.length-i) 0 ⟨Nat.zero_le _,rfl⟩ (Sub.tr (Sub.nilG 6 206 FI 4) (Sub.toG [5,6,16,17,18] [9,10,37])) ?_
  rintro i ⟨hi,he⟩;by_cases h:i<ts.length
  ·have hI:(i:Int)<n:=by omega
   have hI2:(i:Int)<(ts.length:Int):=by omega
   have g1:=o9 h;have hst:=hs _ (m7 h);have htk:=m8 h;have hlen:(ptL (ts.take i)).length=i:=by rw[fq,List.length_take,Nat.min_eq_left hi]
   rw[rB h,pF] at he;have f1:(ptL (ts.take (i+1))).map qI=(ptL (ts.take i)).map qI++[qI (qR (st0 ts i))]:=by rw[htk];simp[ptL]
   generalize st0 ts i=t at *;generalize ptL (ts.take i)=q at *;have hb:(i+1)*32≤140737488355328*8:=by omega
   (repeat first|with_reducible refine kp [5,6,16,17,18,19] ?_|simp only[kV,simprocAttr,aa,aW,hI]|refine aN ?_);(try simp only[kV,simprocAttr,aa,aW,hI,hI2,g1,h]);refine ulk ?_;(repeat first|with_reducible refine kp [5,6,7,8,16,17,18] ?_|simp only[kV,simprocAttr,aa,aW,hI,hI2,g1,h]|refine aN ?_);refine⟨_,cx (lJ t hst),ulc ?_⟩;(repeat first|with_reducible refine kp [5,6,7,9,10,16,17,18,30] ?_|simp only[kV,simprocAttr,aa,aW,hlen]|refine aN ?_);by_cases hc:cR t=0
   ·rw[if_pos hc] at he;refine⟨fun h1=>absurd h1 (by rw[hc];simp),fun _ => ?_⟩;(try simp only[kV,simprocAttr,aa,aW,hlen]);refine ulk ?_;(repeat first|with_reducible refine kp [5,6,9,16,17,18] ?_|simp only[kV,simprocAttr,aa,aW,hlen]|refine aN ?_);exact⟨i+1,⟨h,he⟩,by rw[f1];exact (Sub.toG [5,6,16,17,18] [9,10,37]),by omega⟩
   ·rw[if_neg hc] at he;refine⟨fun _ => ?_,fun h1=>absurd h1 (by rw[decide_eq_false hc];simp)⟩;have ea:ptA ts n=[]:=by unfold ptA;rw[e,←he,if_neg hc]
    rw[ea,e,←he];(try simp only[kV,simprocAttr,aa,aW]);refine ulk ?_;(repeat first|simp only[kV,simprocAttr,aa,aW]|refine aN ?_);refine⟨_,cx (cM (cR t) i),ulc ?_⟩;(repeat first|with_reducible refine kp [4,5] ?_|simp only[kV,simprocAttr,aa,aW,ac,ah,ae,af]|refine aN ?_);rfl
  ·have hI:¬ (i:Int)<n:=by omega
   obtain rfl:i=ts.length:=by omega
   have htk:List.take ts.length ((ptL ts).map qI)=(ptL ts).map qI:=List.take_of_length_le (by rw[List.length_map,fq];exact Nat.le_refl _);rw[List.drop_length,pF] at he;have ea:ptA ts n=ptL ts:=by unfold ptA;rw[e,←he];exact if_pos rfl
   rw[ea,e,←he,List.take_length];(repeat first|with_reducible refine kp [5,6,16,17,18,19] ?_|simp only[kV,simprocAttr,aa,aW,hI]|refine aN ?_);(try simp only[kV,simprocAttr,aa,aW,hI,fq]);refine ulk ?_;(repeat first|simp only[kV,simprocAttr,aa,aW,hI,fq]|refine aN ?_);refine eQ 206 _ [5,6] (by rfl) ?_;refine ulk ?_;(repeat first|with_reducible refine kp [4,5] ?_|simp only[kV,simprocAttr,aa,aW,ac,ah,ae,af,hI,fq]|refine aN ?_);simp only[Bool.true_or,if_true];rw[htk]
 ·have e:ptF ts n=(8,0):=if_neg hn;have ea:ptA ts n=[]:=by unfold ptA;rw[e];exact if_neg (by decide)
  rw[e,ea];refine qy.con rfl (by simp) ?_;(repeat first|with_reducible refine kp [0,1,5,14] ?_|simp only[kV,simprocAttr,aa,aW,ax,hn]|refine aN ?_);refine ulk ?_;(repeat first|simp only[kV,simprocAttr,aa,aW,hn]|refine aN ?_);refine⟨_,cx (cM 8 0),ulc ?_⟩;(repeat first|with_reducible refine kp [4,5] ?_|simp only[kV,simprocAttr,aa,aW,ac,ah,ae,af]|refine aN ?_);rfl
noncomputable def derF (a:List At) (n v ord:Int):Int×Int:=if (fM a n ord).1=0 then (if 0≤v∧v<n then (0,0) else (10,0)) else fM a n ord
noncomputable def fixF (a:List At) (n v:Int) (t:List UInt8) (ord:Int):Int×Int:=if (derF a n v ord).1=0 then (cR t,0) else derF a n v ord
theorem zdL {a:List At}{n v ord:Int} (h:(derF a n v ord).1=0):Gd a n ord∧0≤v∧v<n:=by
 unfold derF at h;split at h
 ·rename_i h0;split at h
  ·rename_i h1;exact⟨eD h0,h1⟩
  ·cases h
 ·rename_i h0;exact absurd h h0
noncomputable def dt (a:List At) (v:Nat) (ord:Int):List Tm:=cnT ord (derT v (frm a ord))
noncomputable def du (a:List At) (v:Nat) (x:Rat) (ord:Int):List Tm:=cnT ord (fixT v x (frm a ord))
noncomputable def derA (a:List At) (n v ord:Int):List At:=if (derF a n v ord).1=0 then WR n.toNat (dt a v.toNat ord) else []
noncomputable def fixA (a:List At) (n v:Int) (t:List UInt8) (ord:Int):List At:=if (fixF a n v t ord).1=0 then WR n.toNat (du a v.toNat (qR t) ord) else []
section
variable (a:List At) (n ord:Int) (ha:Gd a n ord) (v:Nat) (hv:v<4)
include ha hv
theorem vz:(frm a ord).length≤400:=Nat.le_trans (oQ a ord) ha.len
theorem zdM:Con Tryz.prog AN 61 [SmD (frm a ord) n ord,J v] (SmD (dt a v ord) n ord)∧Bc 4000000 (dt a v ord)∧(dt a v ord).length≤400:=by
 have hl:=vz a n ord ha v hv;obtain⟨h1,h2⟩:=VO n ord hv (ha.sz ord) (ha.fx ord) (Nat.le_trans hl (by decide)) (c:=9) (Nat.le_trans hl (by decide)) (p:=4000000) (by decide) (by decide) (by decide) (by decide);exact⟨h1,h2.bc (by decide) (by decide),Nat.le_trans (lj _ _) (Nat.le_trans (jg v _) hl)⟩
theorem zdN (x:Rat) (hx:Bq 4000 x):Con Tryz.prog AN 57 [SmD (frm a ord) n ord,J v,qI x] (SmD (du a v x ord) n ord)∧Bc 4000000 (du a v x ord)∧(du a v x ord).length≤400:=by
 have hl:=vz a n ord ha v hv;obtain⟨h1,h2⟩:=rF n ord hv (ha.sz ord) hx (ha.fx ord) (Nat.le_trans hl (by decide)) (c:=9) (Nat.le_trans hl (by decide)) (p:=4000000) (by decide) (by decide) (by decide) (by decide);exact⟨h1,h2.bc (by decide) (by decide),Nat.le_trans (lj _ _) (by rw[gM];exact hl)⟩
end
section
variable (T U:Nat) (a:List At) (n v ord:Int) (hl:a.length≤9223372036854775807) (hs:∀t∈a,t.1.length≤9223372036854775807)
include hl hs
theorem zdO:Con Tryz.prog AN 23 [LTa T U a,J n,J v,J ord] (.tup [LTa 83 3 (derA a n v ord),flt (derF a n v ord).1 (derF a n v ord).2]):=by
 by_cases h:(fM a n ord).1=0
 ·have hg:=eD h;have rc:=ko T U a n ord hg hl hs;by_cases hv:0≤v∧v<n
  ·have hd:derF a n v ord=(0,0):=by unfold derF;rw[if_pos h,if_pos hv]
   have he:derA a n v ord=WR n.toNat (dt a v.toNat ord):=if_pos (by rw[hd]);have h4:=hg.n4;obtain⟨c1,c2,c3⟩:=zdM a n ord hg v.toNat (by omega);have tc:=oW n.toNat (by omega) ord _ c2 (by decide) (by omega);rw[show ((n.toNat:Nat):Int)=n by omega] at tc;rw[show ((v.toNat:Nat):Int)=v by omega] at c1;rw[hd,he];generalize WR n.toNat (dt a v.toNat ord)=r at *;have v1:¬ v<0:=by omega
   have v2:¬ n≤v:=by omega
   refine kg.con rfl (by simp) ?_;(repeat first|with_reducible refine kp [0,1,2,3,9] ?_|simp only[kV,simprocAttr,aa,aW,aa,gi]|refine aN ?_);refine⟨_,cx (rc),ulc ?_⟩;(repeat first|with_reducible refine kp [1,2,9,10,11,21] ?_|simp only[kV,simprocAttr,aa,aW,aa]|refine aN ?_);(try simp only[kV,simprocAttr,aa,aW,aa,v1,v2]);refine ulk ?_;(repeat first|with_reducible refine kp [1,2,9,10,11,29] ?_|simp only[kV,simprocAttr,aa,aW,aa,v1,v2]|refine aN ?_);refine ulk ?_;(repeat first|with_reducible refine kp [2,9,10,11] ?_|simp only[kV,simprocAttr,aa,aW,aa,v1,v2]|refine aN ?_);refine⟨_,cx (c1),ulc ?_⟩;(repeat first|simp only[kV,simprocAttr,aa,aW,aa]|refine aN ?_);refine⟨_,cx (tc),ulc ?_⟩;(repeat first|with_reducible refine kp [8,9] ?_|simp only[kV,simprocAttr,aa,aW,aa,ac,ah,ae,af]|refine aN ?_)
  ·have hd:derF a n v ord=(10,0):=by unfold derF;rw[if_pos h,if_neg hv]
   have he:derA a n v ord=[]:=if_neg (by rw[hd];decide);rw[hd,he];by_cases v1:v<0
   ·refine kg.con rfl (by simp) ?_;(repeat first|with_reducible refine kp [0,1,2,3,9] ?_|simp only[kV,simprocAttr,aa,aW,aa,gi]|refine aN ?_);refine⟨_,cx (rc),ulc ?_⟩;(repeat first|with_reducible refine kp [1,2,9,10,11,21] ?_|simp only[kV,simprocAttr,aa,aW,aa]|refine aN ?_);(try simp only[kV,simprocAttr,aa,aW,aa,v1]);refine ulk ?_;(repeat first|with_reducible refine kp [1,2,9,10,11,29] ?_|simp only[kV,simprocAttr,aa,aW,aa,v1]|refine aN ?_);refine ulk ?_;(repeat first|simp only[kV,simprocAttr,aa,aW,aa,v1]|refine aN ?_);refine⟨_,cx (cM 10 0),ulc ?_⟩;(repeat first|with_reducible refine kp [8,9] ?_|simp only[kV,simprocAttr,aa,aW,aa,ac,ah,ae,af]|refine aN ?_);rfl
   ·have v2:n≤v:=by omega
    refine kg.con rfl (by simp) ?_;(repeat first|with_reducible refine kp [0,1,2,3,9] ?_|simp only[kV,simprocAttr,aa,aW,aa,gi]|refine aN ?_);refine⟨_,cx (rc),ulc ?_⟩;(repeat first|with_reducible refine kp [1,2,9,10,11,21] ?_|simp only[kV,simprocAttr,aa,aW,aa]|refine aN ?_);(try simp only[kV,simprocAttr,aa,aW,aa,v1,v2]);refine ulk ?_;(repeat first|with_reducible refine kp [1,2,9,10,11,29] ?_|simp only[kV,simprocAttr,aa,aW,aa,v1,v2]|refine aN ?_);refine ulk ?_;(repeat first|simp only[kV,simprocAttr,aa,aW,aa,v1,v2]|refine aN ?_);refine⟨_,cx (cM 10 0),ulc ?_⟩;(repeat first|with_reducible refine kp [8,9] ?_|simp only[kV,simprocAttr,aa,aW,aa,ac,ah,ae,af]|refine aN ?_);rfl
 ·have hd:derF a n v ord=fM a n ord:=if_neg h;have he:derA a n v ord=[]:=if_neg (by rw[hd];exact h);have rb:=kq T U a n ord h hl hs;rw[hd,he];generalize fM a n ord=f at *;refine kg.con rfl (by simp) ?_;(repeat first|with_reducible refine kp [0,1,2,3,9] ?_|simp only[kV,simprocAttr,aa,aW,aa,gi]|refine aN ?_);refine⟨_,cx (rb),ulc ?_⟩;(repeat first|with_reducible refine kp [1,2,9,10,11,21] ?_|simp only[kV,simprocAttr,aa,aW,aa,h]|refine aN ?_);refine ulk ?_;(repeat first|with_reducible refine kp [8,9] ?_|simp only[kV,simprocAttr,aa,aW,aa,ac,ah,ae,af,h]|refine aN ?_);rfl
end
theorem yj {d:D} (y:TyW Tryz.prog 22 d.cells) (z:d.isAgg=a7 Tryz.prog 22):∃l:List At,d=LTa (83+1000000) (3+1000000) l∧Ar l:=by
 obtain⟨l,rfl,h1,h2,h3⟩:=pk Tryz.underlying22 y z;have e40:Tryz.prog.bytesOf 83=40:=by kernel_rfl
 have e8:Tryz.prog.bytesOf 3=8:=by kernel_rfl
 have ec:Tryz.prog.cellsOf 83=2:=by kernel_rfl
 have ec1:Tryz.prog.cellsOf 46=1:=by kernel_rfl
 have ec2:Tryz.prog.cellsOf 9=1:=by kernel_rfl
 have er:reachBytes≤140737488355328:=by decide
 rw[e40] at h1;have key:∃m:List At,l=m.map (atD (3+1000000))∧(∀t∈m,t.1.length≤140737488355328)∧∀t∈m,t.2.length≤17592186044416:=by
  clear h1 y z;induction l with
  |nil=>exact⟨[],rfl,by simp,by simp⟩
  |cons d l ih =>
   obtain⟨m,rfl,m1,m2⟩:=ih (fun d hd=>h2 d (by simp[hd])) (fun d hd=>h3 d (by simp[hd]));have g1:=h2 d (by simp);obtain⟨g2,g3,g4⟩:=h3 d (by simp);rw[ec] at g2;have g5:a7 Tryz.prog 83=true:=by kernel_rfl
   rw[g5] at g4;obtain⟨q,rfl⟩:∃q,d = .agg q:=by cases d<;>first | exact⟨_,rfl⟩ | (simp[D.isAgg] at g4)
   have hq:(D.agg q).cells=q:=rfl;rw[hq] at g1 g2 g3
   match q,g2 with
   |[a,b],_ =>
    generalize hqq:([a,b]:List D)=qq at g1;cases g1 with
    |struct t fs l' hu hl hf =>
     subst hqq;rw[Tryz.underlying83] at hu;cases hu;have f0:=hf _ (by simp;exact .inl rfl);have f1:=hf _ (by simp;exact .inr rfl);simp only[ec1,ec2] at f0 f1;have oa:∀x:D,x.one=true→x.cells=[x]∧x.isAgg=false:=fun x hx=>by cases x<;>first | exact⟨rfl,rfl⟩ | (simp[D.one] at hx)
     obtain⟨a1,a2⟩:=oa a (g3 a (by simp));obtain⟨b1,b2⟩:=oa b (g3 b (by simp));have t0:TyW Tryz.prog 9 a.cells:=by rw[a1];exact f0
     have t1:TyW Tryz.prog 46 b.cells:=by rw[b1];exact f1
     obtain⟨s,rfl,hs⟩:=vW Tryz.underlying9 t0 (by rw[a2];kernel_rfl);obtain⟨e,rfl,he⟩:=zi7 Tryz.underlying46 Tryz.underlying3 (by kernel_rfl) t1 (by rw[b2];kernel_rfl);rw[e8] at he;refine⟨(s,e)::m,rfl,fun t ht => ?_,fun t ht => ?_⟩
     ·rcases List.mem_cons.1 ht with rfl | ht
      ·exact Nat.le_trans hs er
      ·exact m1 t ht
     ·rcases List.mem_cons.1 ht with rfl | ht
      ·show e.length≤_
       omega
      ·exact m2 t ht
    |bool t b hu=>rw[Tryz.underlying83] at hu;cases hu
    |int t k n hu=>rw[Tryz.underlying83] at hu;cases hu
    |str t s hu=>rw[Tryz.underlying83] at hu;cases hu
    |slice t e l hu=>rw[Tryz.underlying83] at hu;cases hu
 obtain⟨m,rfl,m1,m2⟩:=key;rw[List.length_map] at h1;exact⟨m,by rw[ec],by omega,m1,m2⟩
theorem zbI {t:List UInt8} (h:cR t=0):aR t=0:=by
 unfold cR at h;unfold aR
 revert h
 unfold bn;(repeat' split)<;>simp
section
variable (T U:Nat) (a:List At) (n v ord:Int) (t:List UInt8) (hl:a.length≤9223372036854775807) (hs:∀t∈a,t.1.length≤9223372036854775807) (ht:t.length≤9223372036854775807)
include hl hs ht
theorem zbJ:Con Tryz.prog AN 22 [LTa T U a,J n,J v,.str t,J ord] (.tup [LTa 83 3 (fixA a n v t ord),flt (fixF a n v t ord).1 (fixF a n v t ord).2]):=by
 have qp:=lJ t ht;by_cases h:(fM a n ord).1=0
 ·have hg:=eD h;have rc:=ko T U a n ord hg hl hs;by_cases hv:0≤v∧v<n
  ·have hd:derF a n v ord=(0,0):=by unfold derF;rw[if_pos h,if_pos hv]
   have hf:fixF a n v t ord=(cR t,0):=by unfold fixF;rw[hd];exact if_pos rfl
   have v1:¬ v<0:=by omega
   have v2:¬ n≤v:=by omega
   by_cases hc:cR t=0
   ·have he:fixA a n v t ord=WR n.toNat (du a v.toNat (qR t) ord):=if_pos (by rw[hf];exact hc);have h4:=hg.n4;obtain⟨c1,c2,c3⟩:=zdN a n ord hg v.toNat (by omega) (qR t) (jB t);have tc:=oW n.toNat (by omega) ord _ c2 (by decide) (by omega);rw[show ((n.toNat:Nat):Int)=n by omega] at tc;rw[show ((v.toNat:Nat):Int)=v by omega] at c1;rw[hf,he,hc];rw[hc,zbI hc] at qp;generalize WR n.toNat (du a v.toNat (qR t) ord)=r at *;refine iZ.con rfl (by simp) ?_;(repeat first|with_reducible refine kp [0,1,2,3,4,11] ?_|simp only[kV,simprocAttr,aa,gR]|refine aN ?_);refine⟨_,cx (rc),ulc ?_⟩;(repeat first|with_reducible refine kp [1,2,3,11,12,13,24] ?_|simp only[kV,simprocAttr,aa]|refine aN ?_);(try simp only[kV,simprocAttr,aa,v1,v2]);refine ulk ?_;(repeat first|with_reducible refine kp [1,2,3,11,12,13,32] ?_|simp only[kV,simprocAttr,aa,v1,v2]|refine aN ?_);refine ulk ?_;(repeat first|with_reducible refine kp [2,3,11,12,13] ?_|simp only[kV,simprocAttr,aa,v1,v2]|refine aN ?_);refine⟨_,cx (qp),ulc ?_⟩;(repeat first|with_reducible refine kp [2,11,12,13,14,41] ?_|simp only[kV,simprocAttr,aa]|refine aN ?_);refine ulk ?_;(repeat first|with_reducible refine kp [2,11,12,13,14] ?_|simp only[kV,simprocAttr,aa]|refine aN ?_);refine⟨_,cx (c1),ulc ?_⟩;(repeat first|simp only[kV,simprocAttr,aa]|refine aN ?_);refine⟨_,cx (tc),ulc ?_⟩;(repeat first|with_reducible refine kp [10,11] ?_|simp only[kV,simprocAttr,aa,ac,ah,ae,af]|refine aN ?_)
   ·have he:fixA a n v t ord=[]:=if_neg (by rw[hf];exact hc);rw[hf,he];refine iZ.con rfl (by simp) ?_;(repeat first|with_reducible refine kp [0,1,2,3,4,11] ?_|simp only[kV,simprocAttr,aa,gR]|refine aN ?_);refine⟨_,cx (rc),ulc ?_⟩;(repeat first|with_reducible refine kp [1,2,3,11,12,13,24] ?_|simp only[kV,simprocAttr,aa]|refine aN ?_);(try simp only[kV,simprocAttr,aa,v1,v2]);refine ulk ?_;(repeat first|with_reducible refine kp [1,2,3,11,12,13,32] ?_|simp only[kV,simprocAttr,aa,v1,v2]|refine aN ?_);refine ulk ?_;(repeat first|with_reducible refine kp [2,3,11,12,13] ?_|simp only[kV,simprocAttr,aa,v1,v2]|refine aN ?_);refine⟨_,cx (qp),ulc ?_⟩;(repeat first|with_reducible refine kp [2,11,12,13,14,41] ?_|simp only[kV,simprocAttr,aa,hc]|refine aN ?_);refine ulk ?_;(repeat first|simp only[kV,simprocAttr,aa,hc]|refine aN ?_);refine⟨_,cx (cM (cR t) 0),ulc ?_⟩;(repeat first|with_reducible refine kp [10,11] ?_|simp only[kV,simprocAttr,aa,ac,ah,ae,af]|refine aN ?_);rfl
  ·have hd:derF a n v ord=(10,0):=by unfold derF;rw[if_pos h,if_neg hv]
   have hf:fixF a n v t ord=(10,0):=by unfold fixF;rw[hd];exact if_neg (by decide)
   have he:fixA a n v t ord=[]:=if_neg (by rw[hf];decide);rw[hf,he];by_cases v1:v<0
   ·refine iZ.con rfl (by simp) ?_;(repeat first|with_reducible refine kp [0,1,2,3,4,11] ?_|simp only[kV,simprocAttr,aa,gR]|refine aN ?_);refine⟨_,cx (rc),ulc ?_⟩;(repeat first|with_reducible refine kp [1,2,3,11,12,13,24] ?_|simp only[kV,simprocAttr,aa]|refine aN ?_);(try simp only[kV,simprocAttr,aa,v1]);refine ulk ?_;(repeat first|with_reducible refine kp [1,2,3,11,12,13,32] ?_|simp only[kV,simprocAttr,aa,v1]|refine aN ?_);refine ulk ?_;(repeat first|simp only[kV,simprocAttr,aa,v1]|refine aN ?_);refine⟨_,cx (cM 10 0),ulc ?_⟩;(repeat first|with_reducible refine kp [10,11] ?_|simp only[kV,simprocAttr,aa,ac,ah,ae,af]|refine aN ?_);rfl
   ·have v2:n≤v:=by omega
    refine iZ.con rfl (by simp) ?_;(repeat first|with_reducible refine kp [0,1,2,3,4,11] ?_|simp only[kV,simprocAttr,aa,gR]|refine aN ?_);refine⟨_,cx (rc),ulc ?_⟩;(repeat first|with_reducible refine kp [1,2,3,11,12,13,24] ?_|simp only[kV,simprocAttr,aa]|refine aN ?_);(try simp only[kV,simprocAttr,aa,v1,v2]);refine ulk ?_;(repeat first|with_reducible refine kp [1,2,3,11,12,13,32] ?_|simp only[kV,simprocAttr,aa,v1,v2]|refine aN ?_);refine ulk ?_;(repeat first|simp only[kV,simprocAttr,aa,v1,v2]|refine aN ?_);refine⟨_,cx (cM 10 0),ulc ?_⟩;(repeat first|with_reducible refine kp [10,11] ?_|simp only[kV,simprocAttr,aa,ac,ah,ae,af]|refine aN ?_);rfl
 ·have hd:derF a n v ord=fM a n ord:=if_neg h;have hf:fixF a n v t ord=fM a n ord:=by unfold fixF;rw[hd];exact if_neg h
  have he:fixA a n v t ord=[]:=if_neg (by rw[hf];exact h);have rb:=kq T U a n ord h hl hs;rw[hf,he];generalize fM a n ord=f at *;refine iZ.con rfl (by simp) ?_;(repeat first|with_reducible refine kp [0,1,2,3,4,11] ?_|simp only[kV,simprocAttr,aa,gR]|refine aN ?_);refine⟨_,cx (rb),ulc ?_⟩;(repeat first|with_reducible refine kp [1,2,3,11,12,13,24] ?_|simp only[kV,simprocAttr,aa,h]|refine aN ?_);refine ulk ?_;(repeat first|with_reducible refine kp [10,11] ?_|simp only[kV,simprocAttr,aa,ac,ah,ae,af,h]|refine aN ?_);rfl
end
noncomputable def evF (a:List At) (n:Int) (ts:List (List UInt8)):Int×Int:=if (fM a n 0).1=0 then ptF ts n else fM a n 0
noncomputable def pt4 (ts:List (List UInt8)):List Rat:=(List.range 4).map fun j=>(ptL ts).getD j 0
theorem om (ts:List (List UInt8)):(pt4 ts).length=4:=by simp[pt4]
theorem ue (ts:List (List UInt8)){j:Nat} (h:j<4):(pt4 ts).getD j 0=(ptL ts).getD j 0:=by simp[pt4,h]
noncomputable def evV (a:List At) (ts:List (List UInt8)):Rat:=Mp.ev (pt4 ts) (tl (rdL a))
noncomputable def evT (a:List At) (n:Int) (ts:List (List UInt8)):List UInt8:=if (evF a n ts).1=0 then frText (evV a ts).num (evV a ts).den else []
theorem zbK {l:List Rat}{i:Nat} (h:i<l.length):(l.map qI).getD i default = .agg [hI (l.getD i 0).num,lI (l.getD i 0).num,hI (((l.getD i 0).den:Int)-1),lI (((l.getD i 0).den:Int)-1)]:=by
 simp only[List.getD_eq_getElem?_getD,List.getElem?_map,List.getElem?_eq_getElem h];rfl
theorem zbL (a:List At){n:Int} (hg:Gd a n 0):Zs (fun j=>n.toNat≤j) (frm a 0):=by
 refine Zs.cn 0 fun t ht j hj hs => ?_
 obtain⟨y,hy,rfl⟩:=List.mem_map.1 ht;have h1:=(iI (hg.ft y hy)).1;have key:∀e:List Int,e.length≤j→exE (rdE e) j=0:=fun e he=>by
  have h2:e.getD j 0=0:=by simp[List.getElem?_eq_none he]
  unfold exE moL rdE
  match j,hj with
  |0,_=>exact h2
  |1,_=>exact h2
  |2,_=>exact h2
  |3,_=>exact h2
 exact key y.2 (by omega)
section
variable (a:List At) (n:Int) (ts:List (List UInt8)) (hg:Gd a n 0) (hn:(ts.length:Int)=n)
include hg hn
theorem zbM:Mp.ev (pt4 ts) (tl (evI (ptL ts) (frm a 0) ts.length))=evV a ts:=by
 have h4:=hg.n4;rw[rH (om ts) (by omega) (fun j hj=>ue ts (by omega))];unfold frm evV;rw[iB,Mp.ev_canon]
theorem uf:(evI (ptL ts) (frm a 0) ts.length=[]∧evV a ts=0)∨∃t,evI (ptL ts) (frm a 0) ts.length=[t]∧evV a ts=t.1:=by
 have h4:=hg.n4;have h1:=hg.n1;obtain⟨k,hk⟩:∃k,ts.length=k+1:=⟨ts.length-1,by omega⟩
 have hz:=rG (xs:=ptL ts) (zbL a hg) (i:=ts.length) (by omega);have he:=zbM a n ts hg hn;rw[hk] at hz he ⊢;rw[evI] at hz he ⊢;have:=VR (o:=0) (L:=fixT k ((ptL ts).getD k 0) (evI (ptL ts) (frm a 0) k)) (fun t ht j hj=>hz t ht j hj (by omega)) (pt4 ts);rw[he] at this;exact this
theorem ug:(∀i,i<ts.length→Con Tryz.prog AN 57 [SmD (evI (ptL ts) (frm a 0) i) n 0,J i,qI ((ptL ts).getD i 0)] (SmD (evI (ptL ts) (frm a 0) (i+1)) n 0))∧Bc 4000000 (evI (ptL ts) (frm a 0) ts.length):=by
 have h4:=hg.n4;have hl:=Nat.le_trans (oQ a 0) hg.len;have key:=fun i hi=>VQ (xs:=ptL ts) (hg.sz 0) (q:=4000) (fun x hx=>by
  obtain⟨y,hy,rfl⟩:=List.mem_map.1 hx;exact jB y) (by decide) (hg.fx 0) (Nat.le_trans hl (by decide)) (c:=9) (Nat.le_trans hl (by decide)) (p:=4000000) (by decide) (by decide) (by decide) (by decide) (i:=i) hi
 refine⟨fun i hi=>(key i (by omega)).2 (by omega) n,?_⟩;refine (key ts.length (by omega)).1.bc ?_ ?_
 ·have e1:ts.length*(4000*40)≤4*(4000*40):=Nat.mul_le_mul_right _ (by omega);omega
 ·have e1:ts.length*((4000+4000)*40+9)≤4*((4000+4000)*40+9):=Nat.mul_le_mul_right _ (by omega);omega
end
theorem zbN (T U V:Nat) (a:List At) (n:Int) (ts:List (List UInt8)) (hl:a.length≤9223372036854775807) (hs:∀t∈a,t.1.length≤9223372036854775807) (hl2:ts.length≤17592186044416) (hs2:∀t∈ts,t.length≤9223372036854775807) :
  Con Tryz.prog AN 21 [LTa T U a,J n,LSt V ts] (.tup [.str (evT a n ts),flt (evF a n ts).1 (evF a n ts).2]):=by
 by_cases h:(fM a n 0).1=0
 ·have hg:=eD h;have rc:=ko T U a n 0 hg hl hs;have pc:=zdK V ts n hl2 hs2 hg.n4;have he:evF a n ts=ptF ts n:=if_pos h;by_cases hp:(ptF ts n).1=0
  ·obtain⟨hn,e0⟩:=vy hp;have ea:ptA ts n=ptL ts:=if_pos hp;have et:evT a n ts=frText (evV a ts).num (evV a ts).den:=if_pos (by rw[he];exact hp);rw[ea,e0] at pc;rw[he,et,e0];have hend:=uf a n ts hg hn;obtain⟨hfix,hbc⟩:=ug a n ts hg hn;have hlen:=fq ts;refine mC.con rfl (by simp) ?_;(repeat first|with_reducible refine kp [0,1,2,7] ?_|simp only[kV,simprocAttr,aa,aa,bh]|refine aN ?_);refine⟨_,cx (rc),ulc ?_⟩;(repeat first|with_reducible refine kp [1,2,7,8,9,23] ?_|simp only[kV,simprocAttr,aa,aa]|refine aN ?_);refine ulk ?_;(repeat first|with_reducible refine kp [1,2,7,8,9] ?_|simp only[kV,simprocAttr,aa,aa]|refine aN ?_);refine⟨_,cx (pc),ulc ?_⟩;(repeat first|with_reducible refine kp [7,8,9,10,33] ?_|simp only[kV,simprocAttr,aa,aa]|refine aN ?_);refine ulk ?_;(repeat first|simp only[kV,simprocAttr,aa,aa]|refine aN ?_);refine kp [7,8,9,10] ?_;(repeat first|simp only[kV,simprocAttr,aa,aa]|refine aN ?_);refine kp [7,8,9,35,36,37] ?_;(repeat first|simp only[kV,simprocAttr,aa,aa]|refine aN ?_);refine aE (ι:=Nat) (fun i=>i≤ts.length) (fun i=>⟨ai [(7,.ptr 7 0 0),(8,.ptr 8 0 0),(9,.ptr 9 0 0),(35,.p (LQ (ptL ts))),(36,.p (J ts.length)),(37,.p (J i))],
    aw [(7,⟨25,2,.box (.p (flt 0 0)),false⟩),(8,⟨96,3,.box (.p (SmD (evI (ptL ts) (frm a 0) i) n 0)),false⟩),(9,⟨25,2,.box (.p (flt 0 0)),false⟩)]⟩) (fun i=>ts.length-i) 0 (Nat.zero_le _) (by rw[←hlen];exact (Sub.toG [7,8,9,35,36,37] [12,13])) ?_
   intro i hi;by_cases h':i<ts.length
   ·have hI:(i:Int)<(ts.length:Int):=by omega
    have hi2:i<(ptL ts).length:=by omega
    have g1:=zbK hi2;have fc:=hfix i h';have hI2:(i:Int)<((ptL ts).length:Int):=by omega
    generalize (ptL ts).getD i 0=x at *;generalize evI (ptL ts) (frm a 0) i=s at *;(repeat first|with_reducible refine kp [7,8,9,35,36,37,38] ?_|simp only[kV,simprocAttr,aa,aa,hI]|refine aN ?_);(try simp only[kV,simprocAttr,aa,aa,hI,hI2,g1,hi2,uH]);refine ulk ?_;(repeat first|with_reducible refine kp [7,8,9,11,12,35,36,37] ?_|simp only[kV,simprocAttr,aa,aa,hI,hI2,g1,hi2,uH]|refine aN ?_);refine⟨_,cx (fc),ulc ?_⟩;(repeat first|with_reducible refine kp [7,8,9,35,36,37] ?_|simp only[kV,simprocAttr,aa,aa]|refine aN ?_);exact⟨i+1,h',(Sub.toG [7,8,9,35,36,37] [12,13]),by omega⟩
   ·have hI:¬ (i:Int)<(ts.length:Int):=by omega
    obtain rfl:i=ts.length:=by omega
    rcases hend with⟨q1,q2⟩ | ⟨y,q1,q2⟩
    ·rw[q1,q2];have cc:=(wE n 0).mono (A':=AN) (by simp);have tc:=oI 0 4000000 (Bq.zero _ (by decide)) (by decide);(repeat first|with_reducible refine kp [7,8,9,35,36,37,38] ?_|simp only[kV,simprocAttr,aa,aa,hI]|refine aN ?_);refine ulk ?_;(repeat first|with_reducible refine kp [7,8,9] ?_|simp only[kV,simprocAttr,aa,aa,hI]|refine aN ?_);refine⟨_,cx (cc),ulc ?_⟩;(repeat first|with_reducible refine kp [7,9,13] ?_|simp only[kV,simprocAttr,aa,aa]|refine aN ?_);refine⟨_,cx (tc),ulc ?_⟩;(repeat first|with_reducible refine kp [6,7] ?_|simp only[kV,simprocAttr,aa,aa,ac,ah,ae,af]|refine aN ?_)
    ·rw[q1,q2];have cc:=(wF n 0 y).mono (A':=AN) (by simp);have tc:=oI y.1 4000000 (hbc y (by rw[q1];simp)) (by decide);(repeat first|with_reducible refine kp [7,8,9,35,36,37,38] ?_|simp only[kV,simprocAttr,aa,aa,hI]|refine aN ?_);refine ulk ?_;(repeat first|with_reducible refine kp [7,8,9] ?_|simp only[kV,simprocAttr,aa,aa,hI]|refine aN ?_);refine⟨_,cx (cc),ulc ?_⟩;(repeat first|with_reducible refine kp [7,9,13] ?_|simp only[kV,simprocAttr,aa,aa]|refine aN ?_);refine⟨_,cx (tc),ulc ?_⟩;(repeat first|with_reducible refine kp [6,7] ?_|simp only[kV,simprocAttr,aa,aa,ac,ah,ae,af]|refine aN ?_)
  ·have ea:ptA ts n=[]:=if_neg hp;have et:evT a n ts=[]:=if_neg (by rw[he];exact hp);rw[ea] at pc;rw[he,et];generalize ptF ts n=f at *;refine mC.con rfl (by simp) ?_;(repeat first|with_reducible refine kp [0,1,2,7] ?_|simp only[kV,simprocAttr,aa,aa,bh]|refine aN ?_);refine⟨_,cx (rc),ulc ?_⟩;(repeat first|with_reducible refine kp [1,2,7,8,9,23] ?_|simp only[kV,simprocAttr,aa,aa]|refine aN ?_);refine ulk ?_;(repeat first|with_reducible refine kp [1,2,7,8,9] ?_|simp only[kV,simprocAttr,aa,aa]|refine aN ?_);refine⟨_,cx (pc),ulc ?_⟩;(repeat first|with_reducible refine kp [7,8,9,10,33] ?_|simp only[kV,simprocAttr,aa,aa,hp]|refine aN ?_);refine ulk ?_;(repeat first|with_reducible refine kp [6,7] ?_|simp only[kV,simprocAttr,aa,aa,ac,ah,ae,af,hp]|refine aN ?_)
 ·have he:evF a n ts=fM a n 0:=if_neg h;have et:evT a n ts=[]:=if_neg (by rw[he];exact h);have rb:=kq T U a n 0 h hl hs;rw[he,et];generalize fM a n 0=f at *;refine mC.con rfl (by simp) ?_;(repeat first|with_reducible refine kp [0,1,2,7] ?_|simp only[kV,simprocAttr,aa,aa,bh]|refine aN ?_);refine⟨_,cx (rb),ulc ?_⟩;(repeat first|with_reducible refine kp [1,2,7,8,9,23] ?_|simp only[kV,simprocAttr,aa,aa,h]|refine aN ?_);refine ulk ?_;(repeat first|with_reducible refine kp [6,7] ?_|simp only[kV,simprocAttr,aa,aa,ac,ah,ae,af,h]|refine aN ?_)
namespace P
open Mp
theorem pK:∀(xs:List Rat) (e:Mo) (ys:List Rat) (f:Mo),xs.length=e.length→pv (xs++ys) (e++f)=pv xs e*pv ys f
 |[],[],ys,f,_=>by simp[pv,Rat.one_mul]
 |x::xs,a::e,ys,f,h=>by
  rw[List.cons_append,List.cons_append,pv,pv,pK xs e ys f (by simpa using h)];grind
 |[],_::_,_,_,h=>by simp at h
 |_::_,[],_,_,h=>by simp at h
theorem pv_pad (xs:List Rat) (ys:List Rat) (k:Nat) (e:Mo) (h:xs.length=e.length):pv (xs++ys) (pad k e)=pv xs e:=by
 unfold pad;rw[pK xs e ys _ h,pv_zero ys _ (fun x hx=>List.eq_of_mem_replicate hx),Rat.mul_one]
end P
section
variable {a:List At}{n ord:Int} (ha:Gd a n ord)
include ha
theorem wy {v:Nat} (hv:v<n.toNat) (x:Rat):WR n.toNat (du a v x ord)=(Mp.canon ord (Mp.growL [] (Mp.fixL v x (Mp.growL [] (rzL a))))).map wz:=by
 have h4:=ha.n4;have hw:=(iQ ha).fix v x;refine pa ha.k4 ord (L:=fixT v x (frm a ord)) (Mp.growL_wd (fun x hx=>by cases hx) hw) fun e => ?_
 have h1:∀e,Mp.cf (Mp.growL [] (Mp.fixL v x (Mp.growL [] (rzL a)))) e=Mp.cf (Mp.fixL v x (rzL a)) e:=fun e=>by
  rw[Mp.growL_cf,Mp.cf_nil,Rat.zero_add];exact Mp.cf_fixL (lX ha) v x e
 rw[tx (by omega),Mp.cf_fixL (ha.cf ord),Mp.fixL_pad _ x ha.wd hv,Mp.cf_pad _ h1]
theorem wA {v:Nat} (hv:v<n.toNat):WR n.toNat (dt a v ord)=(Mp.canon ord (Mp.growL [] (Mp.derL v (Mp.growL [] (rzL a))))).map wz:=by
 have h4:=ha.n4;have hw:=(iQ ha).der v;refine pa ha.k4 ord (L:=derT v (frm a ord)) (Mp.growL_wd (fun x hx=>by cases hx) hw) fun e => ?_
 have h1:∀e,Mp.cf (Mp.growL [] (Mp.derL v (Mp.growL [] (rzL a)))) e=Mp.cf (Mp.derL v (rzL a)) e:=fun e=>by
  rw[Mp.growL_cf,Mp.cf_nil,Rat.zero_add];exact Mp.cf_derL (lX ha) v e
 rw[sG (by omega),Mp.cf_derL (ha.cf ord),Mp.derL_pad _ hv ha.wd,Mp.cf_pad _ h1]
theorem wB {ts:List (List UInt8)} (hn:(ts.length:Int)=n):evV a ts=Mp.ev (ptL ts) (Mp.growL [] (rzL a)):=by
 have h4:=ha.n4;have hl:=fq ts;have e4:pt4 ts=ptL ts++List.replicate (4-ts.length) 0:=by
  refine List.ext_getElem (by rw[om,List.length_append,List.length_replicate];omega) fun j h1 h2 => ?_
  have h3:j<4:=by rw[om] at h1;exact h1
  have:=ue ts h3;rw[List.getD_eq_getElem?_getD,List.getElem?_eq_getElem h1] at this;rw[show (pt4 ts)[j]=(ptL ts).getD j 0 from this];by_cases hj:j<(ptL ts).length
  ·rw[List.getElem_append_left hj];simp[hj]
  ·rw[List.getElem_append_right (by omega),List.getElem_replicate];simp[List.getElem?_eq_none (Nat.le_of_not_lt hj)]
 unfold evV Mp.ev;rw[ha.tl,Mp.Sf_pad,e4,Mp.Sf_eq _ (lX ha)];refine Mp.Sf_congr fun x hx=>P.pv_pad _ _ _ _ ?_
 have:=ha.wd x hx;omega
end
end Go.Proofs.YtbnhgnhgbhjkcaaGreat.M
