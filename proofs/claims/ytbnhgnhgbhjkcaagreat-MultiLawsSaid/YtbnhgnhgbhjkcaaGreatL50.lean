/- Lemmas. -/
import Derived.Test.YtbnhgnhgbhjkcaaGreatL49
import Derived.Test.YtbnhgnhgbhjkcaaGreatL23
import Derived.ProofKit
import Derived.Test.YtbnhgnhgbhjkcaaGreatL48
import Derived.Test.YtbnhgnhgbhjkcaaGreatL40
set_option linter.defProp false
set_option linter.unusedSectionVars false
set_option linter.unusedSimpArgs false
set_option linter.unusedVariables false
namespace Go.Proofs.YtbnhgnhgbhjkcaaGreat.M
open Go.RowKit
theorem mz {d:D} (y:TyW Tryz.prog 22 d.cells) (z:d.isAgg=bn Tryz.prog 22):∃l:List At,d=LTa (83+1000000) (3+1000000) l∧Ar l:=by
 obtain⟨l,rfl,h1,h2,h3⟩:=pJ Tryz.underlying22 y z;have e40:Tryz.prog.bytesOf 83=40:=by kernel_rfl
 have e8:Tryz.prog.bytesOf 3=8:=by kernel_rfl
 have ec:Tryz.prog.cellsOf 83=2:=by kernel_rfl
 have ec1:Tryz.prog.cellsOf 46=1:=by kernel_rfl
 have ec2:Tryz.prog.cellsOf 9=1:=by kernel_rfl
 have er:reachBytes≤140737488355328:=by decide
 rw[e40] at h1;have key:∃m:List At,l=m.map (atD (3+1000000))∧(∀t∈m,t.1.length≤140737488355328)∧∀t∈m,t.2.length≤17592186044416:=by
  clear h1 y z;induction l with
  |nil=>exact⟨[],rfl,by simp,by simp⟩
  |cons d l ih =>
   obtain⟨m,rfl,m1,m2⟩:=ih (fun d hd=>h2 d (by simp[hd])) (fun d hd=>h3 d (by simp[hd]));have g1:=h2 d (by simp);obtain⟨g2,g3,g4⟩:=h3 d (by simp);rw[ec] at g2;have g5:bn Tryz.prog 83=true:=by kernel_rfl
   rw[g5] at g4;obtain⟨q,rfl⟩:∃q,d = .agg q:=by cases d<;>first | exact⟨_,rfl⟩ | (simp[D.isAgg] at g4)
   have hq:(D.agg q).cells=q:=rfl;rw[hq] at g1 g2 g3
   match q,g2 with
   |[a,b],_ =>
    generalize hqq:([a,b]:List D)=qq at g1;cases g1 with
    |struct t fs l' hu hl hf =>
     subst hqq;rw[Tryz.underlying83] at hu;cases hu;have f0:=hf _ (by simp;exact .inl rfl);have f1:=hf _ (by simp;exact .inr rfl);simp only[ec1,ec2] at f0 f1;have oa:∀x:D,x.one=true→x.cells=[x]∧x.isAgg=false:=fun x hx=>by cases x<;>first | exact⟨rfl,rfl⟩ | (simp[D.one] at hx)
     obtain⟨a1,a2⟩:=oa a (g3 a (by simp));obtain⟨b1,b2⟩:=oa b (g3 b (by simp));have t0:TyW Tryz.prog 9 a.cells:=by rw[a1];exact f0
     have t1:TyW Tryz.prog 46 b.cells:=by rw[b1];exact f1
     obtain⟨s,rfl,hs⟩:=v8 Tryz.underlying9 t0 (by rw[a2];kernel_rfl);obtain⟨e,rfl,he⟩:=zgF Tryz.underlying46 Tryz.underlying3 (by kernel_rfl) t1 (by rw[b2];kernel_rfl);rw[e8] at he;refine⟨(s,e)::m,rfl,fun t ht => ?_,fun t ht => ?_⟩
     ·rcases List.mem_cons.1 ht with rfl | ht
      ·exact Nat.le_trans hs er
      ·exact m1 t ht
     ·rcases List.mem_cons.1 ht with rfl | ht
      ·show e.length≤_
       omega
      ·exact m2 t ht
    |bool t b hu=>rw[Tryz.underlying83] at hu;cases hu
    |int t k n hu=>rw[Tryz.underlying83] at hu;cases hu
    |str t s hu=>rw[Tryz.underlying83] at hu;cases hu
    |slice t e l hu=>rw[Tryz.underlying83] at hu;cases hu
 obtain⟨m,rfl,m1,m2⟩:=key;rw[List.length_map] at h1;exact⟨m,by rw[ec],by omega,m1,m2⟩
set_option maxRecDepth 20000
set_option maxHeartbeats 2000000
section
variable (T U:Nat) (a:List At) (n v ord:Int) (t:List UInt8) (hl:a.length≤9223372036854775807) (hs:∀t∈a,t.1.length≤9223372036854775807) (ht:t.length≤9223372036854775807)
include hl hs ht
end
noncomputable def evF (a:List At) (n:Int) (ts:List (List UInt8)):Int×Int:=if (fM a n 0).1=0 then ptF ts n else fM a n 0
noncomputable def pt4 (ts:List (List UInt8)):List Rat:=(List.range 4).map fun j=>(ptL ts).getD j 0
theorem Zk (ts:List (List UInt8)):(pt4 ts).length=4:=by simp[pt4]
theorem Zl (ts:List (List UInt8)){j:Nat} (h:j<4):(pt4 ts).getD j 0=(ptL ts).getD j 0:=by simp[pt4,h]
noncomputable def evV (a:List At) (ts:List (List UInt8)):Rat:=Mp.ev (pt4 ts) (tl (rdL a))
noncomputable def evT (a:List At) (n:Int) (ts:List (List UInt8)):List UInt8:=if (evF a n ts).1=0 then frText (evV a ts).num (evV a ts).den else []
theorem Zn {l:List Rat}{i:Nat} (h:i<l.length):(l.map qI).getD i default = .agg [hI (l.getD i 0).num,lI (l.getD i 0).num,hI (((l.getD i 0).den:Int)-1),lI (((l.getD i 0).den:Int)-1)]:=by
 simp only[List.getD_eq_getElem?_getD,List.getElem?_map,List.getElem?_eq_getElem h];rfl
theorem ui (a:List At){n:Int} (hg:Gd a n 0):Zs (fun j=>n.toNat≤j) (frm a 0):=by
 refine Zs.cn 0 fun t ht j hj hs => ?_
 obtain⟨y,hy,rfl⟩:=List.mem_map.1 ht;have h1:=(iT (hg.ft y hy)).1;have key:∀e:List Int,e.length≤j→exE (rdE e) j=0:=fun e he=>by
  have h2:e.getD j 0=0:=by simp[List.getElem?_eq_none he]
  unfold exE moL rdE
  match j,hj with
  |0,_=>exact h2
  |1,_=>exact h2
  |2,_=>exact h2
  |3,_=>exact h2
 exact key y.2 (by omega)
section
variable (a:List At) (n:Int) (ts:List (List UInt8)) (hg:Gd a n 0) (hn:(ts.length:Int)=n)
include hg hn
theorem Zo:Mp.ev (pt4 ts) (tl (evI (ptL ts) (frm a 0) ts.length))=evV a ts:=by
 have h4:=hg.n4;rw[rT (Zk ts) (by omega) (fun j hj=>Zl ts (by omega))];unfold frm evV;rw[fC,Mp.ev_canon]
theorem uj:(evI (ptL ts) (frm a 0) ts.length=[]∧evV a ts=0)∨∃t,evI (ptL ts) (frm a 0) ts.length=[t]∧evV a ts=t.1:=by
 have h4:=hg.n4;have h1:=hg.n1;obtain⟨k,hk⟩:∃k,ts.length=k+1:=⟨ts.length-1,by omega⟩
 have hz:=rS (xs:=ptL ts) (ui a hg) (i:=ts.length) (by omega);have he:=Zo a n ts hg hn;rw[hk] at hz he ⊢;rw[evI] at hz he ⊢;have:=Tf (o:=0) (L:=fixT k ((ptL ts).getD k 0) (evI (ptL ts) (frm a 0) k)) (fun t ht j hj=>hz t ht j hj (by omega)) (pt4 ts);rw[he] at this;exact this
theorem uk:(∀i,i<ts.length→Con Tryz.prog AN 57 [SmD (evI (ptL ts) (frm a 0) i) n 0,J i,qI ((ptL ts).getD i 0)] (SmD (evI (ptL ts) (frm a 0) (i+1)) n 0))∧Bc 4000000 (evI (ptL ts) (frm a 0) ts.length):=by
 have h4:=hg.n4;have hl:=Nat.le_trans (gY a 0) hg.len;have key:=fun i hi=>Te (xs:=ptL ts) (hg.sz 0) (q:=4000) (fun x hx=>by
  obtain⟨y,hy,rfl⟩:=List.mem_map.1 hx;exact uH y) (by decide) (hg.fx 0) (Nat.le_trans hl (by decide)) (c:=9) (Nat.le_trans hl (by decide)) (p:=4000000) (by decide) (by decide) (by decide) (by decide) (i:=i) hi
 refine⟨fun i hi=>(key i (by omega)).2 (by omega) n,?_⟩;refine (key ts.length (by omega)).1.bc ?_ ?_
 ·have e1:ts.length*(4000*40)≤4*(4000*40):=Nat.mul_le_mul_right _ (by omega);omega
 ·have e1:ts.length*((4000+4000)*40+9)≤4*((4000+4000)*40+9):=Nat.mul_le_mul_right _ (by omega);omega
end
theorem oD (T U V:Nat) (a:List At) (n:Int) (ts:List (List UInt8)) (hl:a.length≤9223372036854775807) (hs:∀t∈a,t.1.length≤9223372036854775807) (hl2:ts.length≤17592186044416) (hs2:∀t∈ts,t.length≤9223372036854775807) :
  Con Tryz.prog AN 21 [LTa T U a,J n,LSt V ts] (.tup [.str (evT a n ts),flt (evF a n ts).1 (evF a n ts).2]):=by
 by_cases h:(fM a n 0).1=0
 ·have hg:=du h;have rc:=iw T U a n 0 hg hl hs;have pc:=zbk V ts n hl2 hs2 hg.n4;have he:evF a n ts=ptF ts n:=if_pos h;by_cases hp:(ptF ts n).1=0
  ·obtain⟨hn,e0⟩:=vF hp;have ea:ptA ts n=ptL ts:=if_pos hp;have et:evT a n ts=frText (evV a ts).num (evV a ts).den:=if_pos (by rw[he];exact hp);rw[ea,e0] at pc;rw[he,et,e0];have hend:=uj a n ts hg hn;obtain⟨hfix,hbc⟩:=uk a n ts hg hn;have hlen:=i4 ts;refine mQ.con rfl (by simp) ?_;(repeat first|with_reducible refine kp [0,1,2,7] ?_|simp only[kV,simprocAttr,aa,aa,bU]|refine aN ?_);refine⟨_,cx (rc),ulc ?_⟩;(repeat first|with_reducible refine kp [1,2,7,8,9,23] ?_|simp only[kV,simprocAttr,aa,aa]|refine aN ?_);refine ulk ?_;(repeat first|with_reducible refine kp [1,2,7,8,9] ?_|simp only[kV,simprocAttr,aa,aa]|refine aN ?_);refine⟨_,cx (pc),ulc ?_⟩;(repeat first|with_reducible refine kp [7,8,9,10,33] ?_|simp only[kV,simprocAttr,aa,aa]|refine aN ?_);refine ulk ?_;(repeat first|simp only[kV,simprocAttr,aa,aa]|refine aN ?_);refine kp [7,8,9,10] ?_;(repeat first|simp only[kV,simprocAttr,aa,aa]|refine aN ?_);refine kp [7,8,9,35,36,37] ?_;(repeat first|simp only[kV,simprocAttr,aa,aa]|refine aN ?_);refine aL (ι:=Nat) (fun i=>i≤ts.length) (fun i=>⟨ar [(7,.ptr 7 0 0),(8,.ptr 8 0 0),(9,.ptr 9 0 0),(35,.p (LQ (ptL ts))),(36,.p (J ts.length)),(37,.p (J i))],
    ay [(7,⟨25,2,.box (.p (flt 0 0)),false⟩),(8,⟨96,3,.box (.p (SmD (evI (ptL ts) (frm a 0) i) n 0)),false⟩),(9,⟨25,2,.box (.p (flt 0 0)),false⟩)]⟩) (fun i=>ts.length-i) 0 (Nat.zero_le _) (by rw[←hlen];exact (Sub.toG [7,8,9,35,36,37] [12,13])) ?_
   intro i hi;by_cases h':i<ts.length
   ·have hI:(i:Int)<(ts.length:Int):=by omega
    have hi2:i<(ptL ts).length:=by omega
    have g1:=Zn hi2;have fc:=hfix i h';have hI2:(i:Int)<((ptL ts).length:Int):=by omega
    generalize (ptL ts).getD i 0=x at *;generalize evI (ptL ts) (frm a 0) i=s at *;(repeat first|with_reducible refine kp [7,8,9,35,36,37,38] ?_|simp only[kV,simprocAttr,aa,aa,hI]|refine aN ?_);(try simp only[kV,simprocAttr,aa,aa,hI,hI2,g1,hi2,uJ]);refine ulk ?_;(repeat first|with_reducible refine kp [7,8,9,11,12,35,36,37] ?_|simp only[kV,simprocAttr,aa,aa,hI,hI2,g1,hi2,uJ]|refine aN ?_);refine⟨_,cx (fc),ulc ?_⟩;(repeat first|with_reducible refine kp [7,8,9,35,36,37] ?_|simp only[kV,simprocAttr,aa,aa]|refine aN ?_);exact⟨i+1,h',(Sub.toG [7,8,9,35,36,37] [12,13]),by omega⟩
   ·have hI:¬ (i:Int)<(ts.length:Int):=by omega
    obtain rfl:i=ts.length:=by omega
    rcases hend with⟨q1,q2⟩ | ⟨y,q1,q2⟩
    ·rw[q1,q2];have cc:=(wV n 0).mono (A':=AN) (by simp);have tc:=oT 0 4000000 (Bq.zero _ (by decide)) (by decide);(repeat first|with_reducible refine kp [7,8,9,35,36,37,38] ?_|simp only[kV,simprocAttr,aa,aa,hI]|refine aN ?_);refine ulk ?_;(repeat first|with_reducible refine kp [7,8,9] ?_|simp only[kV,simprocAttr,aa,aa,hI]|refine aN ?_);refine⟨_,cx (cc),ulc ?_⟩;(repeat first|with_reducible refine kp [7,9,13] ?_|simp only[kV,simprocAttr,aa,aa]|refine aN ?_);refine⟨_,cx (tc),ulc ?_⟩;(repeat first|with_reducible refine kp [6,7] ?_|simp only[kV,simprocAttr,aa,aa,ae,ai,ah,af]|refine aN ?_)
    ·rw[q1,q2];have cc:=(wW n 0 y).mono (A':=AN) (by simp);have tc:=oT y.1 4000000 (hbc y (by rw[q1];simp)) (by decide);(repeat first|with_reducible refine kp [7,8,9,35,36,37,38] ?_|simp only[kV,simprocAttr,aa,aa,hI]|refine aN ?_);refine ulk ?_;(repeat first|with_reducible refine kp [7,8,9] ?_|simp only[kV,simprocAttr,aa,aa,hI]|refine aN ?_);refine⟨_,cx (cc),ulc ?_⟩;(repeat first|with_reducible refine kp [7,9,13] ?_|simp only[kV,simprocAttr,aa,aa]|refine aN ?_);refine⟨_,cx (tc),ulc ?_⟩;(repeat first|with_reducible refine kp [6,7] ?_|simp only[kV,simprocAttr,aa,aa,ae,ai,ah,af]|refine aN ?_)
  ·have ea:ptA ts n=[]:=if_neg hp;have et:evT a n ts=[]:=if_neg (by rw[he];exact hp);rw[ea] at pc;rw[he,et];generalize ptF ts n=f at *;refine mQ.con rfl (by simp) ?_;(repeat first|with_reducible refine kp [0,1,2,7] ?_|simp only[kV,simprocAttr,aa,aa,bU]|refine aN ?_);refine⟨_,cx (rc),ulc ?_⟩;(repeat first|with_reducible refine kp [1,2,7,8,9,23] ?_|simp only[kV,simprocAttr,aa,aa]|refine aN ?_);refine ulk ?_;(repeat first|with_reducible refine kp [1,2,7,8,9] ?_|simp only[kV,simprocAttr,aa,aa]|refine aN ?_);refine⟨_,cx (pc),ulc ?_⟩;(repeat first|with_reducible refine kp [7,8,9,10,33] ?_|simp only[kV,simprocAttr,aa,aa,hp]|refine aN ?_);refine ulk ?_;(repeat first|with_reducible refine kp [6,7] ?_|simp only[kV,simprocAttr,aa,aa,ae,ai,ah,af,hp]|refine aN ?_)
 ·have he:evF a n ts=fM a n 0:=if_neg h;have et:evT a n ts=[]:=if_neg (by rw[he];exact h);have rb:=ky T U a n 0 h hl hs;rw[he,et];generalize fM a n 0=f at *;refine mQ.con rfl (by simp) ?_;(repeat first|with_reducible refine kp [0,1,2,7] ?_|simp only[kV,simprocAttr,aa,aa,bU]|refine aN ?_);refine⟨_,cx (rb),ulc ?_⟩;(repeat first|with_reducible refine kp [1,2,7,8,9,23] ?_|simp only[kV,simprocAttr,aa,aa,h]|refine aN ?_);refine ulk ?_;(repeat first|with_reducible refine kp [6,7] ?_|simp only[kV,simprocAttr,aa,aa,ae,ai,ah,af,h]|refine aN ?_)
def ovT (t:At):Bool:=t.2.any (fun e=>decide (40<e))||decide (900<t.1.length)
def dw (l:List At):Bool:=l.any ovT||decide (400<l.length)
theorem wN {t:At} (h:ovT t=false):(∀e∈t.2,e≤40)∧t.1.length≤900:=by
 unfold ovT at h;simp only[Bool.or_eq_false_iff,List.any_eq_false,decide_eq_true_eq,decide_eq_false_iff_not] at h;exact⟨fun e he=>by have:=h.1 e he;omega,by omega⟩
theorem wO {t:At} (h1:∀k,k<t.2.length→t.2.getD k 0≤40) (h2:t.1.length≤900):ovT t=false:=by
 unfold ovT;simp only[Bool.or_eq_false_iff,List.any_eq_false,decide_eq_true_eq,decide_eq_false_iff_not];refine⟨fun e he => ?_,by omega⟩;obtain⟨k,hk,rfl⟩:=List.mem_iff_getElem.1 he;have:=h1 k hk;rw[List.getD_eq_getElem?_getD,List.getElem?_eq_getElem hk] at this;have:t.2[k]≤40:=this;omega
theorem wP {l:List At}{i:Nat} (h:i<l.length) (ht:ovT (at0 l i)=true):dw l=true:=by
 unfold dw;rw[List.any_eq_true.2 ⟨_,gZ h,ht⟩,Bool.true_or]
theorem wQ {l:List At} (h:dw l=false):(∀t∈l,ovT t=false)∧l.length≤400:=by
 unfold dw at h;simp only[Bool.or_eq_false_iff,List.any_eq_false,decide_eq_false_iff_not] at h;exact⟨fun t ht=>Bool.eq_false_iff.2 (h.1 t ht),by omega⟩
theorem wS (A:List TypeId) (T U:Nat) (l:List At) (hl:l.length≤4611686018427387904) (he:∀t∈l,t.2.length≤4611686018427387904):Con Tryz.prog A 31 [LTa T U l] (.bool (dw l)):=by
 refine Con.mono (A:=[]) ?_ (by simp);refine Nd.con rfl (by simp) ?_;(repeat first|simp only[kV,simprocAttr,aa,bw]|refine aN ?_);refine kp [0] ?_;(repeat first|simp only[kV,simprocAttr,aa,bw]|refine aN ?_);refine kp [0,3] ?_;(repeat first|simp only[kV,simprocAttr,aa,bw]|refine aN ?_);refine aL (ι:=Nat) (fun i=>i≤l.length∧∀k,k<i→ovT (at0 l k)=false) (fun i=>⟨ar [(0,.p (LTa T U l)),(3,.p (J i))],ay []⟩) (fun i=>l.length-i) 0 ⟨Nat.zero_le _,fun k hk=>by omega⟩ (Sub.toG [0,3] []) ?_;rintro i ⟨hi,hb⟩;by_cases h:i<l.length
 ·have hI:(i:Int)<(l.length:Int):=by omega
  have g1:=jQ (U:=U) h;have hle:=he _ (gZ h);have hy:=wP (i:=i) h;have hof:=wO (t:=at0 l i);have hnx:ovT (at0 l i)=false→∀k,k<i+1→ovT (at0 l k)=false:=fun hh k hk=>by
   by_cases hki:k<i
   ·exact hb k hki
   ·obtain rfl:k=i:=by omega
    exact hh
  have hye:(∃k,k<(at0 l i).2.length∧40<(at0 l i).2.getD k 0)→ovT (at0 l i)=true:=fun ⟨k,hk,h4⟩=>by
   unfold ovT;rw[List.any_eq_true.2 ⟨(at0 l i).2[k],List.getElem_mem hk,by rw[List.getD_eq_getElem?_getD,List.getElem?_eq_getElem hk] at h4;exact decide_eq_true h4⟩,Bool.true_or]
  have hyl:900<(at0 l i).1.length→ovT (at0 l i)=true:=fun h9=>by unfold ovT;rw[decide_eq_true h9,Bool.or_true]
  generalize at0 l i=t at *;obtain⟨c,e⟩:=t;simp only at g1 hle hof hye hyl;(repeat first|with_reducible refine kp [0,3,8] ?_|simp only[kV,simprocAttr,aa,hI]|refine aN ?_);refine ulk ?_;(repeat first|simp only[kV,simprocAttr,aa,hI]|refine aN ?_);refine kp [0,3] ?_;(repeat first|simp only[kV,simprocAttr,aa,hI]|refine aN ?_);refine kp [0,3,4] ?_;(repeat first|simp only[kV,simprocAttr,aa,hI]|refine aN ?_);refine aL (ι:=Nat) (fun j=>j≤e.length∧∀k,k<j→e.getD k 0≤40) (fun j=>⟨ar [(0,.p (LTa T U l)),(3,.p (J i)),(4,.p (J j))],ay []⟩) (fun j=>e.length-j) 0 ⟨Nat.zero_le _,fun k hk=>by omega⟩ (Sub.toG [0,3,4] []) ?_;rintro j ⟨hj,he4⟩;by_cases h':j<e.length
  ·have hJ:(j:Int)<(e.length:Int):=by omega
   have g2:=u5 h';by_cases h4:40<e.getD j 0
   ·rw[hy (hye ⟨j,h',h4⟩)];generalize e.getD j 0=x at *;(repeat first|with_reducible refine kp [0,3,4,18] ?_|simp only[kV,simprocAttr,aa,hI,g1,h,hJ]|refine aN ?_);(try simp only[kV,simprocAttr,aa,hI,g1,h,hJ,g2,h',h4]);refine ulk ?_;(repeat first|with_reducible refine kp [0,3,4,29] ?_|simp only[kV,simprocAttr,aa,hI,g1,h,hJ,g2,h',h4]|refine aN ?_);refine ulk ?_;(repeat first|with_reducible refine kp [2] ?_|simp only[kV,simprocAttr,aa,ae,ai,ah,af,h4]|refine aN ?_)
   ·have hnx2:∀k,k<j+1→e.getD k 0≤40:=fun k hk=>by
     by_cases hkj:k<j
     ·exact he4 k hkj
     ·obtain rfl:k=j:=by omega
      omega
    generalize e.getD j 0=x at *;(repeat first|with_reducible refine kp [0,3,4,18] ?_|simp only[kV,simprocAttr,aa,hI,g1,h,hJ]|refine aN ?_);(try simp only[kV,simprocAttr,aa,hI,g1,h,hJ,g2,h',h4]);refine ulk ?_;(repeat first|with_reducible refine kp [0,3,4,29] ?_|simp only[kV,simprocAttr,aa,hI,g1,h,hJ,g2,h',h4]|refine aN ?_);refine ulk ?_;(repeat first|with_reducible refine kp [0,3,4] ?_|simp only[kV,simprocAttr,aa,h4]|refine aN ?_);exact⟨j+1,⟨h',hnx2⟩,(Sub.toG [0,3,4] []),by omega⟩
  ·have hJ:¬ (j:Int)<(e.length:Int):=by omega
   obtain rfl:j=e.length:=by omega
   by_cases h9:900<c.length
   ·have h9I:(900:Int)<(c.length:Int):=by omega
    rw[hy (hyl h9)];(repeat first|with_reducible refine kp [0,3,4,18] ?_|simp only[kV,simprocAttr,aa,hI,g1,h,hJ]|refine aN ?_);(try simp only[kV,simprocAttr,aa,hJ,hI,g1,h,h9I]);refine ulk ?_;(repeat first|with_reducible refine kp [0,3,36] ?_|simp only[kV,simprocAttr,aa,hJ,hI,g1,h,h9I]|refine aN ?_);refine ulk ?_;(repeat first|with_reducible refine kp [2] ?_|simp only[kV,simprocAttr,aa,ae,ai,ah,af,h9I]|refine aN ?_)
   ·have h9I:¬ (900:Int)<(c.length:Int):=by omega
    have hz:=hnx (hof he4 (by omega));(repeat first|with_reducible refine kp [0,3,4,18] ?_|simp only[kV,simprocAttr,aa,hI,g1,h,hJ]|refine aN ?_);(try simp only[kV,simprocAttr,aa,hJ,hI,g1,h,h9I]);refine ulk ?_;(repeat first|with_reducible refine kp [0,3,36] ?_|simp only[kV,simprocAttr,aa,hJ,hI,g1,h,h9I]|refine aN ?_);refine ulk ?_;(repeat first|with_reducible refine kp [0,3] ?_|simp only[kV,simprocAttr,aa,h9I]|refine aN ?_);exact⟨i+1,⟨h,hz⟩,(Sub.toG [0,3] []),by omega⟩
 ·have hI:¬ (i:Int)<(l.length:Int):=by omega
  obtain rfl:i=l.length:=by omega
  have hn:l.any ovT=false:=List.any_eq_false.2 fun t ht=>by
   obtain⟨k,hk,rfl⟩:=List.mem_iff_getElem.1 ht;have:=hb k hk;rw[show at0 l k=l[k] by simp[at0,hk]] at this;rw[this];simp
  have e2:((400:Int)<(l.length:Int))=(400<l.length):=propext (by omega);rw[show dw l=decide (400<l.length) by unfold dw;rw[hn,Bool.false_or]];(repeat first|with_reducible refine kp [0,3,8] ?_|simp only[kV,simprocAttr,aa,hI]|refine aN ?_);(try simp only[kV,simprocAttr,aa,hI,e2]);refine ulk ?_;(repeat first|with_reducible refine kp [0,2] ?_|simp only[kV,simprocAttr,aa,ae,ai,ah,af,hI,e2]|refine aN ?_)
abbrev TT2 (l:List At):D:=LTa 83 3 l
abbrev fB (p:Int×Int):AObj:=⟨25,2,.box (.p (flt p.1 p.2)),false⟩
abbrev xB (x:Rat):AObj:=⟨50,4,.box (.p (qZ x)),false⟩
abbrev xR (xs:List Rat):AObj:=⟨50,4,.row (xs.map qZ),true⟩
abbrev vE (K:CC) (R:List (Nat×AV)) (M:List (Nat×AObj)):Prop:=cw [25,50] (ConX Tryz.prog AN) K (ae (.bool true) [(10,none)]) ⟨ar R,ay M⟩
section
variable (v ord:Int) (c d:List At) (w g:Int×Int) (x:Rat) (P:Mp.TL)
abbrev za1:List (Nat×AV):=[(2,.p (J v)),(3,.p (J ord)),(14,.p (TT2 c)),(16,.p (TT2 d)),(18,.ptr 18 0 0),(24,.ptr 24 0 0),(26,.ptr 26 0 0),(27,.p (MZ P))]
abbrev za2:List (Nat×AObj):=[(18,fB w),(24,xB x),(26,fB g)]
variable (Pd:Mp.TL) (k4:Con Tryz.prog AN 30 [MZ P,J v] (MZ Pd)) (k5:Con Tryz.prog AN 18 [MZ Pd,J ord] (TT2 d)) (k6:Con Tryz.prog AN 15 [TT2 d,TT2 d] (.bool true))
include k4 k5 k6
variable (Pf:Mp.TL) (k1:Con Tryz.prog AN 29 [MZ P,J v,qZ x] (MZ Pf)) (k2:Con Tryz.prog AN 18 [MZ Pf,J ord] (TT2 c)) (k3:Con Tryz.prog AN 15 [TT2 c,TT2 c] (.bool true))
include k1 k2 k3
end
section
variable (v ord:Int) (c d:List At) (w g:Int×Int) (x:Rat) (P:Mp.TL) (s:List UInt8) (xs:List Rat)
abbrev zg4 (k:Bool):List (Nat×AV):=[(2,.p (J v)),(3,.p (J ord)),(11,.p (.str s)),(14,.p (TT2 c)),(16,.p (TT2 d)),(18,.ptr 18 0 0),(19,.slice 219 0 xs.length),(23,.p (.bool k)),(24,.ptr 24 0 0),(26,.ptr 26 0 0),(27,.p (MZ P))]
abbrev zg5:List (Nat×AObj):=[(18,fB w),(219,xR xs),(24,xB x),(26,fB g)]
variable (h:vE ru (za1 v ord c d P) (za2 w g x))
include h
end
theorem xd {e:Ex4}{n:Nat} (hn:n≤4) (hz:∀j,j<4→n≤j→exE e j=0):rdE ((moL e).take n)=e:=by
 obtain⟨a,b,c,d⟩:=e;have h0:n≤0→a=0:=fun h=>hz 0 (by omega) h
 have h1:n≤1→b=0:=fun h=>hz 1 (by omega) h
 have h2:n≤2→c=0:=fun h=>hz 2 (by omega) h
 have h3:n≤3→d=0:=fun h=>hz 3 (by omega) h
 match n,hn with
 |0,_=>rw[h0 (by omega),h1 (by omega),h2 (by omega),h3 (by omega)];rfl
 |1,_=>rw[h1 (by omega),h2 (by omega),h3 (by omega)];rfl
 |2,_=>rw[h2 (by omega),h3 (by omega)];rfl
 |3,_=>rw[h3 (by omega)];rfl
 |4,_=>rfl
theorem mw {L:List Tm}{n ord:Int}{E:Int} (n1:1≤n) (n4:n≤4) (o0:0≤ord) (o2:ord≤2) (hz:Zs (fun j=>n.toNat≤j) L) (hg:∀t∈L,Gx E t.2) (ho:dw (WR n.toNat L)=false):Gd (WR n.toNat L) n ord∧rdL (WR n.toNat L)=L:=by
 obtain⟨h1,h2⟩:=wQ ho;have key:∀t∈L,fT n (wrT n.toNat t)=0∧rdA (wrT n.toNat t)=t:=fun t ht=>by
  have hw:=h1 (wrT n.toNat t) (List.mem_map.2 ⟨t,ht,rfl⟩);obtain⟨g1,g2⟩:=wN hw;obtain⟨q1,q2⟩:=pr (x:=t.1) (k:=900) (by decide) (by decide) g2;have hl:((moL t.2).take n.toNat).length=n.toNat:=by
   have:(moL t.2).length=4:=rfl;rw[List.length_take];omega
  have he:=xd (e:=t.2) (n:=n.toNat) (by omega) (fun j hj hs=>hz t ht j hj hs);refine⟨?_,?_⟩
  ·rw[vc (t:=wrT n.toNat t) (by show (((moL t.2).take n.toNat).length:Int)=n;omega) fun j hj => ?_]
   ·exact q2
   ·have hj2:j<((moL t.2).take n.toNat).length:=hj;have hm:((moL t.2).take n.toNat).getD j 0∈(moL t.2).take n.toNat:=by rw[List.getD_eq_getElem?_getD,List.getElem?_eq_getElem hj2];exact List.getElem_mem hj2
    refine⟨?_,g1 _ hm⟩;have hm2:=List.mem_of_mem_take hm;obtain⟨x0,x1,x2,x3⟩:=hg t ht;show 0≤((moL t.2).take n.toNat).getD j 0
    generalize ((moL t.2).take n.toNat).getD j 0=y at *;simp only[moL,List.mem_cons,List.not_mem_nil,or_false] at hm2;rcases hm2 with e | e | e | e<;>rw[e]
    ·exact x0.1
    ·exact x1.1
    ·exact x2.1
    ·exact x3.1
  ·show (qR (frText t.1.num t.1.den),rdE ((moL t.2).take n.toNat))=t
   rw[q1,he]
 refine⟨⟨n1,n4,o0,o2,h2,fun t ht => ?_⟩,?_⟩
 ·obtain⟨y,hy,rfl⟩:=List.mem_map.1 ht;exact (key y hy).1
 ·unfold rdL WR;rw[List.map_map];conv=>rhs;rw[←List.map_id L]
  exact List.map_congr_left fun t ht=>(key t ht).2
theorem p7 {ord:Int}{L M:List Tm} (h:∀e,Mp.cf (tl L) e=Mp.cf (tl M) e):cnT ord L=cnT ord M:=by
 unfold cnT;rw[Mp.canon_eq (dY L) (dY M) h]
theorem cS (ord:Int) (L:List Tm) (e:Mp.Mo):Mp.cf (tl (cnT ord L)) e=Mp.cf (tl L) e:=by rw[fC,Mp.canon_cf]
theorem xe (A B C:Mp.TL) (e:Mp.Mo):Mp.cf (Mp.mulL A (B++C)) e=Mp.cf (Mp.mulL A B) e+Mp.cf (Mp.mulL A C) e:=by
 unfold Mp.cf;rw[Mp.Sf_mulL,Mp.Sf_mulL,Mp.Sf_mulL,←Mp.Sf_add];exact Mp.Sf_congr fun x _=>Mp.Sf_app _ _ _
section
variable {a b c ab ac s:List At}{ord:Int} (hab:rdL ab=cr a b ord) (hac:rdL ac=cr a c ord) (hs:rdL s=dJ b c ord)
include hab hac hs
theorem xf:cr a s ord=dJ ab ac ord:=by
 refine p7 (L:=mulT (frm a ord) (frm s ord)) (M:=frm ab ord++frm ac ord) fun e => ?_
 have e1:∀e,Mp.cf (tl (frm s ord)) e=Mp.cf (tl (frm b ord)++tl (frm c ord)) e:=fun e=>by
  unfold frm;rw[cS,hs];unfold dJ;rw[cS,o9];rfl
 have e2:∀e,Mp.cf (tl (frm ab ord)) e=Mp.cf (Mp.mulL (tl (frm a ord)) (tl (frm b ord))) e:=fun e=>by
  show Mp.cf (tl (cnT ord (rdL ab))) e=_
  rw[cS,hab];unfold cr;rw[cS,gH]
 have e3:∀e,Mp.cf (tl (frm ac ord)) e=Mp.cf (Mp.mulL (tl (frm a ord)) (tl (frm c ord))) e:=fun e=>by
  show Mp.cf (tl (cnT ord (rdL ac))) e=_
  rw[cS,hac];unfold cr;rw[cS,gH]
 rw[gH,Mp.cf_mulL (fun _=>rfl) e1,o9,Mp.cf_app,e2,e3,xe]
end
theorem kg {L:List Tm}{E:Int} (h:∀t∈L,Gx E t.2):Mp.Pos (tl L):=fun x hx e he=>by
 obtain⟨t,ht,rfl⟩:=List.mem_map.1 hx;obtain⟨x0,x1,x2,x3⟩:=h t ht;simp only[moL,List.mem_cons,List.not_mem_nil,or_false] at he;rcases he with e | e | e | e<;>rw[e]
 ·exact x0.1
 ·exact x1.1
 ·exact x2.1
 ·exact x3.1
theorem xg {a b ab:List At}{n ord:Int} (ha:Gd a n ord) (hb:Gd b n ord) (hab:rdL ab=cr a b ord) (ts:List (List UInt8)):evV ab ts=evV a ts*evV b ts:=by
 unfold evV;rw[hab];unfold cr;rw[fC,Mp.ev_canon,gH,Mp.ev_mul (dY _) (dY _) (kg (ha.fx ord)) (kg (hb.fx ord))];unfold frm;rw[fC,fC,Mp.ev_canon,Mp.ev_canon]
theorem xh {a b ab da db l r:List At}{n ord:Int}{v:Nat} (hv:v<4) (ha:Gd a n ord) (hb:Gd b n ord) (hab:rdL ab=cr a b ord) (hda:rdL da=dM a v ord) (hdb:rdL db=dM b v ord) (hl:rdL l=cr da b ord) (hr:rdL r=cr a db ord):dM ab v ord=dJ l r ord:=by
 refine p7 (L:=derT v (frm ab ord)) (M:=frm l ord++frm r ord) fun e => ?_
 have e2:∀e,Mp.cf (tl (frm ab ord)) e=Mp.cf (Mp.mulL (tl (frm a ord)) (tl (frm b ord))) e:=fun e=>by
  show Mp.cf (tl (cnT ord (rdL ab))) e=_
  rw[cS,hab];unfold cr;rw[cS,gH]
 have d1:∀e,Mp.cf (tl (frm da ord)) e=Mp.cf (Mp.derL v (tl (frm a ord))) e:=fun e=>by
  show Mp.cf (tl (cnT ord (rdL da))) e=_
  rw[cS,hda];unfold dM;rw[cS,kW hv]
 have d2:∀e,Mp.cf (tl (frm db ord)) e=Mp.cf (Mp.derL v (tl (frm b ord))) e:=fun e=>by
  show Mp.cf (tl (cnT ord (rdL db))) e=_
  rw[cS,hdb];unfold dM;rw[cS,kW hv]
 have e3:∀e,Mp.cf (tl (frm l ord)) e=Mp.cf (Mp.mulL (Mp.derL v (tl (frm a ord))) (tl (frm b ord))) e:=fun e=>by
  show Mp.cf (tl (cnT ord (rdL l))) e=_
  rw[cS,hl];unfold cr;rw[cS,gH,Mp.cf_mulL d1 (fun _=>rfl)]
 have e4:∀e,Mp.cf (tl (frm r ord)) e=Mp.cf (Mp.mulL (tl (frm a ord)) (Mp.derL v (tl (frm b ord)))) e:=fun e=>by
  show Mp.cf (tl (cnT ord (rdL r))) e=_
  rw[cS,hr];unfold cr;rw[cS,gH,Mp.cf_mulL (fun _=>rfl) d2]
 rw[kW hv,Mp.cf_derL e2,o9,Mp.cf_app,e3,e4,Mp.leibniz hv (dY _) (dY _) (kg (ha.fx ord)) (kg (hb.fx ord))]
end Go.Proofs.YtbnhgnhgbhjkcaaGreat.M
