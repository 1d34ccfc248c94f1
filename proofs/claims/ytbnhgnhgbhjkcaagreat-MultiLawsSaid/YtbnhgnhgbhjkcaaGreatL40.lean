/- Lemmas. -/
import Derived.Test.YtbnhgnhgbhjkcaaGreatL39
set_option linter.defProp false
set_option linter.unusedSimpArgs false
set_option linter.unusedVariables false
namespace Go.Proofs.YtbnhgnhgbhjkcaaGreat.M
theorem zaS {c:UInt8} (h:48≤c.toNat∧c.toNat≤57):cK c=true:=by
 unfold cK;simpa[UInt8.le_iff_toNat_le] using h
theorem zaT (n:Nat):∀c∈aZ n,cK c=true:=by
 induction n using Nat.strongRecOn with
 |ind n ih =>
  intro c hc;rcases Nat.eq_zero_or_pos n with h | h
  ·subst h;rw[bV] at hc;cases hc
  ·rw[bM h] at hc;rcases List.mem_cons.1 hc with rfl | hc
   ·exact zaS (by rw[dz (by omega)];omega)
   ·exact ih (n / 10) (by omega) c hc
theorem zaU {n k:Nat} (h:n<10^k):(aZ n).length≤k:=by
 induction k generalizing n with
 |zero =>
      obtain rfl:n=0:=by simpa using h
      rw[bV];simp
 |succ k ih =>
  rcases Nat.eq_zero_or_pos n with h0 | h0
  ·subst h0;rw[bV];simp
  ·rw[bM h0];have h1:n / 10<10^k:=by rw[Nat.pow_succ] at h;omega
   have h2:=ih h1;simp;omega
theorem zaV {n:Nat} (h:0<n):∃c t,(aZ n).reverse=c::t∧48<c.toNat∧c.toNat≤57:=by
 induction n using Nat.strongRecOn with
 |ind n ih =>
  rw[bM h];rcases Nat.eq_zero_or_pos (n / 10) with h1 | h1
  ·rw[h1,bV];refine⟨dch (n % 10),[],rfl,?_⟩;rw[dz (by omega)];omega
  ·obtain⟨c,t,h2,h3⟩:=ih (n / 10) (by omega) h1;exact⟨c,t++[dch (n % 10)],by rw[List.reverse_cons,h2];rfl,h3⟩
theorem zaW {l:List UInt8} (v:List UInt8) (h:∀c∈l,cK c=true):bK (l++47::v)=l.length:=by
 unfold bK;induction l with
 |nil=>rfl
 |cons c t ih =>
  rw[List.cons_append,List.takeWhile_cons_of_pos (h c (.head _)),List.length_cons,List.length_cons,ih (fun c hc=>h c (.tail _ hc))]
theorem vh {l:List UInt8} (h:∀c∈l,cK c=true):bK l=l.length:=by
 unfold bK;induction l with
 |nil=>rfl
 |cons c t ih =>
  rw[List.takeWhile_cons_of_pos (h c (.head _)),List.length_cons,List.length_cons,ih (fun c hc=>h c (.tail _ hc))]
theorem pj (n:Nat):∀c∈aK n,cK c=true:=by
 unfold aK;split
 ·intro c hc;simp at hc;subst hc;decide
 ·intro c hc;exact zaT n c (by simpa using hc)
theorem pk {n:Nat}:∃c t,aK n=c::t∧48≤c.toNat∧c.toNat≤57∧(c=48→n=0):=by
 unfold aK;split
 ·rename_i h;exact⟨48,[],rfl,by decide,by decide,fun _=>h⟩
 ·rename_i h;obtain⟨c,t,h1,h2,h3⟩:=zaV (n:=n) (by omega);refine⟨c,t,h1,by omega,h3,fun e => ?_⟩;subst e;simp at h2
theorem jT {n k:Nat} (hk:1≤k) (h:n<10^k):(aK n).length≤k:=by
 unfold aK;split
 ·simpa using hk
 ·rw[List.length_reverse];exact zaU h
theorem pn (z:Int) (v:List UInt8):aG (dec z++v)=decide (z<0):=by
 obtain⟨c,t,hc,h1,h2,_⟩:=pk (n:=z.natAbs);unfold dec;by_cases hz:z<0
 ·rw[if_pos hz];simp[aG,hz]
 ·rw[if_neg hz,hc];simp only[aG,List.cons_append,List.head?_cons,hz,decide_false];rw[beq_eq_false_iff_ne];intro e;injection e with e
  subst e;simp at h1
theorem lS (z:Int):body (dec z)=aK z.natAbs:=by
 have hn:=pn z [];rw[List.append_nil] at hn;by_cases hz:z<0
 ·rw[i9 (by rw[hn];simp[hz])];unfold dec;rw[if_pos hz];rfl
 ·rw[ib (by rw[hn];simp[hz])];unfold dec;rw[if_neg hz]
theorem vi (z:Int) (v:List UInt8):(dec z++v).drop (if true&&aG (dec z++v) then 1 else 0)=aK z.natAbs++v∧(dec z).length=(if true&&aG (dec z++v) then 1 else 0)+(aK z.natAbs).length:=by
 rw[pn];unfold dec;by_cases hz:z<0<;>simp[hz]
 omega
theorem po (z:Int) (v:List UInt8) (hv:v=[]∨∃w,v=47::w):av true (dec z++v)=((dec z).length,true):=by
 obtain⟨hdr,hlen⟩:=vi z v;obtain⟨c,t,hc,h1,h2,h48⟩:=pk (n:=z.natAbs);have hpos:0<(aK z.natAbs).length:=by rw[hc];simp
 have hrun:bK (aK z.natAbs++v)=(aK z.natAbs).length:=by
  rcases hv with rfl | ⟨w,rfl⟩
  ·rw[List.append_nil];exact vh (pj _)
  ·exact zaW w (pj _)
 cases h:((aK z.natAbs++v).head? == some 48)
 ·have hr:=dO (sg:=true) (t:=dec z++v) rfl (by rw[hdr];exact h) rfl;rw[hdr,hrun] at hr;rw[hr,hlen];simp;omega
 ·have h0:z.natAbs=0:=by
   rw[hc] at h;simp only[List.cons_append,List.head?_cons,beq_iff_eq,Option.some.injEq] at h;exact h48 h
  obtain rfl:z=0:=by omega
  rw[qy];have:=eU (sg:=true) (t:=[48]++v) (f:=0) (by simp[aG]) (by simp);rw[this];simp
theorem zaX {n:Nat} (hn:0<n):av false (aK n)=((aK n).length,true):=by
 obtain⟨c,t,hc,h1,h2,h48⟩:=pk (n:=n);have hpos:0<(aK n).length:=by rw[hc];simp
 have h:(((aK n).drop 0).head? == some 48)=false:=by
  rw[List.drop_zero,hc];simp only[List.head?_cons];rw[beq_eq_false_iff_ne];intro e;injection e with e
  have:=h48 e;omega
 have hr:=dO (sg:=false) (t:=aK n) (f:=0) rfl h rfl;rw[List.drop_zero,vh (pj _),Nat.zero_add] at hr;rw[hr];simp[hpos]
theorem pq {z:Int}{k:Nat} (hk:1≤k) (hk2:k≤1000) (h:z.natAbs<10^k):parseZ (dec z)=z:=by
 have hn:=pn z [];have hnum:=po z [] (.inl rfl);rw[List.append_nil] at hn hnum;have hok:ct (dec z)=true:=by unfold ct;rw[hnum];simp
 unfold parseZ;rw[if_pos hok,lS,if_pos (Nat.le_trans (jT hk h) hk2)];unfold ef;rw[hn,lS,mI];unfold sg;by_cases hz:z<0
 ·simp[hz];omega
 ·simp[hz];omega
theorem zaY {x:Rat}{k:Nat} (hk:1≤k) (hk2:k≤1000) (h1:x.num.natAbs<10^k) (h2:x.den<10^k):bF (frText x.num x.den)=(x.num,(x.den:Int),0,0):=by
 by_cases hd:x.den=1
 ·have e:frText x.num x.den=dec x.num:=by unfold frText;rw[if_pos (by rw[hd];rfl)]
  have hn:=po x.num [] (.inl rfl);rw[List.append_nil] at hn;rw[e,mp (by rw[hn]) (by rw[hn];exact Nat.le_refl _),lS,if_pos (Nat.le_trans (jT hk h1) hk2),pq hk hk2 h1,hd];rfl
 ·have e:frText x.num x.den=dec x.num++47::aK x.den:=by
   unfold frText;rw[if_neg (by omega)];congr 2
  have hn:=po x.num (47::aK x.den) (.inr ⟨_,rfl⟩);have hdp:0<x.den:=x.den_pos;have hf:=zaX hdp;have htake:(dec x.num++47::aK x.den).take (dec x.num).length=dec x.num:=List.take_left' rfl;have hdrop:(dec x.num++47::aK x.den).drop ((dec x.num).length+1)=aK x.den:=by
   rw[List.drop_append];simp
  have hbyt:byt (dec x.num++47::aK x.den) (dec x.num).length=47:=by
   unfold byt;simp
  have hpd:parseZ (aK x.den)=x.den:=by
   have:=pq (z:=(x.den:Int)) hk hk2 (by rw[Int.natAbs_natCast];exact h2)
   rwa[show dec (x.den:Int)=aK x.den by unfold dec;rw[if_neg (by omega),Int.natAbs_natCast]] at this
  have hx:Rat.divInt x.num (x.den:Int)=x:=Rat.num_divInt_den x;have e1:frN x.num (x.den:Int)=x.num:=by rw[lM (by omega),hx]
  have e2:frD x.num (x.den:Int)=x.den:=by rw[lN (by omega),hx]
  have hc:=mq (t:=dec x.num++47::aK x.den) (by rw[hn]) (by rw[hn];simp) (by rw[hn];exact hbyt);rw[hn] at hc;simp only[htake,hdrop] at hc;rw[hf,lS,hpd,pq hk hk2 h1,e1,e2,e] at hc;rw[e,hc,if_pos ⟨rfl,Nat.le_refl _⟩,if_pos ⟨Nat.le_trans (jT hk h1) hk2,Nat.le_trans (jT hk h2) hk2⟩,if_pos rfl]
theorem vj {n k:Nat} (h:(aK n).length≤k):n<10^k:=by
 have h1:=(jX (t:=aK n) fun j hj=>by
  have:=Zh n _ (List.getElem_mem hj);unfold cK at this;rw[ja hj];simpa[UInt8.le_iff_toNat_le] using this).2
 rw[mI] at h1;have e:∀m:Nat,(10:Int)^m=((10^m:Nat):Int):=fun m=>by rw[Int.natCast_pow];rfl
 have h2:(10^(aK n).length:Nat)≤10^k:=Nat.pow_le_pow_right (by omega) h;rw[e] at h1;have h3:((n:Nat):Int)<((10^k:Nat):Int):=Int.lt_of_lt_of_le h1 (Int.ofNat_le.2 h2);exact Int.ofNat_lt.1 h3
theorem pr {x:Rat}{k:Nat} (hk:1≤k) (hk2:k≤1000) (h:(frText x.num x.den).length≤k):qR (frText x.num x.den)=x∧cR (frText x.num x.den)=0:=by
 have key:(aK x.num.natAbs).length≤k∧(aK x.den).length≤k:=by
  have e1:(aK x.num.natAbs).length≤(dec x.num).length:=by
   have:=(vi x.num []).2;rw[List.append_nil] at this;omega
  by_cases hb:(x.den:Int)=1
  ·rw[show frText x.num x.den=dec x.num from if_pos hb] at h;refine⟨by omega,?_⟩;have hd:x.den=1:=by exact_mod_cast hb
   rw[hd];have:(aK 1).length≤1:=jT (by omega) (by decide);omega
  ·rw[show frText x.num x.den=dec x.num++47::dec x.den from if_neg hb,List.length_append,List.length_cons] at h;have e2:dec (x.den:Int)=aK x.den:=by unfold dec;rw[if_neg (by omega)];rfl
   rw[e2] at h;omega
 have h3:=zaY hk hk2 (vj key.1) (vj key.2);have hs:=(d9 (frText x.num x.den)).choose_spec;have e1:(bF (frText x.num x.den)).1=x.num:=by rw[h3]
 have e2:(bF (frText x.num x.den)).2.1=(x.den:Int):=by rw[h3]
 refine⟨Rat.ext ?_ ?_,?_⟩
 ·show (d9 _).choose.num=x.num
  rw[←hs.1,e1]
 ·have:((qR (frText x.num x.den)).den:Int)=x.den:=by
   show ((d9 _).choose.den:Int)=x.den
   rw[←hs.2.1,e2]
  omega
 ·unfold cR;rw[h3]
open Go.RowKit
theorem YC (t:Zm):(tZ t).isAgg=true:=rfl
theorem YD (t:Zm):(tZ t).cells.length=5:=rfl
open Go.RowKit Go.Proofs.YtbnhgnhgbhjkcaaGreat.Sy
set_option maxRecDepth 20000
set_option maxHeartbeats 2000000
structure Cmp (rD:D) (l:List Tm) (lt:Tm→Tm→Bool) (cz:Tm→Tm→Int):Prop where
 con:∀x∈l,∀y∈l,Con Tryz.prog AN 110 [tI x,tI y,.ref rD] (J (cz x y))
 lt:∀x∈l,∀y∈l,(cz x y<0↔lt x y=true)
abbrev cfD (rD:D):D:=.fn (.func 110) [] [.ref rD]
theorem Cmp.perm {rD:D}{l m:List Tm}{lt:Tm→Tm→Bool}{cz:Tm→Tm→Int} (h:Cmp rD l lt cz) (p:m.Perm l):Cmp rD m lt cz:=
 ⟨fun x hx y hy=>h.con x (p.mem_iff.1 hx) y (p.mem_iff.1 hy),fun x hx y hy=>h.lt x (p.mem_iff.1 hx) y (p.mem_iff.1 hy)⟩
theorem at_mem {l:List Tm}{i:Nat} (h:i<l.length):Sy.at_ l i∈l:=by
 have:Sy.at_ l i=l[i]:=by simp[Sy.at_,h]
 rw[this];exact List.getElem_mem h
theorem wG {l:List Tm}{k:Nat} (h:k+1<l.length):(Sy.swp l (k+1) k).Perm l:=
 (Rot.pm (Rot.down (l':=l) (Rot.id (l:=l) (a:=k+1) (m:=k+1) (b:=k+1+1) (by omega) (by omega) (by omega)) (Nat.le_refl _) h) (by omega) (by omega) (by omega)).perm
theorem wH (rD:D) (l:List Tm) (lt:Tm→Tm→Bool) (cz:Tm→Tm→Int) (hc:Cmp rD l lt cz) (a b n:Nat) (h1:a+1+n=b∨(b≤a+1∧n=0)) (h2:b≤l.length) (h3:l.length≤1000000000) (ha:a≤1000000000) :
  dD Tryz.prog AN 147 0 [LM l,J a,J b,cfD rD] TT 8 (l.map tI) (.tup []) ((isF lt a n l (a+1)).map tI):=by
 refine qA.conL rfl (by simp) rfl (by simp) ?_;(repeat first|simp only[kV,simprocAttr,csU,rM]|refine aN ?_);refine kp [0,1,2,3,8] ?_;(repeat first|simp only[kV,simprocAttr,csU,rM]|refine aN ?_);refine aL (ι:=Nat×Nat×List Tm) (fun s=>a+1≤s.1∧(s.1+s.2.1=b∨(b≤s.1∧s.2.1=0))∧s.2.2.Perm l∧isF lt a s.2.1 s.2.2 s.1=isF lt a n l (a+1)) (fun s=>⟨ar [(0,.slice 999999 0 l.length),(1,.p (J a)),(2,.p (J b)),(3,.p (cfD rD)),(8,.p (J s.1))],ay [(999999,⟨TT,8,.row (s.2.2.map tI),false⟩)]⟩) (fun s=>s.2.1) (a+1,n,l) ⟨Nat.le_refl _,h1,.refl _,rfl⟩ (Sub.toG [0,1,2,3,8] []) ?_;rintro⟨i,k,q⟩ ⟨hi,hk,hp,hF⟩;simp only at hi hk hp hF;have hql:=hp.length_eq;rcases k with _ | k
 ·have hI:¬ (i:Int)<(b:Int):=by omega
  have hF':q=isF lt a n l (a+1):=hF;subst hF';(repeat first|with_reducible refine kp [0,1,2,3,8,14] ?_|simp only[kV,simprocAttr,csU,hI]|refine aN ?_);refine ulk ?_;(repeat first|simp only[kV,simprocAttr,csU,hI]|refine aN ?_);exact ResLt.unit _
 ·have hib:i<b:=by omega
  have hI:(i:Int)<(b:Int):=by omega
  (repeat first|with_reducible refine kp [0,1,2,3,8,14] ?_|simp only[kV,simprocAttr,csU,hI]|refine aN ?_);refine ulk ?_;(repeat first|simp only[kV,simprocAttr,csU,hI]|refine aN ?_);refine kp [0,1,2,3,8] ?_;(repeat first|simp only[kV,simprocAttr,csU,hI]|refine aN ?_);refine kp [0,1,2,3,8,9] ?_;(repeat first|simp only[kV,simprocAttr,csU,hI]|refine aN ?_);refine aL (ι:=Nat×List Tm) (fun s=>a≤s.1∧s.1≤i∧s.2.Perm l∧dnF lt a s.2 s.1=dnF lt a q i) (fun s=>⟨ar [(0,.slice 999999 0 l.length),(1,.p (J a)),(2,.p (J b)),(3,.p (cfD rD)),(8,.p (J i)),(9,.p (J s.1))],ay [(999999,⟨TT,8,.row (s.2.map tI),false⟩)]⟩) (fun s=>s.1) (i,q) ⟨by simp only;omega,Nat.le_refl _,hp,rfl⟩ (Sub.toG [0,1,2,3,8,9] []) ?_;rintro⟨j,p⟩ ⟨hj,hji,hpp,hD⟩;simp only at hj hji hpp hD;have hpl:=hpp.length_eq;by_cases h:a<j
  ·obtain⟨j,rfl⟩:∃y,j=y+1:=⟨j-1,by omega⟩
   have hJ:(a:Int)<((j+1:Nat):Int):=by omega
   have hJ2:(a:Int)<(j:Int)+1:=by omega
   have e1:((j+1:Nat):Int)-1=(j:Int):=by omega
   have e2:(j:Int)+1-1=(j:Int):=by omega
   have e3:(j:Int)+1=((j+1:Nat):Int):=by omega
   have g1:=ch (l:=p) (i:=j+1) (by omega);have g2:=ch (l:=p) (i:=j) (by omega);have hx:Sy.at_ p (j+1)∈l:=hpp.mem_iff.1 (at_mem (by omega));have hy:Sy.at_ p j∈l:=hpp.mem_iff.1 (at_mem (by omega));have hcon:=hc.con _ hx _ hy;have hlt:=hc.lt _ hx _ hy;cases hb:lt (Sy.at_ p (j+1)) (Sy.at_ p j) with
   |true =>
    have hz:cz (Sy.at_ p (j+1)) (Sy.at_ p j)<0:=hlt.2 hb;rw[sY h hb] at hD;(repeat first|simp only[kV,simprocAttr,csU,hJ,hJ2,e1,e2,g1,g2,hpl]|refine aN ?_);refine⟨by decide,_,cx (hcon),ulc ?_⟩;(repeat first|with_reducible refine kp [0,1,2,3,8,9,34] ?_|simp only[kV,simprocAttr,csU,hJ,hJ2,hz]|refine aN ?_);(try simp only[kV,simprocAttr,csU,hJ,hJ2,e1,e2,g1,g2,hpl]);refine ulk ?_;(repeat first|with_reducible refine kp [0,1,2,3,8,9] ?_|simp only[kV,simprocAttr,csU,hJ,hJ2,e1,e2,g1,g2,hpl]|refine aN ?_);exact⟨(j,Sy.swp p (j+1) j),⟨by simp only;omega,by simp only;omega,(wG (by omega)).trans hpp,hD⟩,(Sub.toG [0,1,2,3,8,9] []),by simp only;omega⟩
   |false =>
    have hz:¬ cz (Sy.at_ p (j+1)) (Sy.at_ p j)<0:=fun hh=>by rw[hlt.1 hh] at hb;cases hb
    rw[sZ (.inr ⟨j,rfl,hb⟩)] at hD;subst hD;(repeat first|simp only[kV,simprocAttr,csU,hJ,hJ2,e1,e2,g1,g2,hpl]|refine aN ?_);refine⟨by decide,_,cx (hcon),ulc ?_⟩;(repeat first|with_reducible refine kp [0,1,2,3,8,9,34] ?_|simp only[kV,simprocAttr,csU,hJ,hJ2,hz]|refine aN ?_);refine ulk ?_;(repeat first|with_reducible refine kp [0,1,2,3,8] ?_|simp only[kV,simprocAttr,csU,hJ,hJ2]|refine aN ?_);exact⟨(i+1,k,dnF lt a q i),⟨by simp only;omega,by simp only;omega,hpp,hF⟩,(Sub.toG [0,1,2,3,8] []),by simp only;omega⟩
  ·have hJ:¬ (a:Int)<(j:Int):=by omega
   obtain rfl:j=a:=by omega
   rw[sZ (.inl rfl)] at hD;subst hD;(repeat first|simp only[kV,simprocAttr,csU,hJ]|refine aN ?_);refine ulc ?_;(repeat first|with_reducible refine kp [0,1,2,3,8,9,34] ?_|simp only[kV,simprocAttr,csU,hJ]|refine aN ?_);refine ulk ?_;(repeat first|with_reducible refine kp [0,1,2,3,8] ?_|simp only[kV,simprocAttr,csU,hJ]|refine aN ?_);exact⟨(i+1,k,dnF lt j q i),⟨by simp only;omega,by simp only;omega,hpp,hF⟩,(Sub.toG [0,1,2,3,8] []),by simp only;omega⟩
theorem Vi (x:Int):inK .u64 x=decide (0≤x∧x≤18446744073709551615):=rfl
theorem Vj:((IntKind.u64.bits:Nat):Int)=64:=rfl
theorem Vk:Int.toNat 1=1:=rfl
def csV:=an @Vi (an @Vj (an @Vk @csU))
theorem kZ (i j:Nat):((i:Int)+(j:Int)) / 2=(((i+j) / 2:Nat):Int):=by omega
theorem nO {rD:D}{l:List Tm}{lt:Tm→Tm→Bool}{cz:Tm→Tm→Int} (hc:Cmp rD l lt cz){x y:Nat} (hx:x<l.length) (hy:y<l.length) :
  Con Tryz.prog AN 110 [tI (Sy.at_ l x),tI (Sy.at_ l y),.ref rD] (J (cz (Sy.at_ l x) (Sy.at_ l y)))∧(lt (Sy.at_ l x) (Sy.at_ l y)=true→cz (Sy.at_ l x) (Sy.at_ l y)<0)∧(lt (Sy.at_ l x) (Sy.at_ l y)=false→¬ cz (Sy.at_ l x) (Sy.at_ l y)<0):=by
 have h1:=at_mem hx;have h2:=at_mem hy;have h3:=hc.lt _ h1 _ h2;exact⟨hc.con _ h1 _ h2,h3.2,fun h hh=>by rw[h3.1 hh] at h;cases h⟩
theorem Vl (rD:D) (l:List Tm) (lt:Tm→Tm→Bool) (cz:Tm→Tm→Int) (hc:Cmp rD l lt cz) (a m b s:Nat) (hm:m=a+1) (hmb:m<b) (h2:b≤l.length) (h3:l.length≤1000000000)
  (hs:Sy.bs (fun h=>lt (Sy.at_ l h) (Sy.at_ l a)) m b=s) (hs1:m≤s) (hs2:s≤b) :
  dD Tryz.prog AN 148 0 [LM l,J a,J m,J b,cfD rD] TT 8 (l.map tI) (.tup []) ((dc l a m s).map tI):=by
 have hI1:(m:Int)-(a:Int)=1:=by omega
 have ga:=ch (l:=l) (i:=a) (by omega);have e0:((a:Int)<(l.length:Int)):=by omega
 refine kr.conL rfl (by simp) rfl (by simp) ?_;(repeat first|with_reducible refine kp [0,1,2,3,4,28] ?_|simp only[kV,simprocAttr,csV,fe,hI1]|refine aN ?_);refine ulk ?_;(repeat first|simp only[kV,simprocAttr,csV,hI1]|refine aN ?_);refine kp [0,1,3,4,10] ?_;(repeat first|simp only[kV,simprocAttr,csV,hI1]|refine aN ?_);refine kp [0,1,4,10,11] ?_;(repeat first|simp only[kV,simprocAttr,csV,hI1]|refine aN ?_);refine aL (ι:=Nat×Nat) (fun s'=>m≤s'.1∧s'.1≤s'.2∧s'.2≤b∧Sy.bs (fun h=>lt (Sy.at_ l h) (Sy.at_ l a)) s'.1 s'.2=s) (fun s'=>⟨ar [(0,.slice 999999 0 l.length),(1,.p (J a)),(4,.p (cfD rD)),(10,.p (J s'.1)),(11,.p (J s'.2))],ay [(999999,⟨TT,8,.row (l.map tI),false⟩)]⟩) (fun s'=>s'.2-s'.1) (m,b) ⟨Nat.le_refl _,by simp only;omega,Nat.le_refl _,hs⟩ (Sub.toG [0,1,4,10,11] []) ?_;rintro⟨i,j⟩ ⟨k1,k2,k3,k4⟩;simp only at k1 k2 k3 k4;by_cases h:i<j
 ·have hI:(i:Int)<(j:Int):=by omega
  have eh:=kZ i j;obtain⟨q,hq⟩:∃q,q=(i+j) / 2:=⟨_,rfl⟩
  rw[←hq] at eh;have gq:=ch (l:=l) (i:=q) (by omega);obtain⟨c1,c2,c3⟩:=nO hc (x:=q) (y:=a) (by omega) (by omega);cases hb:lt (Sy.at_ l q) (Sy.at_ l a) with
  |true =>
   have hz:=c2 hb;rw[k8 h (by rw[←hq];exact hb),←hq] at k4;(repeat first|with_reducible refine kp [0,1,4,10,11,33] ?_|simp only[kV,simprocAttr,csV,hI]|refine aN ?_);(try simp only[kV,simprocAttr,csV,hI,eh,gq,ga]);refine ulk ?_;(repeat first|with_reducible refine kp [0,1,4,10,11,12] ?_|simp only[kV,simprocAttr,csV,hI,eh,gq,ga]|refine aN ?_);refine⟨by decide,_,cx (c1),ulc ?_⟩;(repeat first|with_reducible refine kp [0,1,4,10,11,12,50] ?_|simp only[kV,simprocAttr,csV,hz]|refine aN ?_);refine ulk ?_;(repeat first|simp only[kV,simprocAttr,csV,hz]|refine aN ?_);exact⟨(q+1,j),⟨by simp only;omega,by simp only;omega,k3,k4⟩,(Sub.toG [0,1,4,10,11] []),by simp only;omega⟩
  |false =>
   have hz:=c3 hb;rw[k9 h (by rw[←hq];exact hb),←hq] at k4;(repeat first|with_reducible refine kp [0,1,4,10,11,33] ?_|simp only[kV,simprocAttr,csV,hI]|refine aN ?_);(try simp only[kV,simprocAttr,csV,hI,eh,gq,ga]);refine ulk ?_;(repeat first|with_reducible refine kp [0,1,4,10,11,12] ?_|simp only[kV,simprocAttr,csV,hI,eh,gq,ga]|refine aN ?_);refine⟨by decide,_,cx (c1),ulc ?_⟩;(repeat first|with_reducible refine kp [0,1,4,10,11,12,50] ?_|simp only[kV,simprocAttr,csV,hz]|refine aN ?_);refine ulk ?_;(repeat first|simp only[kV,simprocAttr,csV,hz]|refine aN ?_);exact⟨(i,q),⟨k1,by simp only;omega,by simp only;omega,k4⟩,(Sub.toG [0,1,4,10,11] []),by simp only;omega⟩
 ·have hI:¬ (i:Int)<(j:Int):=by omega
  rw[jw h] at k4;subst k4;(repeat first|with_reducible refine kp [0,1,4,10,11,33] ?_|simp only[kV,simprocAttr,csV,hI]|refine aN ?_);refine ulk ?_;(repeat first|simp only[kV,simprocAttr,csV,hI]|refine aN ?_);refine kp [0,1,10] ?_;(repeat first|simp only[kV,simprocAttr,csV,hI]|refine aN ?_);refine kp [0,10,13] ?_;(repeat first|simp only[kV,simprocAttr,csV,hI]|refine aN ?_);refine aL (ι:=Nat×List Tm) (fun s'=>a≤s'.1∧s'.1+1≤i∧s'.2.length=l.length∧Rot l s'.2 a (a+1) (s'.1+1)) (fun s'=>⟨ar [(0,.slice 999999 0 l.length),(10,.p (J i)),(13,.p (J s'.1))],ay [(999999,⟨TT,8,.row (s'.2.map tI),false⟩)]⟩) (fun s'=>i-s'.1) (a,l) ⟨Nat.le_refl _,by simp only;omega,rfl,Rot.id (by omega) (by omega) (by omega)⟩ (Sub.toG [0,10,13] []) ?_;rintro⟨k,q⟩ ⟨q1,q2,q3,q4⟩;simp only at q1 q2 q3 q4;by_cases g:k+1<i
  ·have gI:(k:Int)<(i:Int)-1:=by omega
   have g1:=ch (l:=q) (i:=k) (by omega);obtain⟨y,hy⟩:∃y,y=k+1:=⟨_,rfl⟩
   have g2:=ch (l:=q) (i:=y) (by omega);have e1:(k:Int)+1=(y:Int):=by omega
   have hup:=q4.up (by omega) (by omega);rw[show k+2=y+1 by omega,←hy] at hup;(repeat first|with_reducible refine kp [0,10,13,58] ?_|simp only[kV,simprocAttr,csV,gI]|refine aN ?_);(try simp only[kV,simprocAttr,csV,gI,e1,g1,g2,q3]);refine ulk ?_;(repeat first|with_reducible refine kp [0,10,13] ?_|simp only[kV,simprocAttr,csV,gI,e1,g1,g2,q3]|refine aN ?_);exact⟨(y,Sy.swp q k y),⟨by simp only;omega,by simp only;omega,by simp only;rw[gR,q3],hup⟩,(Sub.toG [0,10,13] []),by simp only;omega⟩
  ·have gI:¬ (k:Int)<(i:Int)-1:=by omega
   rw[show k+1=i by omega] at q4;have hr:=q4.eq (by omega) (by omega) (by omega);subst hm;subst hr;(repeat first|with_reducible refine kp [0,10,13,58] ?_|simp only[kV,simprocAttr,csV,gI]|refine aN ?_);refine ulk ?_;(repeat first|with_reducible refine kp [] ?_|simp only[kV,simprocAttr,csV,ae,ai,ah,af,gI]|refine aN ?_);exact ResLt.unit _
theorem Vm (rD:D) (l:List Tm) (lt:Tm→Tm→Bool) (cz:Tm→Tm→Int) (hc:Cmp rD l lt cz) (a m b s:Nat) (ham:a+1<m) (hm:b=m+1) (h2:b≤l.length) (h3:l.length≤1000000000)
  (hs:Sy.bs (fun h => !lt (Sy.at_ l m) (Sy.at_ l h)) a m=s) (hs1:a≤s) (hs2:s≤m) :
  dD Tryz.prog AN 148 0 [LM l,J a,J m,J b,cfD rD] TT 8 (l.map tI) (.tup []) ((dc l s m b).map tI):=by
 have hI1:¬ (m:Int)-(a:Int)=1:=by omega
 have hI2:(b:Int)-(m:Int)=1:=by omega
 have ga:=ch (l:=l) (i:=m) (by omega);have e0:((m:Int)<(l.length:Int)):=by omega
 refine kr.conL rfl (by simp) rfl (by simp) ?_;(repeat first|with_reducible refine kp [0,1,2,3,4,28] ?_|simp only[kV,simprocAttr,csV,fe,hI1]|refine aN ?_);(try simp only[kV,simprocAttr,csV,hI1,hI2]);refine ulk ?_;(repeat first|with_reducible refine kp [0,1,2,3,4,80] ?_|simp only[kV,simprocAttr,csV,hI1,hI2]|refine aN ?_);refine ulk ?_;(repeat first|simp only[kV,simprocAttr,csV,hI1,hI2]|refine aN ?_);refine kp [0,2,4,14] ?_;(repeat first|simp only[kV,simprocAttr,csV,hI1,hI2]|refine aN ?_);refine kp [0,2,4,14,15] ?_;(repeat first|simp only[kV,simprocAttr,csV,hI1,hI2]|refine aN ?_);refine aL (ι:=Nat×Nat) (fun s'=>a≤s'.1∧s'.1≤s'.2∧s'.2≤m∧Sy.bs (fun h => !lt (Sy.at_ l m) (Sy.at_ l h)) s'.1 s'.2=s) (fun s'=>⟨ar [(0,.slice 999999 0 l.length),(2,.p (J m)),(4,.p (cfD rD)),(14,.p (J s'.1)),(15,.p (J s'.2))],ay [(999999,⟨TT,8,.row (l.map tI),false⟩)]⟩) (fun s'=>s'.2-s'.1) (a,m) ⟨Nat.le_refl _,by simp only;omega,Nat.le_refl _,hs⟩ (Sub.toG [0,2,4,14,15] []) ?_;rintro⟨i,j⟩ ⟨k1,k2,k3,k4⟩;simp only at k1 k2 k3 k4;by_cases h:i<j
 ·have hI:(i:Int)<(j:Int):=by omega
  have eh:=kZ i j;obtain⟨q,hq⟩:∃q,q=(i+j) / 2:=⟨_,rfl⟩
  rw[←hq] at eh;have gq:=ch (l:=l) (i:=q) (by omega);obtain⟨c1,c2,c3⟩:=nO hc (x:=m) (y:=q) (by omega) (by omega);cases hb:lt (Sy.at_ l m) (Sy.at_ l q) with
  |false =>
   have hz:=c3 hb;rw[k8 h (by simp only[←hq,hb];rfl),←hq] at k4;(repeat first|with_reducible refine kp [0,2,4,14,15,85] ?_|simp only[kV,simprocAttr,csV,hI]|refine aN ?_);(try simp only[kV,simprocAttr,csV,hI,eh,gq,ga]);refine ulk ?_;(repeat first|with_reducible refine kp [0,2,4,14,15,16] ?_|simp only[kV,simprocAttr,csV,hI,eh,gq,ga]|refine aN ?_);refine⟨by decide,_,cx (c1),ulc ?_⟩;(repeat first|with_reducible refine kp [0,2,4,14,15,16,103] ?_|simp only[kV,simprocAttr,csV,hz]|refine aN ?_);refine ulk ?_;(repeat first|simp only[kV,simprocAttr,csV,hz]|refine aN ?_);exact⟨(q+1,j),⟨by simp only;omega,by simp only;omega,k3,k4⟩,(Sub.toG [0,2,4,14,15] []),by simp only;omega⟩
  |true =>
   have hz:=c2 hb;rw[k9 h (by simp only[←hq,hb];rfl),←hq] at k4;(repeat first|with_reducible refine kp [0,2,4,14,15,85] ?_|simp only[kV,simprocAttr,csV,hI]|refine aN ?_);(try simp only[kV,simprocAttr,csV,hI,eh,gq,ga]);refine ulk ?_;(repeat first|with_reducible refine kp [0,2,4,14,15,16] ?_|simp only[kV,simprocAttr,csV,hI,eh,gq,ga]|refine aN ?_);refine⟨by decide,_,cx (c1),ulc ?_⟩;(repeat first|with_reducible refine kp [0,2,4,14,15,16,103] ?_|simp only[kV,simprocAttr,csV,hz]|refine aN ?_);refine ulk ?_;(repeat first|simp only[kV,simprocAttr,csV,hz]|refine aN ?_);exact⟨(i,q),⟨k1,by simp only;omega,by simp only;omega,k4⟩,(Sub.toG [0,2,4,14,15] []),by simp only;omega⟩
 ·have hI:¬ (i:Int)<(j:Int):=by omega
  rw[jw h] at k4;subst k4;(repeat first|with_reducible refine kp [0,2,4,14,15,85] ?_|simp only[kV,simprocAttr,csV,hI]|refine aN ?_);refine ulk ?_;(repeat first|simp only[kV,simprocAttr,csV,hI]|refine aN ?_);refine kp [0,2,14] ?_;(repeat first|simp only[kV,simprocAttr,csV,hI]|refine aN ?_);refine kp [0,14,17] ?_;(repeat first|simp only[kV,simprocAttr,csV,hI]|refine aN ?_);refine aL (ι:=Nat×List Tm) (fun s'=>i≤s'.1∧s'.1≤m∧s'.2.length=l.length∧Rot l s'.2 s'.1 m (m+1)) (fun s'=>⟨ar [(0,.slice 999999 0 l.length),(14,.p (J i)),(17,.p (J s'.1))],ay [(999999,⟨TT,8,.row (s'.2.map tI),false⟩)]⟩) (fun s'=>s'.1-i) (m,l) ⟨by simp only;omega,Nat.le_refl _,rfl,Rot.id (by omega) (by omega) (by omega)⟩ (Sub.toG [0,14,17] []) ?_;rintro⟨k,q⟩ ⟨q1,q2,q3,q4⟩;simp only at q1 q2 q3 q4;by_cases g:i<k
  ·have gI:(i:Int)<(k:Int):=by omega
   have g1:=ch (l:=q) (i:=k) (by omega);obtain⟨y,hy⟩:∃y,k=y+1:=⟨k-1,by omega⟩
   have g2:=ch (l:=q) (i:=y) (by omega);have e1:(k:Int)-1=(y:Int):=by omega
   rw[hy] at q4;have hup:=q4.down (by omega) (by omega);rw[←hy] at hup;(repeat first|with_reducible refine kp [0,14,17,110] ?_|simp only[kV,simprocAttr,csV,gI]|refine aN ?_);(try simp only[kV,simprocAttr,csV,gI,e1,g1,g2,q3]);refine ulk ?_;(repeat first|with_reducible refine kp [0,14,17] ?_|simp only[kV,simprocAttr,csV,gI,e1,g1,g2,q3]|refine aN ?_);exact⟨(y,Sy.swp q k y),⟨by simp only;omega,by simp only;omega,by simp only;rw[gR,q3],hup⟩,(Sub.toG [0,14,17] []),by simp only;omega⟩
  ·have gI:¬ (i:Int)<(k:Int):=by omega
   obtain rfl:k=i:=by omega
   have hr:=q4.eq (by omega) (by omega) (by omega);subst hm;subst hr;(repeat first|with_reducible refine kp [0,14,17,110] ?_|simp only[kV,simprocAttr,csV,gI]|refine aN ?_);refine ulk ?_;(repeat first|with_reducible refine kp [] ?_|simp only[kV,simprocAttr,csV,ae,ai,ah,af,gI]|refine aN ?_);exact ResLt.unit _
abbrev fy (l:List Tm):Mem:=ay [(999999,⟨TT,8,.row (l.map tI),false⟩)]
abbrev dG (rD:D) (l:List Tm) (a m b:Nat) (l':List Tm):Prop:=dk Tryz.prog AN 148 0 [LM l,J a,J m,J b,cfD rD] TT 8 (l.map tI) (.tup []) (l'.map tI)
theorem jE {l:List Tm} (h:0<l.length):¬ l.map tI=[]:=fun e=>by
 have:l=[]:=by simpa using e
 rw[this] at h;cases h
theorem oi (rD:D) (l3 l4:List Tm) (N mid e b:Nat) (hN:l3.length=N) (hN4:l4.length=N) (hN0:0<N) (hN1:N≤1000000000) (hb:b≤N) (h1:mid<e∧e<b→dG rD l3 mid e b l4) (h2:¬ (mid<e∧e<b)→l4=l3) :
  cw [4001224,4001184,5000047,5000049,5000050,5000070,5000083,5000110,5000114,145] (ConX Tryz.prog AN) qB (gU TT 8 (l4.map tI) (.tup []) []) ⟨ar [(0,.slice 999999 0 N),(3,.p (J b)),(4,.p (cfD rD)),(18,.p (J mid)),(24,.p (J e))],fy l3⟩:=by
 have hr3:=jE (l:=l3) (by omega);by_cases g1:mid<e
 ·have i1:(mid:Int)<(e:Int):=by omega
  by_cases g2:e<b
  ·have i2:(e:Int)<(b:Int):=by omega
   have c1:=(h1 ⟨g1,g2⟩).x;skip
   (repeat first|with_reducible refine kp [0,3,4,18,24,213] ?_|simp only[kV,simprocAttr,csV,i1,i2]|refine aN ?_);(try simp only[kV,simprocAttr,csV,i1,i2,hN,hr3]);refine ulk ?_;(repeat first|simp only[kV,simprocAttr,csV,i1,i2,hN,hr3]|refine aN ?_);refine⟨_,_,c1,?_⟩;(repeat first|simp only[kV,simprocAttr,csV,hr3]|refine aN ?_);exact ResLt.unit _
  ·have i2:¬ (e:Int)<(b:Int):=by omega
   have e4:=h2 fun h=>g2 h.2
   subst e4;skip
   (repeat first|with_reducible refine kp [0,3,4,18,24,213] ?_|simp only[kV,simprocAttr,csV,i1,i2]|refine aN ?_);refine ulk ?_;(repeat first|simp only[kV,simprocAttr,csV,i1,i2]|refine aN ?_);exact ResLt.unit _
 ·have i1:¬ (mid:Int)<(e:Int):=by omega
  have e4:=h2 fun h=>g1 h.1
  subst e4;skip
  (repeat first|with_reducible refine kp [0,3,4,18,24,213] ?_|simp only[kV,simprocAttr,csV,i1]|refine aN ?_);refine ulk ?_;(repeat first|simp only[kV,simprocAttr,csV,i1]|refine aN ?_);exact ResLt.unit _
theorem om (rD:D) (l2 l3 l4:List Tm) (N a s mid e b:Nat) (hN2:l2.length=N) (hN:l3.length=N) (hN4:l4.length=N) (hN0:0<N) (hN1:N≤1000000000) (hb:b≤N) (k1:a<s∧s<mid→dG rD l2 a s mid l3) (k2:¬ (a<s∧s<mid)→l3=l2) (h1:mid<e∧e<b→dG rD l3 mid e b l4) (h2:¬ (mid<e∧e<b)→l4=l3) :
  cw [4001224,4001184,5000047,5000049,5000050,5000070,5000083,5000110,5000114,145] (ConX Tryz.prog AN) qC (gU TT 8 (l4.map tI) (.tup []) []) ⟨ar [(0,.slice 999999 0 N),(1,.p (J a)),(3,.p (J b)),(4,.p (cfD rD)),(18,.p (J mid)),(20,.p (J s)),(24,.p (J e))],fy l2⟩:=by
 have hr2:=jE (l:=l2) (by omega);by_cases g1:a<s
 ·have i1:(a:Int)<(s:Int):=by omega
  by_cases g2:s<mid
  ·have i2:(s:Int)<(mid:Int):=by omega
   have c1:=(k1 ⟨g1,g2⟩).x;skip
   (repeat first|with_reducible refine kp [0,1,3,4,18,20,24,199] ?_|simp only[kV,simprocAttr,csV,i1,i2]|refine aN ?_);(try simp only[kV,simprocAttr,csV,i1,i2,hN2,hr2]);refine ulk ?_;(repeat first|simp only[kV,simprocAttr,csV,i1,i2,hN2,hr2]|refine aN ?_);refine⟨_,_,c1,?_⟩;(repeat first|simp only[kV,simprocAttr,csV,hr2]|refine aN ?_);exact⟨_,(Sub.toG [0,3,4,18,24] []),oi rD l3 l4 N mid e b hN hN4 hN0 hN1 hb h1 h2⟩
  ·have i2:¬ (s:Int)<(mid:Int):=by omega
   have e4:=k2 fun h=>g2 h.2
   subst e4;skip
   (repeat first|with_reducible refine kp [0,1,3,4,18,20,24,199] ?_|simp only[kV,simprocAttr,csV,i1,i2]|refine aN ?_);refine ulk ?_;(repeat first|simp only[kV,simprocAttr,csV,i1,i2]|refine aN ?_);exact⟨_,(Sub.toG [0,3,4,18,24] []),oi rD l3 l4 N mid e b hN hN4 hN0 hN1 hb h1 h2⟩
 ·have i1:¬ (a:Int)<(s:Int):=by omega
  have e4:=k2 fun h=>g1 h.1
  subst e4;skip
  (repeat first|with_reducible refine kp [0,1,3,4,18,20,24,199] ?_|simp only[kV,simprocAttr,csV,i1]|refine aN ?_);refine ulk ?_;(repeat first|simp only[kV,simprocAttr,csV,i1]|refine aN ?_);exact⟨_,(Sub.toG [0,3,4,18,24] []),oi rD l3 l4 N mid e b hN hN4 hN0 hN1 hb h1 h2⟩
abbrev tH (rD:D) (l:List Tm) (a m b:Nat) (l':List Tm):Prop:=dk Tryz.prog AN 153 0 [LM l,J a,J m,J b,cfD rD] TT 8 (l.map tI) (.tup []) (l'.map tI)
theorem tJ (rD:D) (l l2 l3 l4:List Tm) (lt:Tm→Tm→Bool) (cz:Tm→Tm→Int) (hc:Cmp rD l lt cz) (N a s mid e b m n s0 r0:Nat) (hN':l.length=N) (hN2:l2.length=N) (hN:l3.length=N) (hN4:l4.length=N) (hN0:0<N) (hN1:N≤1000000000) (hb:b≤N)
  (hn:n=mid+m) (he:e+s=n) (hs:Sy.bs (fun c => !lt (Sy.at_ l (n-1-c)) (Sy.at_ l c)) s0 r0=s) (hs0:s0≤r0) (hr0:r0≤m) (hmb:m≤b) (hr1:r0≤mid) (hns:n≤b+s0) (hmb2:mid≤b)
  (q1:s<m∧m<e→tH rD l s m e l2) (q2:¬ (s<m∧m<e)→l2=l) (k1:a<s∧s<mid→dG rD l2 a s mid l3) (k2:¬ (a<s∧s<mid)→l3=l2) (h1:mid<e∧e<b→dG rD l3 mid e b l4) (h2:¬ (mid<e∧e<b)→l4=l3) :
  cw [4001224,4001184,5000047,5000049,5000050,5000070,5000083,5000110,5000114,145] (ConX Tryz.prog AN) qD (gU TT 8 (l4.map tI) (.tup []) []) ⟨ar [(0,.slice 999999 0 N),(1,.p (J a)),(2,.p (J m)),(3,.p (J b)),(4,.p (cfD rD)),(18,.p (J mid)),(19,.p (J n)),(20,.p (J s0)),(21,.p (J r0))],fy l⟩:=by
 have hr:=jE (l:=l) (by omega);skip
 (repeat first|simp only[kV,simprocAttr,csV]|refine aN ?_);refine kp [0,1,2,3,4,18,19,20,21,22] ?_;(repeat first|simp only[kV,simprocAttr,csV]|refine aN ?_);refine aL (ι:=Nat×Nat) (fun s'=>s0≤s'.1∧s'.1≤s'.2∧s'.2≤r0∧Sy.bs (fun c => !lt (Sy.at_ l (n-1-c)) (Sy.at_ l c)) s'.1 s'.2=s) (fun s'=>⟨ar [(0,.slice 999999 0 N),(1,.p (J a)),(2,.p (J m)),(3,.p (J b)),(4,.p (cfD rD)),(18,.p (J mid)),(19,.p (J n)),(20,.p (J s'.1)),(21,.p (J s'.2)),(22,.p (J ((n:Int)-1)))],fy l⟩) (fun s'=>s'.2-s'.1) (s0,r0) ⟨Nat.le_refl _,hs0,Nat.le_refl _,hs⟩ (Sub.toG [0,1,2,3,4,18,19,20,21,22] []) ?_;rintro⟨i,j⟩ ⟨x1,x2,x3,x4⟩;simp only at x1 x2 x3 x4;by_cases h:i<j
 ·have hI:(i:Int)<(j:Int):=by omega
  have eh:=kZ i j;obtain⟨q,hq⟩:∃q,q=(i+j) / 2:=⟨_,rfl⟩
  rw[←hq] at eh;have gq:=ch (l:=l) (i:=q) (by omega);obtain⟨p,hp⟩:∃p,p=n-1-q:=⟨_,rfl⟩
  have gp:=ch (l:=l) (i:=p) (by omega);have ep:(n:Int)-1-(q:Int)=(p:Int):=by omega
  obtain⟨c1,c2,c3⟩:=nO hc (x:=p) (y:=q) (by omega) (by omega);cases hb':lt (Sy.at_ l p) (Sy.at_ l q) with
  |false =>
   have hz:=c3 hb';rw[k8 h (by simp only[←hq,←hp,hb'];rfl),←hq] at x4;(repeat first|with_reducible refine kp [0,1,2,3,4,18,19,20,21,22,151] ?_|simp only[kV,simprocAttr,csV,hI]|refine aN ?_);(try simp only[kV,simprocAttr,csV,hI,eh,ep,gq,gp]);refine ulk ?_;(repeat first|with_reducible refine kp [0,1,2,3,4,18,19,20,21,22,23] ?_|simp only[kV,simprocAttr,csV,hI,eh,ep,gq,gp]|refine aN ?_);refine⟨by decide,_,cx (c1),ulc ?_⟩;(repeat first|with_reducible refine kp [0,1,2,3,4,18,19,20,21,22,23,171] ?_|simp only[kV,simprocAttr,csV,hz]|refine aN ?_);refine ulk ?_;(repeat first|simp only[kV,simprocAttr,csV,hz]|refine aN ?_);exact⟨(q+1,j),⟨by simp only;omega,by simp only;omega,x3,x4⟩,(Sub.toG [0,1,2,3,4,18,19,20,21,22] []),by simp only;omega⟩
  |true =>
   have hz:=c2 hb';rw[k9 h (by simp only[←hq,←hp,hb'];rfl),←hq] at x4;(repeat first|with_reducible refine kp [0,1,2,3,4,18,19,20,21,22,151] ?_|simp only[kV,simprocAttr,csV,hI]|refine aN ?_);(try simp only[kV,simprocAttr,csV,hI,eh,ep,gq,gp]);refine ulk ?_;(repeat first|with_reducible refine kp [0,1,2,3,4,18,19,20,21,22,23] ?_|simp only[kV,simprocAttr,csV,hI,eh,ep,gq,gp]|refine aN ?_);refine⟨by decide,_,cx (c1),ulc ?_⟩;(repeat first|with_reducible refine kp [0,1,2,3,4,18,19,20,21,22,23,171] ?_|simp only[kV,simprocAttr,csV,hz]|refine aN ?_);refine ulk ?_;(repeat first|simp only[kV,simprocAttr,csV,hz]|refine aN ?_);exact⟨(i,q),⟨x1,by simp only;omega,by simp only;omega,x4⟩,(Sub.toG [0,1,2,3,4,18,19,20,21,22] []),by simp only;omega⟩
 ·have hI:¬ (i:Int)<(j:Int):=by omega
  rw[jw h] at x4;subst x4;have ee:(n:Int)-(i:Int)=(e:Int):=by omega
  by_cases g1:i<m
  ·have i1:(i:Int)<(m:Int):=by omega
   by_cases g2:m<e
   ·have i2:(m:Int)<(e:Int):=by omega
    have c1:=(q1 ⟨g1,g2⟩).x;(repeat first|with_reducible refine kp [0,1,2,3,4,18,19,20,21,22,151] ?_|simp only[kV,simprocAttr,csV,hI]|refine aN ?_);(try simp only[kV,simprocAttr,csV,hI,ee,i1,i2]);refine ulk ?_;(repeat first|with_reducible refine kp [0,1,2,3,4,18,19,20,24,185] ?_|simp only[kV,simprocAttr,csV,hI,ee,i1,i2]|refine aN ?_);(try simp only[kV,simprocAttr,csV,i1,i2,hN',hr]);refine ulk ?_;(repeat first|simp only[kV,simprocAttr,csV,i1,i2,hN',hr]|refine aN ?_);refine⟨_,_,c1,?_⟩;(repeat first|simp only[kV,simprocAttr,csV,hr]|refine aN ?_);exact⟨_,(Sub.toG [0,1,3,4,18,20,24] []),om rD l2 l3 l4 N a i mid e b hN2 hN hN4 hN0 hN1 hb k1 k2 h1 h2⟩
   ·have i2:¬ (m:Int)<(e:Int):=by omega
    have e4:=q2 fun h=>g2 h.2
    subst e4;(repeat first|with_reducible refine kp [0,1,2,3,4,18,19,20,21,22,151] ?_|simp only[kV,simprocAttr,csV,hI]|refine aN ?_);(try simp only[kV,simprocAttr,csV,hI,ee,i1,i2]);refine ulk ?_;(repeat first|with_reducible refine kp [0,1,2,3,4,18,19,20,24,185] ?_|simp only[kV,simprocAttr,csV,hI,ee,i1,i2]|refine aN ?_);refine ulk ?_;(repeat first|simp only[kV,simprocAttr,csV,i1,i2]|refine aN ?_);exact⟨_,(Sub.toG [0,1,3,4,18,20,24] []),om rD l2 l3 l4 N a i mid e b hN2 hN hN4 hN0 hN1 hb k1 k2 h1 h2⟩
  ·have i1:¬ (i:Int)<(m:Int):=by omega
   have e4:=q2 fun h=>g1 h.1
   subst e4;(repeat first|with_reducible refine kp [0,1,2,3,4,18,19,20,21,22,151] ?_|simp only[kV,simprocAttr,csV,hI]|refine aN ?_);(try simp only[kV,simprocAttr,csV,hI,ee,i1]);refine ulk ?_;(repeat first|with_reducible refine kp [0,1,2,3,4,18,19,20,24,185] ?_|simp only[kV,simprocAttr,csV,hI,ee,i1]|refine aN ?_);refine ulk ?_;(repeat first|simp only[kV,simprocAttr,csV,i1]|refine aN ?_);exact⟨_,(Sub.toG [0,1,3,4,18,20,24] []),om rD l2 l3 l4 N a i mid e b hN2 hN hN4 hN0 hN1 hb k1 k2 h1 h2⟩
end Go.Proofs.YtbnhgnhgbhjkcaaGreat.M
