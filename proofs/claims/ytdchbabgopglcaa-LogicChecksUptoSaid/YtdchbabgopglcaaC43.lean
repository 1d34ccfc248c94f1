/- Lemmas. -/
import Derived.Test.YtdchbabgopglcaaC42
import Derived.Test.YtdchbabgopglcaaC29
set_option linter.defProp false
set_option linter.unusedSimpArgs false
set_option linter.unusedVariables false
namespace Go.Proofs.Ytdchbabgopglcaa.M
open Go.RowKit
set_option maxRecDepth 20000
set_option maxHeartbeats 1000000
abbrev LJs (T:Nat) (l:List Int):D:=.list T 1 (l.map (D.int .i64))
theorem jN {A:List TypeId} (T:Nat) (l:List Int) (n:Int) (hl:l.length≤9223372036854775807):Con Try.prog A 21 [LJs T l,J n] (.bool (decide (n∈l))):=by
 refine Con.mono (A:=[]) ?_ (by simp);refine pw.con rfl (by simp) ?_;(repeat first|simp only[kV,simprocAttr,aa,aw]|refine aN ?_);refine kp [0,1] ?_;(repeat first|simp only[kV,simprocAttr,aa,aw]|refine aN ?_);refine kp [0,1,5] ?_;(repeat first|simp only[kV,simprocAttr,aa,aw]|refine aN ?_);refine aY (ι:=Nat) (fun i=>i≤l.length∧∀k,k<i→¬ l.getD k 0=n) (fun i=>⟨av [(0,.p (LJs T l)),(1,.p (J n)),(5,.p (J i))],az []⟩) (fun i=>l.length-i) 0 ⟨Nat.zero_le _,fun k hk=>by omega⟩ (Sub.toG [0,1,5] []) ?_;rintro i ⟨hi,he⟩;by_cases h:i<l.length
 ·have hI:(i:Int)<(l.length:Int):=by omega
  have g1:=eR h;(repeat first|with_reducible refine kp [0,1,5,9] ?_|simp only[kV,simprocAttr,aa,hI]|refine aN ?_);(try simp only[kV,simprocAttr,aa,hI,g1,h]);refine ulk ?_;(repeat first|with_reducible refine kp [0,1,5,17] ?_|simp only[kV,simprocAttr,aa,hI,g1,h]|refine aN ?_);by_cases hc:l.getD i 0=n
  ·rw[decide_eq_true (show n∈l from by
    rw[←hc,List.getD_eq_getElem?_getD,List.getElem?_eq_getElem h];exact List.getElem_mem h)]
   (try simp only[kV,simprocAttr,aa,hc]);refine ulk ?_;(repeat first|with_reducible refine kp [4] ?_|simp only[kV,simprocAttr,aa,ac,af,ae,ah,hc]|refine aN ?_)
  ·(try simp only[kV,simprocAttr,aa,hc]);refine ulk ?_;(repeat first|with_reducible refine kp [0,1,5] ?_|simp only[kV,simprocAttr,aa,hc]|refine aN ?_);exact⟨i+1,⟨h,fun k hk=>by
    by_cases hki:k<i
    ·exact he k hki
    ·obtain rfl:k=i:=by omega
     exact hc⟩,(Sub.toG [0,1,5] []),by omega⟩
 ·have hI:¬ (i:Int)<(l.length:Int):=by omega
  rw[decide_eq_false (show ¬ n∈l from fun hm=>by
   obtain⟨k,hk,hk2⟩:=List.mem_iff_getElem.1 hm;have:=he k (by omega);rw[List.getD_eq_getElem?_getD,List.getElem?_eq_getElem hk] at this;exact this hk2)]
  (repeat first|with_reducible refine kp [0,1,5,9] ?_|simp only[kV,simprocAttr,aa,hI]|refine aN ?_);refine ulk ?_;(repeat first|with_reducible refine kp [4] ?_|simp only[kV,simprocAttr,aa,ac,af,ae,ah,hI]|refine aN ?_)
theorem eA.mono {P:Program}{A:List TypeId}{f k:Nat}{ds:List D}{T sz:Nat}{l l':List D}{r:D} (h:eA P [] f k ds T sz l r l'):eA P A f k ds T sz l r l':=
 fun own w vs b o cap c fr h1 _=>h own w vs b o cap c fr h1 (fun _ _ _ _ _ _=>List.not_mem_nil)
theorem iC {A:List TypeId} (l:List Int) (n:Int) (hl:l.length≤9223372036854775807):lU Try.prog A 21 0 [LJs 3 l,J n] 3 1 (l.map (D.int .i64)) (.bool (decide (n∈l))) (l.map (D.int .i64)):=by
 refine⟨by decide,by decide,rfl,rfl,fun h0=>jN _ l n hl,fun h0=>eA.mono ?_⟩;refine pw.conL rfl (by simp) rfl (by simp) ?_;(repeat first|simp only[kV,simprocAttr,aa,lT]|refine aN ?_);refine kp [0,1] ?_;(repeat first|simp only[kV,simprocAttr,aa,lT]|refine aN ?_);refine kp [0,1,5] ?_;(repeat first|simp only[kV,simprocAttr,aa,lT]|refine aN ?_);refine aY (ι:=Nat) (fun i=>i≤l.length∧∀k,k<i→¬ l.getD k 0=n) (fun i=>⟨av [(0,.slice 999999 0 l.length),(1,.p (J n)),(5,.p (J i))],az [(999999,⟨3,1,.row (l.map (D.int .i64)),false⟩)]⟩) (fun i=>l.length-i) 0 ⟨Nat.zero_le _,fun k hk=>by omega⟩ (Sub.toG [0,1,5] []) ?_;rintro i ⟨hi,he⟩;by_cases h:i<l.length
 ·have hI:(i:Int)<(l.length:Int):=by omega
  have g1:=eR h;(repeat first|with_reducible refine kp [0,1,5,9] ?_|simp only[kV,simprocAttr,aa,hI]|refine aN ?_);(try simp only[kV,simprocAttr,aa,hI,g1,h]);refine ulk ?_;(repeat first|with_reducible refine kp [0,1,5,17] ?_|simp only[kV,simprocAttr,aa,hI,g1,h]|refine aN ?_);by_cases hc:l.getD i 0=n
  ·rw[decide_eq_true (show n∈l from by
    rw[←hc,List.getD_eq_getElem?_getD,List.getElem?_eq_getElem h];exact List.getElem_mem h)]
   (try simp only[kV,simprocAttr,aa,hc]);refine ulk ?_;(repeat first|with_reducible refine kp [4] ?_|simp only[kV,simprocAttr,aa,ac,af,ae,ah,hc]|refine aN ?_);exact ResLt.one rfl (fun m hm=>by cases hm)
  ·(try simp only[kV,simprocAttr,aa,hc]);refine ulk ?_;(repeat first|with_reducible refine kp [0,1,5] ?_|simp only[kV,simprocAttr,aa,hc]|refine aN ?_);exact⟨i+1,⟨h,fun k hk=>by
    by_cases hki:k<i
    ·exact he k hki
    ·obtain rfl:k=i:=by omega
     exact hc⟩,(Sub.toG [0,1,5] []),by omega⟩
 ·have hI:¬ (i:Int)<(l.length:Int):=by omega
  rw[decide_eq_false (show ¬ n∈l from fun hm=>by
   obtain⟨k,hk,hk2⟩:=List.mem_iff_getElem.1 hm;have:=he k (by omega);rw[List.getD_eq_getElem?_getD,List.getElem?_eq_getElem hk] at this;exact this hk2)]
  (repeat first|with_reducible refine kp [0,1,5,9] ?_|simp only[kV,simprocAttr,aa,hI]|refine aN ?_);refine ulk ?_;(repeat first|with_reducible refine kp [4] ?_|simp only[kV,simprocAttr,aa,ac,af,ae,ah,hI]|refine aN ?_);exact ResLt.one rfl (fun m hm=>by cases hm)
def dG (o:List Int) (v:Int):List Int:=if v∈o then o else o++[v]
def rowv (e:List Int) (o:List Int):Nat→List Int
 |0=>o
 |j+1=>if 0<e.getD j 0 then dG (rowv e o j) j else rowv e o j
def snP (p:List At):Nat→List Int
 |0=>[]
 |i+1=>rowv (at0 p i).2 (snP p i) (at0 p i).2.length
def snF (f:Fm):List Int:=if f.kd=4 then dG (snP f.p f.p.length) f.v else snP f.p f.p.length
theorem lJ (o:List Int) (v:Int):(dG o v).length≤o.length+1:=by
 unfold dG;split<;>simp
theorem lK (o:List Int) (v x:Int):x∈dG o v↔x∈o∨x=v:=by
 unfold dG;split
 ·rename_i h;exact⟨.inl,fun k=>k.elim id fun e=>e ▸ h⟩
 ·simp
theorem lL (e o:List Int):∀j,(rowv e o j).length≤o.length+j
 |0=>Nat.le_refl _
 |j+1=>by
  have h1:=lL e o j;have h2:=lJ (rowv e o j) j;rw[rowv];split<;>omega
theorem pK (e o:List Int) (x:Int):∀j,x∈rowv e o j↔x∈o∨∃k:Nat,k<j∧0<e.getD k 0∧x=k
 |0=>by simp[rowv]
 |j+1=>by
  have h1:=pK e o x j;rw[rowv];split
  ·rename_i h;rw[lK,h1];constructor
   ·rintro ((h2 | ⟨k,a,b,c⟩) | h2)
    ·exact .inl h2
    ·exact .inr ⟨k,by omega,b,c⟩
    ·exact .inr ⟨j,by omega,h,h2⟩
   ·rintro (h2 | ⟨k,a,b,c⟩)
    ·exact .inl (.inl h2)
    ·by_cases hk:k=j
     ·subst hk;exact .inr c
     ·exact .inl (.inr ⟨k,by omega,b,c⟩)
  ·rename_i h;rw[h1];constructor
   ·rintro (h2 | ⟨k,a,b,c⟩)
    ·exact .inl h2
    ·exact .inr ⟨k,by omega,b,c⟩
   ·rintro (h2 | ⟨k,a,b,c⟩)
    ·exact .inl h2
    ·have h3:k≠j:=fun e2=>by subst e2;exact h b
     exact .inr ⟨k,by omega,b,c⟩
theorem jO {p:List At}{n:Nat} (h:∀t∈p,t.2.length≤n):∀i,i≤p.length→(snP p i).length≤i*n
 |0,_=>by simp[snP]
 |i+1,hi=>by
  have h1:=jO h i (by omega);have h2:=lL (at0 p i).2 (snP p i) (at0 p i).2.length;have h3:=h _ (eQ (i:=i) (by omega));rw[snP,Nat.succ_mul];omega
theorem pL (p:List At) (x:Int):∀i,x∈snP p i↔∃j,j<i∧∃k:Nat,k<(at0 p j).2.length∧0<(at0 p j).2.getD k 0∧x=k
 |0=>by simp[snP]
 |i+1=>by
  rw[snP,pK,pL p x i];constructor
  ·rintro (⟨j,a,b⟩ | b)
   ·exact⟨j,by omega,b⟩
   ·exact⟨i,by omega,b⟩
  ·rintro⟨j,a,b⟩;by_cases hk:j=i
   ·subst hk;exact .inr b
   ·exact .inl ⟨j,by omega,b⟩
theorem pM {e:List Int}{k:Nat} (h:¬ k<e.length):e.getD k 0=0:=by
 rw[List.getD_eq_getElem?_getD,List.getElem?_eq_none (by omega)];rfl
theorem Nj (f:Fm) (x:Int):x∈snF f↔Stn f x:=by
 have h1:x∈snP f.p f.p.length↔∃t∈f.p,0≤x∧0<t.2.getD x.toNat 0:=by
  rw[pL];constructor
  ·rintro⟨j,a,k,b,c,rfl⟩;exact⟨_,eQ a,by omega,by simpa using c⟩
  ·rintro⟨t,ht,a,b⟩;obtain⟨j,hj,rfl⟩:=List.mem_iff_getElem.1 ht;have e:at0 f.p j=f.p[j]:=by
    unfold at0;rw[List.getD_eq_getElem?_getD,List.getElem?_eq_getElem hj];rfl
   refine⟨j,hj,x.toNat,?_,by rw[e];exact b,by omega⟩;rw[e];by_cases h:x.toNat<f.p[j].2.length
   ·exact h
   ·rw[pM h] at b;exact absurd b (by decide)
 unfold snF Stn;split
 ·rename_i h4;rw[lK,h1];constructor
  ·rintro (h | h)
   ·exact .inl h
   ·exact .inr ⟨h4,h⟩
  ·rintro (h | ⟨_,h⟩)
   ·exact .inl h
   ·exact .inr h
 ·rename_i h4;rw[h1];exact⟨.inl,fun h=>h.elim id fun k=>absurd k.1 h4⟩
theorem Nk (T:TypeId) (sz:Nat) (b:Bool):ee T sz (.bool b) = .bool b:=rfl
theorem Nl (i:Nat) (b:Bool):fc i (.bool b) = .p (.bool b):=rfl
def aq:=an @Nk (an @Nl (an @ite_self.{1} aa))
theorem pN {A:List TypeId} (T U X:Nat) (kd rel v k:Int) (p:List At) (gs:List Fm) (hl:p.length≤400) (hs:∀t∈p,t.2.length≤4):Con Try.prog A 23 [fD T U X kd rel v k p gs] (LJs 3 (snF (.mk kd p rel v k gs))):=by
 refine Con.mono (A:=[]) ?_ (by simp);have hsz:=jO hs;refine Kc.con rfl (by simp) ?_;(repeat first|simp only[kV,simprocAttr,aa,aq,bh]|refine aN ?_);refine kp [1] ?_;(repeat first|simp only[kV,simprocAttr,aa,aq,bh]|refine aN ?_);refine kp [1,3] ?_;(repeat first|simp only[kV,simprocAttr,aa,aq,bh]|refine aN ?_);refine kp [1,3,4] ?_;(repeat first|simp only[kV,simprocAttr,aa,aq,bh]|refine aN ?_);refine aY (ι:=Nat) (fun i=>i≤p.length) (fun i=>⟨av [(1,.ptr 1 0 0),(3,.slice 205 0 (snP p i).length),(4,.p (J i))],
  az [(1,⟨25,6,.box (.p (fD T U X kd rel v k p gs)),false⟩),(205,⟨3,1,.row ((snP p i).map (D.int .i64)),false⟩)]⟩) (fun i=>p.length-i) 0 (Nat.zero_le _) (Sub.nilG 3 205 3 1) ?_
 intro i hi;by_cases h:i<p.length
 ·have hI:(i:Int)<(p.length:Int):=by omega
  have g1:=fK (U:=U) h;have h4:=hs _ (eQ h);have hb:=hsz i hi;have hnx:snP p (i+1)=rowv (at0 p i).2 (snP p i) (at0 p i).2.length:=rfl;generalize at0 p i=t at *;obtain⟨c,e⟩:=t;generalize snP p i=o at *;(repeat first|with_reducible refine kp [1,3,4,10] ?_|simp only[kV,simprocAttr,aa,aq,hI]|refine aN ?_);(try simp only[kV,simprocAttr,aa,aq,hI,g1,h]);refine ulk ?_;(repeat first|simp only[kV,simprocAttr,aa,aq,hI,g1,h]|refine aN ?_);refine kp [1,3,4] ?_;(repeat first|simp only[kV,simprocAttr,aa,aq,hI,g1,h]|refine aN ?_);refine kp [1,3,4,5] ?_;(repeat first|simp only[kV,simprocAttr,aa,aq,hI,g1,h]|refine aN ?_);have hrl:=lL e o;refine aY (ι:=Nat) (fun j=>j≤e.length) (fun j=>⟨av [(1,.ptr 1 0 0),(3,.slice 205 0 (rowv e o j).length),(4,.p (J i)),(5,.p (J j))],
   az [(1,⟨25,6,.box (.p (fD T U X kd rel v k p gs)),false⟩),(205,⟨3,1,.row ((rowv e o j).map (D.int .i64)),false⟩)]⟩) (fun j=>e.length-j) 0 (Nat.zero_le _) (Sub.toG [1,3,4,5] [42,57]) ?_
  intro j hj;by_cases h':j<e.length
  ·have hJ:(j:Int)<(e.length:Int):=by omega
   have g2:=eR h';have hbj:=hrl j;simp only at h4;have hnj:rowv e o (j+1)=if 0<e.getD j 0 then dG (rowv e o j) j else rowv e o j:=rfl
   have ci:=(iC (A:=[]) (rowv e o j) j (by omega)).x;generalize rowv e o j=R at *;have f2:(R.length+1)*8≤140737488355328:=by omega
   by_cases hp:0<e.getD j 0
   ·rw[if_pos hp] at hnj;by_cases hm:(j:Int)∈R
    ·rw[decide_eq_true hm] at ci;have f1:rowv e o (j+1)=R:=by rw[hnj];exact if_pos hm
     (repeat first|with_reducible refine kp [1,3,4,5,21] ?_|simp only[kV,simprocAttr,aa,aq,hI,g1,h,hJ]|refine aN ?_);(try simp only[kV,simprocAttr,aa,aq,hI,g1,h,hJ,g2,h',hp]);refine ulk ?_;(repeat first|with_reducible refine kp [1,3,4,5] ?_|simp only[kV,simprocAttr,aa,aq,hI,g1,h,hJ,g2,h',hp]|refine aN ?_);refine⟨_,_,ci,ulc ?_⟩;(repeat first|with_reducible refine kp [1,3,4,5,39] ?_|simp only[kV,simprocAttr,aa,aq]|refine aN ?_);refine ulk ?_;(repeat first|with_reducible refine kp [1,3,4,5] ?_|simp only[kV,simprocAttr,aa,aq]|refine aN ?_);exact⟨j+1,h',by rw[f1];exact (Sub.toG [1,3,4,5] [42,57]),by omega⟩
    ·rw[decide_eq_false hm] at ci;have f1:rowv e o (j+1)=R++[(j:Int)]:=by rw[hnj];exact if_neg hm
     (repeat first|with_reducible refine kp [1,3,4,5,21] ?_|simp only[kV,simprocAttr,aa,aq,hI,g1,h,hJ]|refine aN ?_);(try simp only[kV,simprocAttr,aa,aq,hI,g1,h,hJ,g2,h',hp]);refine ulk ?_;(repeat first|with_reducible refine kp [1,3,4,5] ?_|simp only[kV,simprocAttr,aa,aq,hI,g1,h,hJ,g2,h',hp]|refine aN ?_);refine⟨_,_,ci,ulc ?_⟩;(repeat first|with_reducible refine kp [1,3,4,5,39] ?_|simp only[kV,simprocAttr,aa,aq]|refine aN ?_);(try simp only[kV,simprocAttr,aa,aq,f2]);refine ulk ?_;(repeat first|with_reducible refine kp [1,3,4,5] ?_|simp only[kV,simprocAttr,aa,aq,f2]|refine aN ?_);exact⟨j+1,h',by rw[f1,List.map_append,List.length_append];exact (Sub.toG [1,3,4,5] [42,57]),by omega⟩
   ·rw[if_neg hp] at hnj;(repeat first|with_reducible refine kp [1,3,4,5,21] ?_|simp only[kV,simprocAttr,aa,aq,hI,g1,h,hJ]|refine aN ?_);(try simp only[kV,simprocAttr,aa,aq,hI,g1,h,hJ,g2,h',hp]);refine ulk ?_;(repeat first|with_reducible refine kp [1,3,4,5] ?_|simp only[kV,simprocAttr,aa,aq,hI,g1,h,hJ,g2,h',hp]|refine aN ?_);refine ulc ?_;(repeat first|with_reducible refine kp [1,3,4,5,39] ?_|simp only[kV,simprocAttr,aa,aq]|refine aN ?_);refine ulk ?_;(repeat first|with_reducible refine kp [1,3,4,5] ?_|simp only[kV,simprocAttr,aa,aq]|refine aN ?_);exact⟨j+1,h',by rw[hnj];exact (Sub.toG [1,3,4,5] [42,57]),by omega⟩
  ·have hJ:¬ (j:Int)<(e.length:Int):=by omega
   obtain rfl:j=e.length:=by omega
   (repeat first|with_reducible refine kp [1,3,4,5,21] ?_|simp only[kV,simprocAttr,aa,aq,hI,g1,h,hJ]|refine aN ?_);refine ulk ?_;(repeat first|with_reducible refine kp [1,3,4] ?_|simp only[kV,simprocAttr,aa,aq,hJ]|refine aN ?_);exact⟨i+1,h,by rw[hnx];exact (Sub.toG [1,3,4] [42,57]),by omega⟩
 ·have hI:¬ (i:Int)<(p.length:Int):=by omega
  obtain rfl:i=p.length:=by omega
  have hb:=hsz p.length (Nat.le_refl _);by_cases h4:kd=4
  ·have hsn:snF (.mk kd p rel v k gs)=dG (snP p p.length) v:=if_pos h4;rw[hsn];have ci:=(iC (A:=[]) (snP p p.length) v (by omega)).x;generalize snP p p.length=R at *;have f2:(R.length+1)*8≤140737488355328:=by omega
   by_cases hm:v∈R
   ·rw[decide_eq_true hm] at ci;have f1:dG R v=R:=if_pos hm;rw[f1];(repeat first|with_reducible refine kp [1,3,4,10] ?_|simp only[kV,simprocAttr,aa,aq,hI]|refine aN ?_);(try simp only[kV,simprocAttr,aa,aq,hI,h4]);refine ulk ?_;(repeat first|with_reducible refine kp [1,3] ?_|simp only[kV,simprocAttr,aa,aq,hI,h4]|refine aN ?_);refine⟨_,_,ci,ulc ?_⟩;(repeat first|with_reducible refine kp [1,3,53] ?_|simp only[kV,simprocAttr,aa,aq]|refine aN ?_);refine ulk ?_;(repeat first|with_reducible refine kp [2,3] ?_|simp only[kV,simprocAttr,aa,aq,ac,af,ae,ah]|refine aN ?_);simp only[Bool.or_true,if_true]
   ·rw[decide_eq_false hm] at ci;have f1:dG R v=R++[v]:=if_neg hm;rw[f1];(repeat first|with_reducible refine kp [1,3,4,10] ?_|simp only[kV,simprocAttr,aa,aq,hI]|refine aN ?_);(try simp only[kV,simprocAttr,aa,aq,hI,h4]);refine ulk ?_;(repeat first|with_reducible refine kp [1,3] ?_|simp only[kV,simprocAttr,aa,aq,hI,h4]|refine aN ?_);refine⟨_,_,ci,ulc ?_⟩;(repeat first|with_reducible refine kp [1,3,53] ?_|simp only[kV,simprocAttr,aa,aq]|refine aN ?_);(try simp only[kV,simprocAttr,aa,aq,f2]);refine ulk ?_;(repeat first|with_reducible refine kp [2,3] ?_|simp only[kV,simprocAttr,aa,aq,ac,af,ae,ah,f2]|refine aN ?_);have hln:(R.map (D.int .i64)++[J v]).length=R.length+1:=by simp
    rw[if_pos ⟨rfl,Nat.le_of_eq hln.symm⟩,List.take_of_length_le (Nat.le_of_eq hln)];show _=some (D.list 3 1 ((R++[v]).map (D.int .i64)))
    rw[List.map_append];rfl
  ·have hsn:snF (.mk kd p rel v k gs)=snP p p.length:=if_neg h4;rw[hsn];generalize snP p p.length=R at *;(repeat first|with_reducible refine kp [1,3,4,10] ?_|simp only[kV,simprocAttr,aa,aq,hI]|refine aN ?_);(try simp only[kV,simprocAttr,aa,aq,hI,h4]);refine ulk ?_;(repeat first|with_reducible refine kp [1,3] ?_|simp only[kV,simprocAttr,aa,aq,hI,h4]|refine aN ?_);refine ulc ?_;(repeat first|with_reducible refine kp [1,3,53] ?_|simp only[kV,simprocAttr,aa,aq]|refine aN ?_);refine ulk ?_;(repeat first|with_reducible refine kp [2,3] ?_|simp only[kV,simprocAttr,aa,aq,ac,af,ae,ah]|refine aN ?_);simp only[Bool.or_true,if_true]
theorem Sub.revG {OT:List TypeId} (t:Nat) (d:D){R:List (Nat×AV)}{M:List (Nat×AObj)} (hd:(av R t).toD false (az M) 20=some d):Sub OT ⟨av R,az M⟩ ⟨av (eL t (.p d) R),az M⟩:=by
 rw[←jc];exact Sub.reveal t d hd
theorem OU (G:FuncId→List D→D→Prop) (dd:Option Nat) (T:Nat) (sz:Nat) (z:D) (n:Nat) (parts:List (Nat×Opd)) (g:Option (Nat×Bool)) (K:St→Prop) (s:St):au G ⟨dd,.buildSliceP T sz z n parts,g⟩ K s=fin dd K (ev (.buildSliceP T sz z n parts) (dd.getD 0) s):=rfl
theorem OV (T:Nat) (sz:Nat) (z:D) (n:Nat) (parts:List (Nat×Opd)) (id:Nat) (s:St):ev (.buildSliceP T sz z n parts) id s=(match s.m id with
  |none=>match dC sz (List.replicate n z) s.r parts with
   |some l=>some (true,.slice id 0 n,⟨s.r,upd s.m id (some ⟨T,sz,.row l,false⟩)⟩)
   |none=>none
  |some _=>none):=rfl
def ct:=an @OU (an @OV (an @dC.eq_1 (an @dC.eq_2 aa)))
theorem Sub.rowP {OT:List TypeId} (t i T sz n:Nat) (l:List D){R:List (Nat×AV)}{M:List (Nat×AObj)} (ht:av R t = .slice i 0 n) (hm:az M i=some ⟨T,sz,.row l,false⟩) (hn:n=l.length) (hi:i≠aQ:=by decide) :
  Sub OT ⟨av R,az M⟩ ⟨av (eL t (.p (.list T sz l)) R),az (di i ⟨T,sz,.row l,true⟩ M)⟩:=by
 have h1:Sub OT ⟨av R,az M⟩ ⟨av R,az (di i ⟨T,sz,.row l,true⟩ M)⟩:=by
  rw[←eM];exact Sub.freeze (ob:=⟨T,sz,.row l,false⟩) hi hm
 refine h1.tr (Sub.revG t (.list T sz l) ?_);rw[ht];subst hn;have e:az (di i ⟨T,sz,.row l,true⟩ M) i=some ⟨T,sz,.row l,true⟩:=by rw[←eM,aD]
 simp[AV.toD,e]
abbrev nF (T U X:Nat) (R:List (Fm×List Int)):List D:=R.map fun x=>fmD T U X x.1
abbrev nB (R:List (Fm×List Int)):List D:=R.map fun x=>LJs 3 x.2
theorem OW {l:List Fm}{i:Nat} (h:i<l.length) (ab:List Int):ndsL (l.take (i+1)) ab=ndsL (l.take i) ab++nds l[i] ab:=by
 rw[List.take_succ_eq_append_getElem h,kI,ndsL,ndsL,List.append_nil]
theorem OX {l:List Fm} (i:Nat) (ab:List Int):(ndsL (l.take i) ab).length≤(ndsL l ab).length:=by
 conv=>rhs;rw[←List.take_append_drop i l,kI,List.length_append]
 omega
theorem jZ {T U X:Nat}{gs:List Fm}{i:Nat} (h:i<gs.length):(bi T U X gs).getD i default=fmD T U X gs[i]:=by
 rw[eN,List.getD_eq_getElem?_getD,List.getElem?_map,List.getElem?_eq_getElem h];rfl
abbrev nR (T U X:Nat) (R:List (Fm×List Int)):D:=.tup [.list 25 6 (nF T U X R),.list 30 1 (nB R)]
abbrev lX (T U X:Nat) (f:Fm):Prop:=∀ab:List Int,ab.length+(nds f ab).length+1≤1000000000→Con Try.prog [] 18 [fmD T U X f,LJs 3 ab] (nR T U X (nds f ab))
theorem pZ:∀(f:Fm) (ab:List Int),0<(nds f ab).length
 |.mk _ _ _ _ _ _,ab=>by rw[nds];simp
theorem lY:∀(l:List Fm) (ab:List Int),l.length≤(ndsL l ab).length
 |[],_=>Nat.zero_le _
 |a::l,ab=>by
  have h1:=lY l ab;have h2:=pZ a ab;rw[ndsL,List.length_cons,List.length_append];omega
theorem OY (T U X:Nat) (kd rel v k:Int) (p:List At) (gs:List Fm) (ih:∀a∈gs,lX T U X a) (ab ab':List Int) (hb:ab'.length+(ndsL gs ab').length+1≤1000000000) :
  cw [25,30,3,90000027] (ConX Try.prog []) pz (ac (nR T U X ((.mk kd p rel v k gs,ab)::ndsL gs ab')) [(4,none),(5,none)])
   ⟨av [(1,.p (LJs 3 ab')),(2,.ptr 2 0 0),(6,.slice 12 0 1),(7,.slice 14 0 1)],az [(2,⟨25,6,.box (.p (fD T U X kd rel v k p gs)),false⟩),(12,⟨25,6,.row [fD T U X kd rel v k p gs],false⟩),(14,⟨30,1,.row [LJs 3 ab],false⟩)]⟩:=by
 have hf:fD T U X kd rel v k p gs=fmD T U X (.mk kd p rel v k gs):=(bC _ _ _ _ _ _ _ _ _).symm;have hle:=fun i=>OX (l:=gs) i ab'
 have hgl:=lY gs ab';skip
 (repeat first|simp only[kV,simprocAttr,ct]|refine aN ?_);refine kp [1,2,6,7,8] ?_;(repeat first|simp only[kV,simprocAttr,ct]|refine aN ?_);refine aY (ι:=Nat) (fun i=>i≤gs.length) (fun i=>⟨av [(1,.p (LJs 3 ab')),(2,.ptr 2 0 0),(6,.slice 12 0 ((.mk kd p rel v k gs,ab)::ndsL (gs.take i) ab').length),(7,.slice 14 0 ((.mk kd p rel v k gs,ab)::ndsL (gs.take i) ab').length),(8,.p (J i))],
  az [(2,⟨25,6,.box (.p (fD T U X kd rel v k p gs)),false⟩),(12,⟨25,6,.row (nF T U X ((.mk kd p rel v k gs,ab)::ndsL (gs.take i) ab')),false⟩),(14,⟨30,1,.row (nB ((.mk kd p rel v k gs,ab)::ndsL (gs.take i) ab')),false⟩)]⟩) (fun i=>gs.length-i) 0 (Nat.zero_le _)
  (by
   rw[List.take_zero,ndsL];simp only[List.map_cons,List.map_nil,List.length_cons,List.length_nil,←hf];exact (Sub.toG [1,2,6,7,8] [27])) ?_
 intro i hi;by_cases h:i<gs.length
 ·have hI:(i:Int)<(gs.length:Int):=by omega
  have g1:=jZ (T:=T) (U:=U) (X:=X) h;have hci:=ih gs[i] (List.getElem_mem h) ab';have hst:=OW h ab';have hl1:=hle (i+1);rw[hst,List.length_append] at hl1;have hp:=pZ gs[i] ab';clear ih hf hle;generalize nds gs[i] ab'=r at *;generalize ndsL (gs.take i) ab'=R at *;generalize (ndsL gs ab').length=lx at *;have ci:=hci (by omega);clear hci;have hi2:i+1≤1000000000:=by omega
  generalize gs[i]=y at *;obtain⟨kd1,p1,rel1,v1,k1,gs1⟩:=y;rw[bC] at g1 ci;have b1:(R.length+1+r.length)*80≤140737488355328:=by omega
  have b2:(R.length+1+r.length)*24≤140737488355328:=by omega
  (repeat first|with_reducible refine kp [1,2,6,7,8,33] ?_|simp only[kV,simprocAttr,ct,hI]|refine aN ?_);(try simp only[kV,simprocAttr,ct,hI,g1,h]);refine ulk ?_;(repeat first|with_reducible refine kp [1,2,6,7,8] ?_|simp only[kV,simprocAttr,ct,hI,g1,h]|refine aN ?_);refine⟨_,cx (ci),ulc ?_⟩;(repeat first|with_reducible refine kp [1,2,6,7,8,9,10] ?_|simp only[kV,simprocAttr,ct,b1,b2]|refine aN ?_);exact⟨i+1,h,by rw[hst,List.length_append,List.map_append,List.map_append,show R.length+r.length+1=R.length+1+r.length by omega];exact (Sub.toG [1,2,6,7,8] [27]),by omega⟩
 ·have hI:¬ (i:Int)<(gs.length:Int):=by omega
  obtain rfl:i=gs.length:=by omega
  rw[List.take_length];(repeat first|with_reducible refine kp [1,2,6,7,8,33] ?_|simp only[kV,simprocAttr,ct,hI]|refine aN ?_);refine ulk ?_;(repeat first|with_reducible refine kp [4,5,6,7] ?_|simp only[kV,simprocAttr,ct,ac,af,ae,ah,hI]|refine aN ?_);simp only[Bool.or_true,if_true];rw[List.take_of_length_le (by simp),List.take_of_length_le (by simp)];rfl
theorem p3 (T U X:Nat) (f:Fm):lX T U X f:=by
 refine Fm.ind (P:=lX T U X) ?_ f;intro kd p rel v k gs ih ab hb;have hr:=OY T U X kd rel v k p gs ih ab;rw[bC];rw[nds] at hb ⊢;rw[List.length_cons] at hb;have hgl:=lY gs;have e:LJs 3 (ab++[v]) = .list 3 1 (ab.map (D.int .i64)++[J v]):=by simp[LJs]
 have b1:(ab.length+1)*8≤140737488355328:=by clear hr ih e;omega
 have b2:ab.length*8≤140737488355328:=by clear hr ih e;omega
 have b3:ab.length≤9223372036854775807:=by clear hr ih e;omega
 have hln:(ab.map (D.int .i64)++[J v]).length=ab.length+1:=by simp
 by_cases h8:kd=8
 ·subst h8;rw[if_pos (.inl rfl)] at hb ⊢;have h38:=hr (ab++[v]) (by clear hr e hln;rw[List.length_append,List.length_singleton];omega);rw[e] at h38;refine lE.con rfl (by simp) ?_;(repeat first|with_reducible refine kp [1,2,6,7,22] ?_|simp only[kV,simprocAttr,ct,aw]|refine aN ?_);(try simp only[kV,simprocAttr,ct,b1,b2,b3,Bool.true_or,List.drop_zero,List.length_map]);refine ulk ?_;(repeat first|simp only[kV,simprocAttr,ct,b1,b2,b3,Bool.true_or,List.drop_zero,List.length_map]|refine aN ?_);exact⟨_,(Sub.rowP 1 24 3 1 _ (ab.map (D.int .i64)++[J v]) rfl rfl (by clear h38;exact hln.symm)).tr (Sub.toG [1,2,6,7] [24,27]),h38⟩
 by_cases h9:kd=9
 ·subst h9;rw[if_pos (.inr rfl)] at hb ⊢;have h38:=hr (ab++[v]) (by clear hr e hln;rw[List.length_append,List.length_singleton];omega);rw[e] at h38;refine lE.con rfl (by simp) ?_;(repeat first|with_reducible refine kp [1,2,6,7,22] ?_|simp only[kV,simprocAttr,ct,aw]|refine aN ?_);(try simp only[kV,simprocAttr,ct,b1,b2,b3,Bool.true_or,List.drop_zero,List.length_map]);refine ulk ?_;(repeat first|simp only[kV,simprocAttr,ct,b1,b2,b3,Bool.true_or,List.drop_zero,List.length_map]|refine aN ?_);exact⟨_,(Sub.rowP 1 24 3 1 _ (ab.map (D.int .i64)++[J v]) rfl rfl (by clear h38;exact hln.symm)).tr (Sub.toG [1,2,6,7] [24,27]),h38⟩
 ·rw[if_neg (by omega)] at hb ⊢;have h38:=hr ab (by clear hr e;omega);refine lE.con rfl (by simp) ?_;(repeat first|with_reducible refine kp [1,2,6,7,22] ?_|simp only[kV,simprocAttr,ct,aw,h8,h9]|refine aN ?_);refine ulk ?_;(repeat first|simp only[kV,simprocAttr,ct,h9]|refine aN ?_);exact⟨_,(Sub.toG [1,2,6,7] [24,27]),h38⟩
theorem mj {A:List TypeId} (T U:Nat) (a:List Int) (hl:a.length≤9223372036854775807):Con Try.prog A 10 [LJs T a,LJs U a] (.bool true):=by
 refine Con.mono (A:=[]) ?_ (by simp);refine CU.con rfl (by simp) ?_;(repeat first|with_reducible refine kp [0,1,10] ?_|simp only[kV,simprocAttr,aa,aw]|refine aN ?_);refine ulk ?_;(repeat first|simp only[kV,simprocAttr,aa]|refine aN ?_);refine kp [0,1] ?_;(repeat first|simp only[kV,simprocAttr,aa]|refine aN ?_);refine kp [0,1,5] ?_;(repeat first|simp only[kV,simprocAttr,aa]|refine aN ?_);refine aY (ι:=Nat) (fun i=>i≤a.length) (fun i=>⟨av [(0,.p (LJs T a)),(1,.p (LJs U a)),(5,.p (J i))],az []⟩) (fun i=>a.length-i) 0 (Nat.zero_le _) (Sub.toG [0,1,5] []) ?_;intro i hi;by_cases h:i<a.length
 ·have hI:(i:Int)<(a.length:Int):=by omega
  have g1:=eR h;(repeat first|with_reducible refine kp [0,1,5,14] ?_|simp only[kV,simprocAttr,aa,hI]|refine aN ?_);(try simp only[kV,simprocAttr,aa,hI,g1,h]);refine ulk ?_;(repeat first|with_reducible refine kp [0,1,5,25] ?_|simp only[kV,simprocAttr,aa,hI,g1,h]|refine aN ?_);refine ulk ?_;(repeat first|with_reducible refine kp [0,1,5] ?_|simp only[kV,simprocAttr,aa]|refine aN ?_);exact⟨i+1,h,(Sub.toG [0,1,5] []),by omega⟩
 ·have hI:¬ (i:Int)<(a.length:Int):=by omega
  (repeat first|with_reducible refine kp [0,1,5,14] ?_|simp only[kV,simprocAttr,aa,hI]|refine aN ?_);refine ulk ?_;(repeat first|with_reducible refine kp [4] ?_|simp only[kV,simprocAttr,aa,ac,af,ae,ah,hI]|refine aN ?_)
theorem Qz {A:List TypeId} (T U T' U':Nat) (a:List At) (hl:a.length≤9223372036854775807) (ea:∀t∈a,t.2.length≤9223372036854775807):Con Try.prog A 24 [.list T 2 (a.map (atD U)),.list T' 2 (a.map (atD U'))] (.bool true):=by
 refine Con.mono (A:=[]) ?_ (by simp);refine Dd.con rfl (by simp) ?_;(repeat first|with_reducible refine kp [0,1,10] ?_|simp only[kV,simprocAttr,aa,aw]|refine aN ?_);refine ulk ?_;(repeat first|simp only[kV,simprocAttr,aa]|refine aN ?_);refine kp [0,1] ?_;(repeat first|simp only[kV,simprocAttr,aa]|refine aN ?_);refine kp [0,1,5] ?_;(repeat first|simp only[kV,simprocAttr,aa]|refine aN ?_);refine aY (ι:=Nat) (fun i=>i≤a.length) (fun i=>⟨av [(0,.p (.list T 2 (a.map (atD U)))),(1,.p (.list T' 2 (a.map (atD U')))),(5,.p (J i))],az []⟩) (fun i=>a.length-i) 0 (Nat.zero_le _) (Sub.toG [0,1,5] []) ?_;intro i hi;by_cases h:i<a.length
 ·have hI:(i:Int)<(a.length:Int):=by omega
  have g1:=fK (U:=U) h;have g2:=fK (U:=U') h;have l1:=ea _ (eQ h);generalize at0 a i=x at *;obtain⟨c,e⟩:=x;simp only at g1 g2 l1;have cs:=mj (A:=[]) U U' e l1;(repeat first|with_reducible refine kp [0,1,5,14] ?_|simp only[kV,simprocAttr,aa,hI]|refine aN ?_);(try simp only[kV,simprocAttr,aa,hI,g1,g2,h]);refine ulk ?_;(repeat first|with_reducible refine kp [0,1,5] ?_|simp only[kV,simprocAttr,aa,hI,g1,g2,h]|refine aN ?_);refine⟨_,cx (cs),ulc ?_⟩;(repeat first|with_reducible refine kp [0,1,5,41] ?_|simp only[kV,simprocAttr,aa]|refine aN ?_);refine ulk ?_;(repeat first|with_reducible refine kp [0,1,5] ?_|simp only[kV,simprocAttr,aa]|refine aN ?_);exact⟨i+1,h,(Sub.toG [0,1,5] []),by omega⟩
 ·have hI:¬ (i:Int)<(a.length:Int):=by omega
  (repeat first|with_reducible refine kp [0,1,5,14] ?_|simp only[kV,simprocAttr,aa,hI]|refine aN ?_);refine ulk ?_;(repeat first|with_reducible refine kp [4] ?_|simp only[kV,simprocAttr,aa,ac,af,ae,ah,hI]|refine aN ?_)
mutual
def Sz:Fm→Prop
 |.mk kd p rel v k gs=>p.length≤1000000000∧(∀t∈p,t.1.length≤9223372036854775807∧t.2.length≤1000000000)∧gs.length≤1000000000∧SzL gs
def SzL:List Fm→Prop
 |[]=>True
 |a::l=>Sz a∧SzL l
end
theorem ke:∀{l:List Fm},SzL l→∀a∈l,Sz a
 |[],_=>fun a ha=>by cases ha
 |b::l,h=>fun a ha=>by
  rw[SzL] at h;rcases List.mem_cons.1 ha with rfl | ha
  ·exact h.1
  ·exact ke h.2 a ha
theorem QA (T U X T' U' X':Nat) (f:Fm):Sz f→Con Try.prog [] 9 [fmD T U X f,fmD T' U' X' f] (.bool true):=by
 refine Fm.ind (P:=fun f=>Sz f→Con Try.prog [] 9 [fmD T U X f,fmD T' U' X' f] (.bool true)) ?_ f;intro kd p rel v k gs ih hsz;rw[Sz] at hsz;obtain⟨hp,ht,hg,hL⟩:=hsz;have cs:=Qz (A:=[]) T U T' U' p (by omega) (fun t h=>by have:=(ht t h).2;omega);rw[bC,bC];refine fn9.con rfl (by simp) ?_;(repeat first|with_reducible refine kp [2,3] ?_|simp only[kV,simprocAttr,aa,aw]|refine aN ?_);refine⟨_,cx (cs),ulc ?_⟩;(repeat first|with_reducible refine kp [2,3,48] ?_|simp only[kV,simprocAttr,aa]|refine aN ?_);refine ulk ?_;(repeat first|simp only[kV,simprocAttr,aa]|refine aN ?_);refine kp [2,3] ?_;(repeat first|simp only[kV,simprocAttr,aa]|refine aN ?_);refine kp [2,3,5] ?_;(repeat first|simp only[kV,simprocAttr,aa]|refine aN ?_);refine aY (ι:=Nat) (fun i=>i≤gs.length) (fun i=>⟨av [(2,.ptr 2 0 0),(3,.ptr 3 0 0),(5,.p (J i))],az [(2,⟨25,6,.box (.p (fD T U X kd rel v k p gs)),false⟩),(3,⟨25,6,.box (.p (fD T' U' X' kd rel v k p gs)),false⟩)]⟩) (fun i=>gs.length-i) 0 (Nat.zero_le _) (Sub.toG [2,3,5] []) ?_;intro i hi;by_cases h:i<gs.length
 ·have hI:(i:Int)<(gs.length:Int):=by omega
  have g1:=jZ (T:=T) (U:=U) (X:=X) h;have g2:=jZ (T:=T') (U:=U') (X:=X') h;have ci:=ih gs[i] (List.getElem_mem h) (ke hL _ (List.getElem_mem h));clear ih hL cs ht;generalize gs[i]=y at *;obtain⟨kd1,p1,rel1,v1,k1,gs1⟩:=y;rw[bC] at g1 g2;rw[bC,bC] at ci;(repeat first|with_reducible refine kp [2,3,5,53] ?_|simp only[kV,simprocAttr,aa,hI]|refine aN ?_);(try simp only[kV,simprocAttr,aa,hI,g1,g2,h]);refine ulk ?_;(repeat first|with_reducible refine kp [2,3,5] ?_|simp only[kV,simprocAttr,aa,hI,g1,g2,h]|refine aN ?_);refine⟨_,cx (ci),ulc ?_⟩;(repeat first|with_reducible refine kp [2,3,5,67] ?_|simp only[kV,simprocAttr,aa]|refine aN ?_);refine ulk ?_;(repeat first|with_reducible refine kp [2,3,5] ?_|simp only[kV,simprocAttr,aa]|refine aN ?_);exact⟨i+1,h,(Sub.toG [2,3,5] []),by omega⟩
 ·have hI:¬ (i:Int)<(gs.length:Int):=by omega
  (repeat first|with_reducible refine kp [2,3,5,53] ?_|simp only[kV,simprocAttr,aa,hI]|refine aN ?_);refine ulk ?_;(repeat first|with_reducible refine kp [4] ?_|simp only[kV,simprocAttr,aa,ac,af,ae,ah,hI]|refine aN ?_)
def Bt (m:Nat) (o:List Int):Prop:=m<16∧∀j,j<4→m.testBit j=decide ((j:Int)∈o)
theorem Bt.nil:Bt 0 []:=⟨by decide,fun j _=>by simp⟩
theorem Bt.add {m:Nat}{o:List Int} (h:Bt m o) (v:Int):Bt (mk1 m v) (dG o v):=by
 refine⟨jh v h.1,fun j hj => ?_⟩;rw[kJ m v j hj,h.2 j hj,←Bool.decide_or];exact decide_eq_decide.2 (by rw[lK,eq_comm (a:=v)])
def rowM (e:List Int) (m:Nat):Nat→Nat
 |0=>m
 |j+1=>if 0<e.getD j 0 then mk1 (rowM e m j) j else rowM e m j
def stM (p:List At):Nat→Nat
 |0=>0
 |i+1=>rowM (at0 p i).2 (stM p i) (at0 p i).2.length
def stF (f:Fm):Nat:=if f.kd=4 then mk1 (stM f.p f.p.length) f.v else stM f.p f.p.length
theorem kz {e o:List Int}{m:Nat} (h:Bt m o):∀j,Bt (rowM e m j) (rowv e o j)
 |0=>h
 |j+1=>by
  have h1:=kz (e:=e) h j;rw[rowM,rowv];split
  ·exact h1.add j
  ·exact h1
theorem g8 (p:List At):∀i,Bt (stM p i) (snP p i)
 |0 => .nil
 |i+1=>kz (g8 p i) _
theorem ja (f:Fm):Bt (stF f) (snF f):=by
 unfold stF snF;split
 ·exact (g8 _ _).add _
 ·exact g8 _ _
theorem cS:IntKind.u64.bits=64:=rfl
theorem kA {m:Nat} (hm:m<16){v:Int} (h0:0≤v) (h4:v<4):cC .u64 (m:Int) (2^v.toNat)=true∧((2:Int)^v.toNat).toNat=2^v.toNat∧a6 .or m (2^v.toNat)=mk1 m v∧inK .u64 ((2:Int)^v.toNat)=true:=by
 have e:a6 .or m (2^v.toNat)=mk1 m v:=by
  unfold mk1;rw[if_pos ⟨h0,h4⟩,Nat.one_shiftLeft];rfl
 refine⟨?_,?_,e,?_⟩;all_goals clear e
 all_goals
  have:v=0∨v=1∨v=2∨v=3:=by omega
  rcases this with rfl | rfl | rfl | rfl
 all_goals first
  |rfl
  |(simp[cC,inK];omega)
  |decide
theorem mT {A:List TypeId} (T U X:Nat) (kd rel v k:Int) (p:List At) (gs:List Fm) (hl:p.length≤400) (hs:∀t∈p,t.2.length≤4) (hv:kd=4→0≤v∧v<4):Con Try.prog A 16 [.ref (fD T U X kd rel v k p gs)] (.int .u64 (stF (.mk kd p rel v k gs))):=by
 refine Con.mono (A:=[]) ?_ (by simp);refine G7.con rfl (by simp) ?_;(repeat first|simp only[kV,simprocAttr,aa,bh]|refine aN ?_);refine kp [0] ?_;(repeat first|simp only[kV,simprocAttr,aa,bh]|refine aN ?_);refine kp [0,3] ?_;(repeat first|simp only[kV,simprocAttr,aa,bh]|refine aN ?_);refine kp [0,3,11,12,13] ?_;(repeat first|simp only[kV,simprocAttr,aa,bh]|refine aN ?_);refine aY (ι:=Nat) (fun i=>i≤p.length) (fun i=>⟨av [(0,.p (.ref (fD T U X kd rel v k p gs))),(3,.p (.int .u64 (stM p i))),(11,.p (LTa T U p)),(12,.p (J p.length)),(13,.p (J i))],az []⟩) (fun i=>p.length-i) 0 (Nat.zero_le _) (Sub.toG [0,3,11,12,13] [5]) ?_;intro i hi;by_cases h:i<p.length
 ·have hI:(i:Int)<(p.length:Int):=by omega
  have g1:=fK (U:=U) h;have h4:=hs _ (eQ h);have hb:=(g8 p i)
  have hnx:stM p (i+1)=rowM (at0 p i).2 (stM p i) (at0 p i).2.length:=rfl;generalize at0 p i=t at *;obtain⟨c,e⟩:=t;generalize stM p i=m at *;(repeat first|with_reducible refine kp [0,3,11,12,13,14] ?_|simp only[kV,simprocAttr,aa,hI]|refine aN ?_);(try simp only[kV,simprocAttr,aa,hI,g1,h]);refine ulk ?_;(repeat first|simp only[kV,simprocAttr,aa,hI,g1,h]|refine aN ?_);refine kp [0,3,11,12,13] ?_;(repeat first|simp only[kV,simprocAttr,aa,hI,g1,h]|refine aN ?_);refine kp [0,3,5,11,12,13] ?_;(repeat first|simp only[kV,simprocAttr,aa,hI,g1,h]|refine aN ?_);refine kp [0,3,11,12,13,18,19,20] ?_;(repeat first|simp only[kV,simprocAttr,aa,hI,g1,h]|refine aN ?_);have hrl:=fun j=>(kz (e:=e) hb j).1
  refine aY (ι:=Nat) (fun j=>j≤e.length) (fun j=>⟨av [(0,.p (.ref (fD T U X kd rel v k p gs))),(3,.p (.int .u64 (rowM e m j))),(11,.p (LTa T U p)),(12,.p (J p.length)),(13,.p (J i)),(18,.p (.list U 1 (e.map (D.int .i64)))),(19,.p (J e.length)),(20,.p (J j))],az []⟩) (fun j=>e.length-j) 0 (Nat.zero_le _) (Sub.toG [0,3,11,12,13,18,19,20] [5]) ?_;intro j hj;by_cases h':j<e.length
  ·have hJ:(j:Int)<(e.length:Int):=by omega
   have g2:=eR h';have hbj:=hrl j;simp only at h4;have hj4:j<4:=by omega
   have hnj:rowM e m (j+1)=if 0<e.getD j 0 then mk1 (rowM e m j) j else rowM e m j:=rfl
   generalize rowM e m j=R at *;by_cases hp:0<e.getD j 0
   ·rw[if_pos hp] at hnj;obtain⟨q1,q3,q2,q4⟩:=kA hbj (v:=(j:Int)) (by omega) (by omega);simp only[Int.toNat_natCast] at q1 q2 q3 q4;(repeat first|with_reducible refine kp [0,3,11,12,13,18,19,20,21] ?_|simp only[kV,simprocAttr,aa,hJ]|refine aN ?_);(try simp only[kV,simprocAttr,aa,hJ,g2,h',hp]);refine ulk ?_;(repeat first|with_reducible refine kp [0,3,6,7,11,12,13,18,19,20,26] ?_|simp only[kV,simprocAttr,aa,hJ,g2,h',hp]|refine aN ?_);(try simp only[kV,simprocAttr,aa,hp,Int.one_mul,Int.toNat_natCast,q1,q2,q3,q4,cS]);refine ulk ?_;(repeat first|with_reducible refine kp [0,3,11,12,13,18,19,20] ?_|simp only[kV,simprocAttr,aa,hp,Int.one_mul,Int.toNat_natCast,q1,q2,q3,q4,cS]|refine aN ?_);exact⟨j+1,h',by rw[hnj];exact (Sub.toG [0,3,11,12,13,18,19,20] [5]),by omega⟩
   ·rw[if_neg hp] at hnj;(repeat first|with_reducible refine kp [0,3,11,12,13,18,19,20,21] ?_|simp only[kV,simprocAttr,aa,hJ]|refine aN ?_);(try simp only[kV,simprocAttr,aa,hJ,g2,h',hp]);refine ulk ?_;(repeat first|with_reducible refine kp [0,3,6,7,11,12,13,18,19,20,26] ?_|simp only[kV,simprocAttr,aa,hJ,g2,h',hp]|refine aN ?_);refine ulk ?_;(repeat first|with_reducible refine kp [0,3,11,12,13,18,19,20] ?_|simp only[kV,simprocAttr,aa,hp]|refine aN ?_);exact⟨j+1,h',by rw[hnj];exact (Sub.toG [0,3,11,12,13,18,19,20] [5]),by omega⟩
  ·have hJ:¬ (j:Int)<(e.length:Int):=by omega
   obtain rfl:j=e.length:=by omega
   (repeat first|with_reducible refine kp [0,3,11,12,13,18,19,20,21] ?_|simp only[kV,simprocAttr,aa,hJ]|refine aN ?_);refine ulk ?_;(repeat first|with_reducible refine kp [0,3,11,12,13] ?_|simp only[kV,simprocAttr,aa,hJ]|refine aN ?_);exact⟨i+1,h,by rw[hnx];exact (Sub.toG [0,3,11,12,13] [5]),by omega⟩
 ·have hI:¬ (i:Int)<(p.length:Int):=by omega
  obtain rfl:i=p.length:=by omega
  have hb:=(g8 p p.length).1;by_cases h4:kd=4
  ·have hsn:stF (.mk kd p rel v k gs)=mk1 (stM p p.length) v:=if_pos h4;rw[hsn];obtain⟨v0,v4⟩:=hv h4;obtain⟨q1,q3,q2,q4⟩:=kA hb v0 v4;generalize stM p p.length=R at *;(repeat first|with_reducible refine kp [0,3,11,12,13,14] ?_|simp only[kV,simprocAttr,aa,hI]|refine aN ?_);(try simp only[kV,simprocAttr,aa,hI,h4]);refine ulk ?_;(repeat first|with_reducible refine kp [0,3,37] ?_|simp only[kV,simprocAttr,aa,hI,h4]|refine aN ?_);(try simp only[kV,simprocAttr,aa,h4,Int.one_mul,Int.toNat_natCast,q1,q2,q3,q4,cS]);refine ulk ?_;(repeat first|with_reducible refine kp [2,3] ?_|simp only[kV,simprocAttr,aa,ac,af,ae,ah,h4,Int.one_mul,Int.toNat_natCast,q1,q2,q3,q4,cS]|refine aN ?_)
  ·have hsn:stF (.mk kd p rel v k gs)=stM p p.length:=if_neg h4;rw[hsn];generalize stM p p.length=R at *;(repeat first|with_reducible refine kp [0,3,11,12,13,14] ?_|simp only[kV,simprocAttr,aa,hI]|refine aN ?_);(try simp only[kV,simprocAttr,aa,hI,h4]);refine ulk ?_;(repeat first|with_reducible refine kp [0,3,37] ?_|simp only[kV,simprocAttr,aa,hI,h4]|refine aN ?_);refine ulk ?_;(repeat first|with_reducible refine kp [2,3] ?_|simp only[kV,simprocAttr,aa,ac,af,ae,ah]|refine aN ?_)
theorem p7:∀{l:List Fm},(∀a∈l,Sz a)→SzL l
 |[],_=>by rw[SzL];trivial
 |a::l,h=>by rw[SzL];exact⟨h a (by simp),p7 fun b hb=>h b (by simp[hb])⟩
theorem p8 (T U X:Nat):∀(l:List Fm),l.length≤bkL (bi T U X l)∧∀a∈l,bkD (fmD T U X a)≤bkL (bi T U X l)
 |[]=>⟨Nat.zero_le _,fun a ha=>by cases ha⟩
 |b::l=>by
  obtain⟨h1,h2⟩:=p8 T U X l;have hp:=ES T U X b;rw[bi,bkL];refine⟨by rw[List.length_cons];omega,fun a ha => ?_⟩;rcases List.mem_cons.1 ha with rfl | ha
  ·omega
  ·have:=h2 a ha;omega
theorem PU (T U X:Nat):∀f:Fm,ArF f→bkD (fmD T U X f)≤1000000000→Sz f:=by
 refine Fm.ind (P:=fun f=>ArF f→bkD (fmD T U X f)≤1000000000→Sz f) ?_;intro kd p rel v k gs ih ha hb;cases ha with
 |mk hp hg hgs =>
 rw[fmD,bkD] at hb;simp only[bkL,bkD] at hb;obtain⟨t1,t2⟩:=oF U p;obtain⟨g1,g2⟩:=p8 T U X gs;rw[Sz];refine⟨by omega,fun t ht=>⟨hp.s9 t ht,by have:=t2 t ht;omega⟩,by omega,p7 fun a ha=>ih a ha (hgs a ha) (by have:=g2 a ha;omega)⟩
theorem PV {d:D} (y:TyW Try.prog 25 d.cells) (z:d.isAgg=a7 Try.prog 25) (hb:bkD d≤1048576):∃f:Fm,d=FD f∧Sz f∧(nds f []).length≤1048576:=by
 obtain⟨f,hf,ha⟩:=(ER y).1 rfl;have eg:a7 Try.prog 25=true:=by kernel_rfl
 rw[eg] at z;obtain⟨q,rfl⟩:∃q,d = .agg q:=by cases d<;>first | exact⟨_,rfl⟩ | (simp[D.isAgg] at z)
 have hq:D.agg q=FD f:=by
  cases f with
  |mk kd p rel v k gs =>
   rw[FD,fmD] at hf ⊢;exact congrArg D.agg hf
 rw[hq] at hb ⊢;exact⟨f,rfl,PU _ _ _ f ha (Nat.le_trans hb (by omega)),Nat.le_trans (oD _ _ _ f []) hb⟩
end Go.Proofs.Ytdchbabgopglcaa.M
