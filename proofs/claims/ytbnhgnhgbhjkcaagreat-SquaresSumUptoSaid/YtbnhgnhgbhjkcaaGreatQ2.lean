/- Lemmas. -/
import Derived.Test.YtbnhgnhgbhjkcaaGreatQ1
import Derived.Test.YtbnhgnhgbhjkcaaGreatRows
namespace Go.Proofs.YtbnhgnhgbhjkcaaGreat.Sy
set_option linter.unusedSimpArgs false
variable {α:Type} [Inhabited α]
abbrev at_ (l:List α) (i:Nat):α:=l.getD i default
def Srt (le:α→α→Prop) (l:List α) (a b:Nat):Prop:=∀i j,a≤i→i<j→j<b→le (at_ l i) (at_ l j)
structure Pm (l l':List α) (a b:Nat):Prop where
 perm:l'.Perm l
 out:∀i,i<a∨b≤i→at_ l' i=at_ l i
theorem Pm.len {l l':List α}{a b:Nat} (h:Pm l l' a b):l'.length=l.length:=h.perm.length_eq
theorem Pm.rf (l:List α) (a b:Nat):Pm l l a b:=⟨.refl _,fun _ _=>rfl⟩
theorem Pm.tr {l m n:List α}{a b:Nat} (h:Pm l m a b) (k:Pm m n a b):Pm l n a b:=⟨k.perm.trans h.perm,fun i hi=>(k.out i hi).trans (h.out i hi)⟩
theorem Pm.mono {l m:List α}{a b c d:Nat} (h:Pm l m c d) (h1:a≤c) (h2:d≤b):Pm l m a b:=⟨h.perm,fun i hi=>h.out i (by omega)⟩
theorem ext_at {l m:List α} (hl:l.length=m.length) (h:∀i,i<l.length→at_ l i=at_ m i):l=m:=by
 apply List.ext_getElem hl;intro i h1 h2;have:=h i h1;simpa[at_,h1,h2] using this
theorem at_tk (l:List α){a k:Nat} (h:k<a):at_ (l.take a) k=at_ l k:=by
 simp[at_,z91,h]
theorem at_dr (l:List α) (a k:Nat):at_ (l.drop a) k=at_ l (a+k):=by
 simp[at_,z91,z9s]
theorem Pm.mid {l m:List α}{a b:Nat} (h:Pm l m a b) (hab:a≤b) (hb:b≤l.length):((m.drop a).take (b-a)).Perm ((l.drop a).take (b-a)):=by
 have hlen:=h.len;have e1:m.take a=l.take a:=ext_at (by simp[hlen]) fun i hi=>by
  rw[z9N] at hi;rw[at_tk _ (by omega),at_tk _ (by omega)];exact h.out i (by omega)
 have e2:m.drop b=l.drop b:=ext_at (by simp[hlen]) fun i hi=>by
  rw[at_dr,at_dr];exact h.out (b+i) (by omega)
 have d:∀x:List α,x=x.take a++((x.drop a).take (b-a)++x.drop b):=fun x=>by
  have h1:x.drop b=(x.drop a).drop (b-a):=by rw[List.drop_drop];congr 1;omega
  rw[h1,z8X,z8X]
 have hp:=h.perm;rw[d m,d l,e1,e2] at hp;exact (List.perm_append_right_iff _).1 ((List.perm_append_left_iff _).1 hp)
theorem Pm.from {l m:List α}{a b:Nat} (h:Pm l m a b) (hab:a≤b) (hb:b≤l.length){i:Nat} (h1:a≤i) (h2:i<b):∃j,a≤j∧j<b∧at_ m i=at_ l j:=by
 have hlen:=h.len;have hm:at_ m i∈(m.drop a).take (b-a):=by
  rw[z85];refine⟨i-a,by simp;omega,?_⟩;simp[at_,show a+(i-a)=i by omega];rw[z9P (by omega)];rfl
 have:=(h.mid hab hb).mem_iff.1 hm;obtain⟨j,hj,he⟩:=z85.1 this;simp at hj;refine⟨a+j,by omega,by omega,?_⟩;rw[←he];simp[at_];rw[z9P (by omega)];rfl
theorem Srt.join {le:α→α→Prop}{l:List α}{a c b:Nat} (h1:Srt le l a c) (h2:Srt le l c b) (h:∀i j,a≤i→i<c→c≤j→j<b→le (at_ l i) (at_ l j)):Srt le l a b:=fun i j hi hij hj=>by
 by_cases g:j<c
 ·exact h1 i j hi hij g
 ·by_cases g2:i<c
  ·exact h i j hi g2 (by omega) hj
  ·exact h2 i j (by omega) hij hj
theorem Srt.congr {le:α→α→Prop}{l m:List α}{a b:Nat} (h:Srt le l a b) (he:∀i,a≤i→i<b→at_ m i=at_ l i):Srt le m a b:=fun i j hi hij hj=>by
 rw[he i hi (by omega),he j (by omega) hj];exact h i j hi hij hj
theorem Srt.sub {le:α→α→Prop}{l:List α}{a b c d:Nat} (h:Srt le l a b) (h1:a≤c) (h2:d≤b):Srt le l c d:=fun i j hi hij hj=>h i j (by omega) hij (by omega)
theorem Srt.nil {le:α→α→Prop}{l:List α}{a b:Nat} (h:b≤a+1):Srt le l a b:=fun i j hi hij hj=>by omega
def Rot (l l':List α) (a m b:Nat):Prop:=l'.length=l.length∧(∀k,k<a∨b≤k→at_ l' k=at_ l k)∧(∀k,k<b-m→at_ l' (a+k)=at_ l (m+k))∧∀k,k<m-a→at_ l' (a+(b-m)+k)=at_ l (a+k)
theorem at_take (l:List α) (a b k:Nat) (h:k<b-a):at_ ((l.drop a).take (b-a)) k=at_ l (a+k):=by
 rw[at_tk _ h,at_dr]
omit [Inhabited α] in
theorem tp (x:List α) (a b c:Nat) (h1:a≤b) (h2:b≤c):x=x.take a++((x.drop a).take (b-a)++((x.drop b).take (c-b)++x.drop c)):=by
 have e1:x.drop c=(x.drop b).drop (c-b):=by rw[List.drop_drop];congr 1;omega
 have e2:x.drop b=(x.drop a).drop (b-a):=by rw[List.drop_drop];congr 1;omega
 rw[e1,z8X,e2,z8X,z8X]
theorem Rot.pm {l l':List α}{a m b:Nat} (h:Rot l l' a m b) (h1:a≤m) (h2:m≤b) (hb:b≤l.length):Pm l l' a b:=by
 obtain⟨g1,g2,g3,g4⟩:=h;refine⟨?_,g2⟩;have c1:=tp l a m b h1 h2;have c2:=tp l' a (a+(b-m)) b (by omega) (by omega);have e1:l'.take a=l.take a:=ext_at (by simp[g1]) fun i hi=>by
  rw[z9N] at hi;rw[at_tk _ (by omega),at_tk _ (by omega)];exact g2 i (by omega)
 have e2:l'.drop b=l.drop b:=ext_at (by simp[g1]) fun i hi=>by
  rw[at_dr,at_dr];exact g2 (b+i) (by omega)
 have e3:(l'.drop a).take (a+(b-m)-a)=(l.drop m).take (b-m):=ext_at (by simp;omega) fun i hi=>by
  simp at hi;rw[at_take _ _ _ _ (by omega),at_take _ _ _ _ (by omega)];exact g3 i (by omega)
 have e4:(l'.drop (a+(b-m))).take (b-(a+(b-m)))=(l.drop a).take (m-a):=ext_at (by simp;omega) fun i hi=>by
  simp at hi;rw[at_take _ _ _ _ (by omega),at_take _ _ _ _ (by omega)];exact g4 i (by omega)
 rw[c2,c1,e1,e2,e3,e4];refine List.Perm.append_left _ ?_;rw[←z9A,←z9A];exact List.Perm.append_right _ List.perm_append_comm
structure Swp (l l':List α) (a b k:Nat):Prop where
 len:l'.length=l.length
 x:∀i,i<k→at_ l' (a+i)=at_ l (b+i)
 y:∀i,i<k→at_ l' (b+i)=at_ l (a+i)
 z:∀i,(i<a∨a+k≤i)→(i<b∨b+k≤i)→at_ l' i=at_ l i
def swp (l:List α) (i j:Nat):List α:=(l.set i (at_ l j)).set j (at_ l i)
theorem gM (l:List α) (i j:Nat):(swp l i j).length=l.length:=by simp[swp]
theorem at_set (l:List α) (i:Nat) (x:α) (k:Nat):at_ (l.set i x) k=if k=i∧i<l.length then x else at_ l k:=by
 simp only[at_,z91,List.getElem?_set];by_cases h:i=k
 ·subst h;by_cases h2:i<l.length
  ·simp[h2]
  ·simp[h2]
 ·rw[if_neg h,if_neg (fun hh=>h hh.1.symm)]
theorem nY (l:List α){i j:Nat} (hi:i<l.length) (hj:j<l.length) (k:Nat):at_ (swp l i j) k=if k=j then at_ l i else if k=i then at_ l j else at_ l k:=by
 unfold swp;rw[at_set,at_set,z9R];by_cases h1:k=j
 ·rw[if_pos ⟨h1,hj⟩,if_pos h1]
 ·rw[if_neg (fun h=>h1 h.1),if_neg h1];by_cases h2:k=i
  ·rw[if_pos ⟨h2,hi⟩,if_pos h2]
  ·rw[if_neg (fun h=>h2 h.1),if_neg h2]
theorem Swp.rf (l:List α) (a b:Nat):Swp l l a b 0:=⟨rfl,fun i h=>by omega,fun i h=>by omega,fun _ _ _=>rfl⟩
theorem Swp.step {l l':List α}{a b k:Nat} (h:Swp l l' a b k) (hd:a+k<b∨b+k<a) (ha:a+k<l.length) (hb:b+k<l.length) (h1:a+k+1≤b∨b+k+1≤a):Swp l (swp l' (a+k) (b+k)) a b (k+1):=by
 have hl:=h.len;have key:=nY l' (i:=a+k) (j:=b+k) (by omega) (by omega);refine⟨by rw[gM,hl],fun i hi => ?_,fun i hi => ?_,fun i h2 h3 => ?_⟩
 ·rw[key];by_cases e:i=k
  ·subst e;rw[if_neg (by omega),if_pos rfl];exact h.z _ (by omega) (by omega)
  ·rw[if_neg (by omega),if_neg (by omega)];exact h.x i (by omega)
 ·rw[key];by_cases e:i=k
  ·subst e;rw[if_pos rfl];exact h.z _ (by omega) (by omega)
  ·rw[if_neg (by omega),if_neg (by omega)];exact h.y i (by omega)
 ·rw[key,if_neg (by omega),if_neg (by omega)];exact h.z i (by omega) (by omega)
theorem Rot.of_swp {l l':List α}{a m b:Nat} (h:Swp l l' a m (m-a)) (h1:a≤m) (hb:b-m=m-a) (h2:m≤b):Rot l l' a m b:=
 ⟨h.len,fun k hk=>h.z k (by omega) (by omega),fun k hk=>h.x k (by omega),fun k hk=>by
  rw[show a+(b-m)+k=m+k by omega];exact h.y k (by omega)⟩
theorem Rot.gt {l l2 l3:List α}{a m b:Nat} (h:Swp l l2 a m (b-m)) (hl:b-m<m-a) (h2:m≤b) (k:Rot l2 l3 (a+(b-m)) m b):Rot l l3 a m b:=by
 obtain⟨k1,k2,k3,k4⟩:=k;refine⟨k1.trans h.len,fun i hi => ?_,fun i hi => ?_,fun i hi => ?_⟩
 ·rw[k2 i (by omega)];exact h.z i (by omega) (by omega)
 ·rw[k2 _ (by omega)];exact h.x i hi
 ·by_cases g:i<b-m
  ·rw[k3 i g];exact h.y i g
  ·have:=k4 (i-(b-m)) (by omega);rw[show a+(b-m)+(b-m)+(i-(b-m))=a+(b-m)+i by omega] at this;rw[this,show a+(b-m)+(i-(b-m))=a+i by omega];exact h.z _ (by omega) (by omega)
theorem Rot.lt {l l2 l3:List α}{a m b:Nat} (h:Swp l l2 a (b-(m-a)) (m-a)) (hl:m-a<b-m) (h1:a≤m) (k:Rot l2 l3 a m (b-(m-a))):Rot l l3 a m b:=by
 obtain⟨k1,k2,k3,k4⟩:=k;refine⟨k1.trans h.len,fun i hi => ?_,fun i hi => ?_,fun i hi => ?_⟩
 ·rw[k2 i (by omega)];exact h.z i (by omega) (by omega)
 ·by_cases g:i<b-(m-a)-m
  ·rw[k3 i g];exact h.z _ (by omega) (by omega)
  ·have:=k4 (i-(b-(m-a)-m)) (by omega);rw[show a+(b-(m-a)-m)+(i-(b-(m-a)-m))=a+i by omega] at this;rw[this,h.x _ (by omega)];congr 1;omega
 ·rw[k2 _ (by omega),show a+(b-m)+i=b-(m-a)+i by omega];exact h.y i (by omega)
theorem Rot.id {l:List α}{a m b:Nat} (h:m≤a∨b≤m) (h1:a≤m) (h2:m≤b):Rot l l a m b:=by
 refine⟨rfl,fun _ _=>rfl,fun k hk => ?_,fun k hk => ?_⟩
 ·rcases h with h | h
  ·rw[show a=m by omega]
  ·omega
 ·rcases h with h | h
  ·omega
  ·rw[show a+(b-m)+k=a+k by omega]
theorem Rot.up {l l':List α}{a k:Nat} (h:Rot l l' a (a+1) (k+1)) (hk:a≤k) (hl:k+1<l.length):Rot l (swp l' k (k+1)) a (a+1) (k+2):=by
 obtain⟨k1,k2,k3,k4⟩:=h;have key:=nY l' (i:=k) (j:=k+1) (by omega) (by omega);refine⟨by rw[gM,k1],fun i hi => ?_,fun i hi => ?_,fun i hi => ?_⟩
 ·rw[key,if_neg (by omega),if_neg (by omega)];exact k2 i (by omega)
 ·rw[key,if_neg (by omega)];by_cases e:a+i=k
  ·rw[if_pos e,k2 _ (by omega),show k+1=a+1+i by omega]
  ·rw[if_neg e];exact k3 i (by omega)
 ·obtain rfl:i=0:=by omega
  rw[key,if_pos (by omega)];have:=k4 0 (by omega);rw[←this];congr 1;omega
theorem Rot.down {l l':List α}{m k:Nat} (h:Rot l l' (k+1) m (m+1)) (hk:k+1≤m) (hl:m<l.length):Rot l (swp l' (k+1) k) k m (m+1):=by
 obtain⟨k1,k2,k3,k4⟩:=h;have key:=nY l' (i:=k+1) (j:=k) (by omega) (by omega);refine⟨by rw[gM,k1],fun i hi => ?_,fun i hi => ?_,fun i hi => ?_⟩
 ·rw[key,if_neg (by omega),if_neg (by omega)];exact k2 i (by omega)
 ·obtain rfl:i=0:=by omega
  rw[key,if_pos (by omega)];have:=k3 0 (by omega);rw[←this]
 ·rw[key,if_neg (by omega)];by_cases e:i=0
  ·subst e;rw[if_pos (by omega),k2 _ (by omega)];rfl
  ·rw[if_neg (by omega)];have:=k4 (i-1) (by omega);rw[show k+1+(m+1-m)+(i-1)=k+(m+1-m)+i by omega] at this;rw[this];congr 1;omega
structure Ord (le:α→α→Prop):Prop where
 total:∀x y,¬ le x y→le y x
 trans:∀x y z,le x y→le y z→le x z
variable {le:α→α→Prop}
omit [Inhabited α] in
theorem Ord.rf (h:Ord le) (x:α):le x x:=Classical.byContradiction fun hn=>hn (h.total _ _ hn)
structure Ins (le:α→α→Prop) (l l':List α) (i j:Nat):Prop where
 rot:Rot l l' j i (i+1)
 gt:∀k,j≤k→k<i→¬ le (at_ l k) (at_ l i)
theorem Ins.rf (l:List α) (i:Nat):Ins le l l i i:=⟨Rot.id (by omega) (by omega) (by omega),fun k h1 h2=>by omega⟩
theorem Ins.cur {l l':List α}{i j:Nat} (h:Ins le l l' i j):at_ l' j=at_ l i:=h.rot.2.2.1 0 (by omega)
theorem Ins.prev {l l':List α}{i j:Nat} (h:Ins le l l' i (j+1)):at_ l' j=at_ l j:=h.rot.2.1 j (by omega)
theorem Ins.down {l l':List α}{i j:Nat} (h:Ins le l l' i (j+1)) (hj:j+1≤i) (hi:i<l.length) (hc:¬ le (at_ l' j) (at_ l' (j+1))):Ins le l (swp l' (j+1) j) i j:=
 ⟨h.rot.down hj hi,fun k h1 h2=>by
  by_cases e:k=j
  ·subst e;rw[h.cur,h.prev] at hc;exact hc
  ·exact h.gt k (by omega) h2⟩
theorem Ins.done (ho:Ord le){l l':List α}{a i j:Nat} (h:Ins le l l' i j) (ha:a≤j) (hj:j≤i) (hs:Srt le l a i) (hc:j=a∨∃q,j=q+1∧le (at_ l' q) (at_ l' j)):Srt le l' a (i+1):=by
 have hcur:=h.cur;have low:∀k,k<j→at_ l' k=at_ l k:=fun k hk=>h.rot.2.1 k (by omega)
 have up:∀k,j<k→k≤i→at_ l' k=at_ l (k-1):=fun k h1 h2=>by
  have:=h.rot.2.2.2 (k-j-1) (by omega);rw[show j+(i+1-i)+(k-j-1)=k by omega,show j+(k-j-1)=k-1 by omega] at this;exact this
 have hlow:∀k,a≤k→k<j→le (at_ l k) (at_ l i):=fun k h1 h2=>by
  rcases hc with e | ⟨q,e,hq⟩
  ·omega
  ·rw[hcur,low q (by omega)] at hq;by_cases g:k=q
   ·rw[g];exact hq
   ·exact ho.trans _ _ _ (hs k q h1 (by omega) (by omega)) hq
 intro x y h1 h2 h3;by_cases gy:y<j
 ·rw[low x (by omega),low y gy];exact hs x y h1 h2 (by omega)
 ·by_cases ey:y=j
  ·subst ey;rw[low x (by omega),hcur];exact hlow x h1 h2
  ·rw[up y (by omega) (by omega)];by_cases gx:x<j
   ·rw[low x gx];by_cases e:x<y-1
    ·exact hs x (y-1) h1 e (by omega)
    ·omega
   ·by_cases ex:x=j
    ·subst ex;rw[hcur];exact ho.total _ _ (h.gt (y-1) (by omega) (by omega))
    ·rw[up x (by omega) (by omega)];exact hs (x-1) (y-1) (by omega) (by omega) (by omega)
theorem Ins.pm {l l':List α}{a i j b:Nat} (h:Ins le l l' i j) (ha:a≤j) (hj:j≤i) (hi:i<b) (hb:b≤l.length):Pm l l' a b:=(h.rot.pm hj (by omega) (by omega)).mono ha (by omega)
theorem Wy (ho:Ord le){l l':List α}{a i b:Nat} (h:Rot l l' a (a+1) i) (h1:a+1≤i) (h2:i≤b) (hs:Srt le l (a+1) b) (hlo:∀k,a+1≤k→k<i→¬ le (at_ l a) (at_ l k)) (hhi:∀k,i≤k→k<b→le (at_ l a) (at_ l k)):Srt le l' a b:=by
 have e1:∀k,a≤k→k+1<i→at_ l' k=at_ l (k+1):=fun k g1 g2=>by
  have:=h.2.2.1 (k-a) (by omega);rw[show a+(k-a)=k by omega,show a+1+(k-a)=k+1 by omega] at this;exact this
 have e2:∀k,k+1=i→at_ l' k=at_ l a:=fun k g=>by
  have:=h.2.2.2 0 (by omega);rw[show a+(i-(a+1))+0=k by omega] at this;exact this
 have e3:∀k,i≤k→at_ l' k=at_ l k:=fun k g=>h.2.1 k (by omega)
 intro x y g1 g2 g3;by_cases c1:y+1<i
 ·rw[e1 x g1 (by omega),e1 y (by omega) c1];exact hs _ _ (by omega) (by omega) (by omega)
 ·by_cases c2:y+1=i
  ·rw[e2 y c2,e1 x g1 (by omega)];exact ho.total _ _ (hlo _ (by omega) (by omega))
  ·rw[e3 y (by omega)];by_cases d1:x+1<i
   ·rw[e1 x g1 d1];exact hs _ _ (by omega) (by omega) g3
   ·by_cases d2:x+1=i
    ·rw[e2 x d2];exact hhi y (by omega) g3
    ·rw[e3 x (by omega)];exact hs _ _ (by omega) g2 g3
theorem Wz (ho:Ord le){l l':List α}{a i m:Nat} (h:Rot l l' i m (m+1)) (h1:a≤i) (h2:i≤m) (hs:Srt le l a m) (hlo:∀k,a≤k→k<i→le (at_ l k) (at_ l m)) (hhi:∀k,i≤k→k<m→¬ le (at_ l k) (at_ l m)):Srt le l' a (m+1):=by
 have e1:∀k,k<i→at_ l' k=at_ l k:=fun k g=>h.2.1 k (by omega)
 have e2:at_ l' i=at_ l m:=h.2.2.1 0 (by omega);have e3:∀k,i<k→k≤m→at_ l' k=at_ l (k-1):=fun k g1 g2=>by
  have:=h.2.2.2 (k-i-1) (by omega);rw[show i+(m+1-m)+(k-i-1)=k by omega,show i+(k-i-1)=k-1 by omega] at this;exact this
 intro x y g1 g2 g3;by_cases c1:y<i
 ·rw[e1 x (by omega),e1 y c1];exact hs x y g1 g2 (by omega)
 ·by_cases c2:y=i
  ·subst c2;rw[e2,e1 x g2];exact hlo x g1 g2
  ·rw[e3 y (by omega) (by omega)];by_cases d1:x<i
   ·rw[e1 x d1];exact hs _ _ g1 (by omega) (by omega)
   ·by_cases d2:x=i
    ·subst d2;rw[e2];exact ho.total _ _ (hhi _ (by omega) (by omega))
    ·rw[e3 x (by omega) (by omega)];exact hs _ _ (by omega) (by omega) (by omega)
structure Cut (le:α→α→Prop) (l:List α) (n s0 s r0:Nat):Prop where
 lo:∀c,s0≤c→c<s→le (at_ l c) (at_ l (n-1-c))
 hi:∀c,s≤c→c<r0→¬ le (at_ l c) (at_ l (n-1-c))
theorem WA {l l2:List α}{s m e mid:Nat} (h:Rot l l2 s m e) (hse:e-m+s=mid) (h2:s≤m) (h3:m≤e) :
  (∀k,k<s→at_ l2 k=at_ l k)∧(∀k,e≤k→at_ l2 k=at_ l k)∧(∀k,s≤k→k<mid→at_ l2 k=at_ l (m+(k-s)))∧∀k,mid≤k→k<e→at_ l2 k=at_ l (s+(k-mid)):=by
 refine⟨fun k hk=>h.2.1 k (by omega),fun k hk=>h.2.1 k (by omega),fun k g1 g2 => ?_,fun k g1 g2 => ?_⟩
 ·have:=h.2.2.1 (k-s) (by omega);rw[show s+(k-s)=k by omega] at this;exact this
 ·have:=h.2.2.2 (k-mid) (by omega);rw[show s+(e-m)+(k-mid)=k by omega] at this;exact this
theorem WB (ho:Ord le){l l2:List α}{a m b mid n s e s0 r0:Nat} (hs1:Srt le l a m) (hs2:Srt le l m b) (hn:n=mid+m) (he:e+s=n) (hr:Rot l l2 s m e) (hc:Cut le l n s0 s r0)
  (h0:s0≤s) (h1:s≤r0) (ha:a≤s) (hsm:s≤m) (hme:m≤e) (heb:e≤b) (k1:s=s0→s=a∨e=b) (k2:s=r0→s=m∨e=m) :
  Srt le l2 a s∧Srt le l2 s mid∧Srt le l2 mid e∧Srt le l2 e b∧∀i j,a≤i→i<mid→mid≤j→j<b→le (at_ l2 i) (at_ l2 j):=by
 obtain⟨p1,p2,p3,p4⟩:=WA (mid:=mid) hr (by omega) hsm hme;refine⟨fun i j g1 g2 g3 => ?_,fun i j g1 g2 g3 => ?_,fun i j g1 g2 g3 => ?_,fun i j g1 g2 g3 => ?_,fun i j g1 g2 g3 g4 => ?_⟩
 ·rw[p1 i (by omega),p1 j g3];exact hs1 i j g1 g2 (by omega)
 ·rw[p3 i g1 (by omega),p3 j (by omega) g3];exact hs2 _ _ (by omega) (by omega) (by omega)
 ·rw[p4 i g1 (by omega),p4 j (by omega) g3];exact hs1 _ _ (by omega) (by omega) (by omega)
 ·rw[p2 i g1,p2 j (by omega)];exact hs2 i j (by omega) g2 g3
 ·have A1:∀x y,a≤x→x<s→e≤y→y<b→le (at_ l x) (at_ l y):=fun x y q1 q2 q3 q4=>by
   by_cases z:s=s0
   ·rcases k1 z with z | z<;>omega
   have q5:=hc.lo (s-1) (by omega) (by omega);rw[show n-1-(s-1)=e by omega] at q5;have q6:le (at_ l x) (at_ l (s-1)):=by
    by_cases z2:x=s-1
    ·rw[z2];exact ho.rf _
    ·exact hs1 _ _ q1 (by omega) (by omega)
   have q7:le (at_ l e) (at_ l y):=by
    by_cases z2:y=e
    ·rw[z2];exact ho.rf _
    ·exact hs2 _ _ (by omega) (by omega) q4
   exact ho.trans _ _ _ q6 (ho.trans _ _ _ q5 q7)
  have A2:∀x y,m≤x→x<e→s≤y→y<m→le (at_ l x) (at_ l y):=fun x y q1 q2 q3 q4=>by
   by_cases z:s=r0
   ·rcases k2 z with z | z<;>omega
   have q5:=ho.total _ _ (hc.hi s (by omega) (by omega));rw[show n-1-s=e-1 by omega] at q5;have q6:le (at_ l x) (at_ l (e-1)):=by
    by_cases z2:x=e-1
    ·rw[z2];exact ho.rf _
    ·exact hs2 _ _ q1 (by omega) (by omega)
   have q7:le (at_ l s) (at_ l y):=by
    by_cases z2:y=s
    ·rw[z2];exact ho.rf _
    ·exact hs1 _ _ (by omega) (by omega) q4
   exact ho.trans _ _ _ q6 (ho.trans _ _ _ q5 q7)
  by_cases c1:i<s
  ·rw[p1 i c1];by_cases c2:j<e
   ·rw[p4 j g3 c2];exact hs1 _ _ g1 (by omega) (by omega)
   ·rw[p2 j (by omega)];exact A1 i j g1 c1 (by omega) g4
  ·rw[p3 i (by omega) g2];by_cases c2:j<e
   ·rw[p4 j g3 c2];exact A2 _ _ (by omega) (by omega) (by omega) (by omega)
   ·rw[p2 j (by omega)];exact hs2 _ _ (by omega) (by omega) g4
theorem WC {l2 l3 l4:List α}{a mid b:Nat} (hb:b≤l2.length) (h1:a≤mid) (h2:mid≤b) (hx:∀i j,a≤i→i<mid→mid≤j→j<b→le (at_ l2 i) (at_ l2 j))
  (s3:Srt le l3 a mid) (p3:Pm l2 l3 a mid) (s4:Srt le l4 mid b) (p4:Pm l3 l4 mid b):Srt le l4 a b∧Pm l2 l4 a b:=by
 have e3:=p3.len;refine⟨Srt.join (s3.congr fun i g1 g2=>p4.out i (by omega)) s4 fun i j g1 g2 g3 g4 => ?_,(p3.mono (by omega) (by omega)).tr (p4.mono (by omega) (by omega))⟩;rw[p4.out i (by omega)];obtain⟨x,q1,q2,q3⟩:=p3.from h1 (by omega) g1 g2;obtain⟨y,r1,r2,r3⟩:=p4.from h2 (by omega) g3 g4;rw[q3,r3,p3.out y (by omega)];exact hx x y q1 q2 r1 r2
theorem WD (ho:Ord le){l:List α}{a m b n c d:Nat} (hs1:Srt le l a m) (hs2:Srt le l m b) (ha:a≤d) (hd:d≤c) (hc:c<m) (hn:m≤n-1-c) (hn2:n-1-d<b) (h:le (at_ l c) (at_ l (n-1-c))):le (at_ l d) (at_ l (n-1-d)):=by
 by_cases e:d=c
 ·rw[e];exact h
 ·exact ho.trans _ _ _ (hs1 d c ha (by omega) hc) (ho.trans _ _ _ h (hs2 _ _ hn (by omega) hn2))
def Blk (le:α→α→Prop) (l:List α) (n s:Nat):Prop:=∀q,Srt le l (q*s) (min (q*s+s) n)
def ed (le:α→α→Prop) (l:List α) (n s q:Nat):Prop:=∀k,k<q→Srt le l (k*s) (min (k*s+s) n)
theorem mul_step {k q s:Nat} (h:k<q):k*s+s≤q*s:=by
 have:=z92 s (show k+1≤q by omega);rw[z9F,Nat.one_mul] at this;exact this
theorem ed.next {l l':List α}{n s q:Nat} (h:ed le l n s q) (hs:Srt le l' (q*s) (min (q*s+s) n)) (hp:∀i,i<q*s→at_ l' i=at_ l i):ed le l' n s (q+1):=fun k hk=>by
 by_cases e:k=q
 ·rw[e];exact hs
 ·refine (h k (by omega)).congr fun i _ h2=>hp i ?_
  have:=mul_step (s:=s) (show k<q by omega);omega
theorem ed.all {l:List α}{n s q:Nat} (h:ed le l n s q) (hn:n≤q*s):Blk le l n s:=fun k=>by
 by_cases e:k<q
 ·exact h k e
 ·refine Srt.nil ?_;have:=z92 s (show q≤k by omega);omega
theorem Blk.whole {l:List α}{n s:Nat} (h:Blk le l n s) (hn:n≤s):Srt le l 0 n:=(h 0).sub (by omega) (by omega)
structure Dbl (le:α→α→Prop) (l:List α) (n s q:Nat):Prop where
 lo:ed le l n (2*s) q
 hi:∀k,q*2≤k→Srt le l (k*s) (min (k*s+s) n)
theorem Dbl.of {l:List α}{n s:Nat} (h:Blk le l n s):Dbl le l n s 0:=⟨fun k hk=>by omega,fun k _=>h k⟩
theorem Dbl.left {l:List α}{n s q:Nat} (h:Dbl le l n s q) (hb:q*(2*s)+s≤n):Srt le l (q*(2*s)) (q*(2*s)+s):=by
 have:=h.hi (q*2) (by omega);rw[Nat.mul_assoc] at this;exact this.sub (by omega) (by omega)
theorem Dbl.right {l:List α}{n s q b:Nat} (h:Dbl le l n s q) (h1:b≤q*(2*s)+2*s) (h2:b≤n):Srt le l (q*(2*s)+s) b:=by
 have:=h.hi (q*2+1) (by omega);rw[z9F,Nat.mul_assoc,Nat.one_mul] at this;exact this.sub (by omega) (by omega)
theorem Dbl.next {l l':List α}{n s q:Nat} (h:Dbl le l n s q) (hs:Srt le l' (q*(2*s)) (min (q*(2*s)+2*s) n)) (hp:∀i,i<q*(2*s)∨min (q*(2*s)+2*s) n≤i→at_ l' i=at_ l i):Dbl le l' n s (q+1):=by
 refine⟨h.lo.next hs fun i hi=>hp i (.inl hi),fun k hk => ?_⟩;have e:=z92 s hk;rw[show (q+1)*2*s=q*(2*s)+2*s by rw[Nat.mul_assoc,z9F,Nat.one_mul]] at e;exact (h.hi k (by omega)).congr fun i g1 g2=>hp i (by omega)
theorem Dbl.done {l:List α}{n s q:Nat} (h:Dbl le l n s q) (h1:n<q*(2*s)+2*s) (h2:n≤q*(2*s)+s):Blk le l n (2*s):=by
 have:Dbl le l n s (q+1):=by
  refine h.next (?_) fun _ _=>rfl
  have:=h.hi (q*2) (by omega);rw[Nat.mul_assoc] at this;exact this.sub (by omega) (by omega)
 refine this.lo.all ?_;rw[z9F,Nat.one_mul];omega
end Go.Proofs.YtbnhgnhgbhjkcaaGreat.Sy
namespace Go.Proofs.YtbnhgnhgbhjkcaaGreat.M
set_option linter.unusedSimpArgs false
open Go.RowKit
inductive AV where
 |und
 |p (d:D)
 |agg (l:List AV)
 |tup (l:List AV)
 |nils (T:TypeId) (sz:Nat)
 |slice (id off len:Nat)
 |ptr (id i off:Nat)
 |arr (id off len:Nat)
 deriving Inhabited
inductive Cont where
 |row (l:List D)
 |box (v:AV)
 |junk
structure AObj where
 T:TypeId
 sz:Nat
 cont:Cont
 frz:Bool
abbrev Mem:=Nat→Option AObj
def upd {α:Type} (f:Nat→α) (i:Nat) (v:α):Nat→α:=fun j=>if j=i then v else f j
theorem aD {α:Type} (f:Nat→α) (i:Nat) (v:α):upd f i v i=v:=by simp[upd]
theorem aC {α:Type} (f:Nat→α){i j:Nat} (v:α) (h:j≠i):upd f i v j=f j:=by simp[upd,h]
theorem lh {α:Type} (f:Nat→α){i j:Nat} (v u:α) (h:i≠j):upd (upd f i v) j u=upd (upd f j u) i v:=by
 funext k
 unfold upd;by_cases h1:k=i<;>by_cases h2:k=j<;>simp_all
structure St where
 r:Nat→AV
 m:Mem
structure Loc where
 b:Nat
 o:Nat
 n:Nat
 sz:Nat
 nil:Bool
abbrev aX:=Nat→Option Loc
def AV.cells:AV→List AV
 |.p d=>d.cells.map .p
 |.agg l=>l
 |v=>[v]
def AV.one:AV→Bool
 |.p d=>d.one
 |.nils .. | .slice .. | .ptr .. | .arr .. => true
 |_=>false
def AV.isAgg:AV→Option Bool
 |.p d=>some d.isAgg
 |.agg _=>some true
 |.und=>none
 |_=>some false
inductive RV (w:World) (N:Nat→Prop) (loc:aX):Value→AV→Prop where
 |und (v:Value):RV w N loc v .und
 |p (v:Value) (d:D):V w N v d→RV w N loc v (.p d)
 |agg (cs:Array Value) (l:List AV):cs.size=l.length→(∀d∈l,d.one=true)→(∀i d,l[i]? = some d→RV w N loc (cs.getD i undef) d)→RV w N loc (.agg cs) (.agg l)
 |tup (cs:Array Value) (l:List AV):cs.size=l.length→(∀i d,l[i]? = some d→RV w N loc (cs.getD i undef) d)→RV w N loc (.tuple cs) (.tup l)
 |nils (T:TypeId) (sz:Nat):RV w N loc (.slice none 0 0) (.nils T sz)
 |slice (L:Loc) (id off len cap:Nat):loc id=some L→L.nil=false→len≤cap→cap≤9223372036854775807→L.o+(off*L.sz+cap*L.sz)≤L.n →
   RV w N loc (.slice (some ⟨L.b,L.o+off*L.sz,none⟩) len cap) (.slice id off len)
 |sliceEmp (L:Loc) (id off:Nat) (p:Option Addr):loc id=some L→RV w N loc (.slice p 0 0) (.slice id off 0)
 |arr (L:Loc) (id off len cap:Nat):loc id=some L→L.nil=false→len≤cap→cap≤9223372036854775807→L.o+(off+cap)≤L.n→RV w N loc (.slice (some ⟨L.b,L.o+off,none⟩) len cap) (.arr id off len)
 |arrEmp (L:Loc) (id off:Nat) (p:Option Addr):loc id=some L→RV w N loc (.slice p 0 0) (.arr id off 0)
 |ptr (L:Loc) (id i off:Nat):loc id=some L→L.nil=false→RV w N loc (.pointer (some ⟨L.b,L.o+(i*L.sz+off),none⟩)) (.ptr id i off)
theorem RV.mono {w w':World}{N N':Nat→Prop}{loc loc':aX}{v:Value}{d:AV} (h:RV w N loc v d) (hs:∀b,N b→w'.heap[b]? = w.heap[b]?) (hn:∀b,N b→N' b)
  (hl:∀id L,loc id=some L→loc' id=some L):RV w' N' loc' v d:=by
 induction h with
 |und v=>exact .und v
 |p v d h=>exact .p v d (h.mono hs hn)
 |agg cs l h1 h2 _ ih=>exact .agg cs l h1 h2 ih
 |tup cs l h1 _ ih=>exact .tup cs l h1 ih
 |nils T sz=>exact .nils T sz
 |slice L id off len cap h1 h2 h3 h4 h5=>exact .slice L id off len cap (hl _ _ h1) h2 h3 h4 h5
 |sliceEmp L id off p h1=>exact .sliceEmp L id off p (hl _ _ h1)
 |arr L id off len cap h1 h2 h3 h4 h5=>exact .arr L id off len cap (hl _ _ h1) h2 h3 h4 h5
 |arrEmp L id off p h1=>exact .arrEmp L id off p (hl _ _ h1)
 |ptr L id i off h1 h2=>exact .ptr L id i off (hl _ _ h1) h2
theorem RV.one {w:World}{N:Nat→Prop}{loc:aX}{v:Value}{d:AV} (h:RV w N loc v d) (ho:d.one=true):v.oneCell'=true:=by
 cases h with
 |p v d h=>exact h.one ho
 |_=>first | rfl | simp[AV.one] at ho
theorem RV.cells {w:World}{N:Nat→Prop}{loc:aX}{v:Value}{d:AV} (h:RV w N loc v d) (ho:∀e∈d.cells,e.one=true) :
  v.cells.size=d.cells.length∧∀i e,d.cells[i]? = some e→RV w N loc (v.cells.getD i undef) e:=by
 cases h with
 |und=>simp[AV.cells,AV.one] at ho
 |tup=>simp[AV.cells,AV.one] at ho
 |p v d h =>
  have ht:∀l,d≠.tup l:=by rintro l rfl;simp[AV.cells,D.cells,AV.one,D.one] at ho
  obtain⟨h1,h2⟩:=h.cells ht;refine⟨by simpa[AV.cells] using h1,fun i e he => ?_⟩;simp only[AV.cells,z9B,z94] at he;obtain⟨x,hx,rfl⟩:=he;exact .p _ _ (h2 i x hx).2
 |agg cs l h1 h2 h3=>exact⟨h1,h3⟩
 |_ =>
  refine⟨rfl,fun i e he => ?_⟩
  match i,he with
  |0,he =>
   simp only[AV.cells,List.getElem?_cons_zero,z99] at he;subst he;simp only[Value.cells,z9Y,List.getElem?_toArray,List.getElem?_cons_zero,Option.getD_some];first
    |exact .nils _ _
    |exact .slice _ _ _ _ _ ‹_› ‹_› ‹_› ‹_› ‹_›
    |exact .sliceEmp _ _ _ _ ‹_›
    |exact .arr _ _ _ _ _ ‹_› ‹_› ‹_› ‹_› ‹_›
    |exact .arrEmp _ _ _ _ ‹_›
    |exact .ptr _ _ _ _ ‹_› ‹_›
  |i+1,he=>simp[AV.cells] at he
def aF:Nat:=999999
structure Bs where
 own:Nat→Prop
 L0:Option Loc
def Bs.lent (B:Bs) (b:Nat):Prop:=∃L,B.L0=some L∧L.b=b
structure ExtL (B:Bs) (w w':World):Prop where
 os:w'.os=w.os
 tape:w'.tape=w.tape
 output:w'.output=w.output
 size:w.heap.size≤w'.heap.size
 block:∀k,k<w.heap.size→¬ B.lent k→w'.heap[k]? = w.heap[k]?
 lentB:∀(k:Nat) (c:Array Value) (T:TypeId) (fr:Nat×Nat),w.heap[k]? = some (.cells c T fr)→∃c':Array Value,c'.size=c.size∧w'.heap[k]? = some (.cells c' T fr)
 lentT:∀(k:Nat) (c:Array Value) (T:TypeId) (fr:Nat×Nat),k<w.heap.size→w'.heap[k]? = some (.cells c T fr)→∃c':Array Value,c'.size=c.size∧w.heap[k]? = some (.cells c' T fr)
theorem n6 {w:World}{k:Nat}{x:Obj} (h:w.heap[k]? = some x):k<w.heap.size:=by
 rcases z8V k w.heap.size with hlt | hge
 ·exact hlt
 ·rw[Array.getElem?_eq_none hge] at h;cases h
theorem ExtL.rf (B:Bs) (w:World):ExtL B w w:=⟨rfl,rfl,rfl,z95 _,fun _ _ _=>rfl,fun _ c _ _ h=>⟨c,rfl,h⟩,fun _ c _ _ _ h=>⟨c,rfl,h⟩⟩
theorem ExtL.tr {B:Bs}{a b c:World} (h:ExtL B a b) (k:Ext b c):ExtL B a c:=
 ⟨k.os.trans h.os,k.tape.trans h.tape,k.output.trans h.output,z9E h.size k.size,fun i hi hl=>(k.block i (z9n hi h.size)).trans (h.block i hi hl),
  fun i c0 T fr hc=>by
   obtain⟨c',h1,h2⟩:=h.lentB i c0 T fr hc;exact⟨c',h1,(k.block i (n6 h2)).trans h2⟩,
  fun i c0 T fr hi hc=>h.lentT i c0 T fr hi (by rw[←k.block i (z9n hi h.size)];exact hc)⟩
theorem ExtL.ext {B:Bs}{a b:World} (h:ExtL B a b) (h0:B.L0=none):Ext a b:=
 ⟨h.os,h.tape,h.output,h.size,fun k hk=>h.block k hk (by rintro⟨L,hL,_⟩;rw[h0] at hL;cases hL)⟩
def cV (M:Mem) (loc:aX) (b:Nat):Prop:=∃id o L,M id=some o∧o.frz=false∧loc id=some L∧L.nil=false∧L.b=b
def NB (base:Bs) (M:Mem) (loc:aX) (w:World) (b:Nat):Prop:=b<w.heap.size∧¬ base.own b∧¬ cV M loc b
def bF (w:World) (N:Nat→Prop) (loc:aX) (c:Array Value) (o sz:Nat):Cont→Prop
 |.row l=>o+l.length*sz≤c.size∧(∀e∈l,e.cells.length=sz)∧(∀i e j d,l[i]? = some e→e.cells[j]? = some d→d.one=true∧V w N (c.getD (o+(i*sz+j)) undef) d)
 |.junk=>o+sz≤c.size
 |.box v=>o+sz≤c.size∧v.cells.length=sz∧(∀e∈v.cells,e.one=true)∧(∀j d,v.cells[j]? = some d→RV w N loc (c.getD (o+j) undef) d)
structure ObjOk (w0:World) (base:Bs) (M:Mem) (loc:aX) (w:World) (o:AObj) (L:Loc):Prop where
 sz:L.sz=o.sz
 nil:L.nil=true→o.cont = .row []
 at_:L.nil=false→∃c fr,w.heap[L.b]? = some (.cells c o.T fr)∧c.size=L.n∧bF w (NB base M loc w) loc c L.o o.sz o.cont ∧
  (o.frz=false→(w0.heap.size≤L.b∨base.lent L.b)∧∀x,x<L.n→(decide (fr.1≤x)&&decide (x<fr.2))=false)∧(o.frz=true→NB base M loc w L.b)
def dw (base:Bs) (m:Mem) (loc:aX):Prop:=∀L,base.L0=some L→loc aF=some L∧base.own L.b∧L.nil=false∧∃o,m aF=some o∧o.frz=false
theorem dw.none_ {base:Bs} (h:base.L0=none) (m:Mem) (loc:aX):dw base m loc:=fun L hL=>by rw[h] at hL;cases hL
theorem dw.turn {base:Bs}{m m':Mem}{loc loc':aX} (h:dw base m loc) (hm:∀o,m aF=some o→o.frz=false→∃o',m' aF=some o'∧o'.frz=false) (hl:m aF≠none→loc' aF=loc aF):dw base m' loc':=fun L hL=>by
 obtain⟨h1,h2,h3,o,h4,h5⟩:=h L hL;exact⟨(hl (by rw[h4];simp)).trans h1,h2,h3,hm o h4 h5⟩
theorem dw.put {base:Bs}{m:Mem}{loc:aX} (h:dw base m loc){i:Nat}{x:Option AObj} (hx:i=aF→∃o,x=some o∧o.frz=false):dw base (upd m i x) loc:=
 h.turn (fun o h1 h2=>by
  by_cases e:aF=i
  ·obtain⟨o',e1,e2⟩:=hx e.symm;exact⟨o',by rw[e,aD,e1],e2⟩
  ·exact⟨o,by rw[aC _ _ e];exact h1,h2⟩) (fun _=>rfl)
theorem dw.new {base:Bs}{m:Mem}{loc:aX} (h:dw base m loc){i:Nat} (hi:m i=none) (x:Option AObj) (y:Option Loc):dw base (upd m i x) (upd loc i y):=
 h.turn (fun o h1 h2=>by
  have e:aF≠i:=by rintro rfl;rw[hi] at h1;cases h1
  exact⟨o,by rw[aC _ _ e];exact h1,h2⟩) (fun h1=>by
  have e:aF≠i:=by rintro rfl;exact h1 hi
  exact aC _ _ e)
structure Rel (w0:World) (base:Bs) (nt:Nat) (loc:aX) (s:St) (a:Act) (w:World):Prop where
 ext:ExtL base w0 w
 defers:a.defers=[]
 size:a.tmps.size=nt
 low:∀b,base.own b→b<w0.heap.size
 dom:∀id,s.m id=none→loc id=none
 tmps:∀t,RV w (NB base s.m loc w) loc (a.tmps.getD t undef) (s.r t)
 objs:∀id o,s.m id=some o→∃L,loc id=some L∧ObjOk w0 base s.m loc w o L
 inj:∀id id' o o' L L',s.m id=some o→s.m id'=some o'→o.frz=false→loc id=some L→loc id'=some L'→L.nil=false→L'.nil=false→L.b=L'.b→id=id'
 keepL:dw base s.m loc
section
variable {w0:World}{base:Bs}{nt:Nat}{loc:aX}{s:St}{a:Act}{w:World}
theorem Rel.put (h:Rel w0 base nt loc s a w){t:Nat} (ht:t<nt){v:Value}{d:AV} (hv:RV w (NB base s.m loc w) loc v d) :
  Rel w0 base nt loc ⟨upd s.r t d,s.m⟩ (a.put (some t) v) w:=by
 refine⟨h.ext,h.defers,by simp[Act.put,h.size],h.low,h.dom,fun u => ?_,h.objs,h.inj,h.keepL⟩;by_cases hu:u=t
 ·subst hu;simp only[aD,Act.put,z9Y,Array.getElem?_setIfInBounds_self,h.size,ht,if_true,Option.getD_some];exact hv
 ·have hu':t≠u:=fun e=>hu e.symm
  simp only[aC _ _ hu,Act.put,z9Y,Array.getElem?_setIfInBounds_ne hu'];have:=h.tmps u
  rwa[z9Y] at this
theorem bF.mono {w w':World}{N N':Nat→Prop}{loc loc':aX}{c:Array Value}{o sz:Nat}{k:Cont} (h:bF w N loc c o sz k) (hs:∀b,N b→w'.heap[b]? = w.heap[b]?) (hn:∀b,N b→N' b)
  (hl:∀id L,loc id=some L→loc' id=some L):bF w' N' loc' c o sz k:=by
 cases k with
 |row l=>exact⟨h.1,h.2.1,fun i e j d h1 h2=>⟨(h.2.2 i e j d h1 h2).1,(h.2.2 i e j d h1 h2).2.mono hs hn⟩⟩
 |box v=>exact⟨h.1,h.2.1,h.2.2.1,fun j d h1=>(h.2.2.2 j d h1).mono hs hn hl⟩
 |junk=>exact h
theorem Rel.later (h:Rel w0 base nt loc s a w){w':World} (he:Ext w w'):Rel w0 base nt loc s a w':=by
 have hs:∀b,NB base s.m loc w b→w'.heap[b]? = w.heap[b]?:=fun b hb=>he.block b hb.1
 have hn:∀b,NB base s.m loc w b→NB base s.m loc w' b:=fun b hb=>⟨z9n hb.1 he.size,hb.2⟩
 refine⟨h.ext.tr he,h.defers,h.size,h.low,h.dom,fun t=>(h.tmps t).mono hs hn (fun _ _ x=>x),fun id o ho => ?_,h.inj,h.keepL⟩;obtain⟨L,hL,hok⟩:=h.objs id o ho;refine⟨L,hL,hok.sz,hok.nil,fun hnil => ?_⟩;obtain⟨c,fr,h1,h2,h3,h4,h5⟩:=hok.at_ hnil;have hlt:L.b<w.heap.size:=by
  rcases z8V L.b w.heap.size with hlt | hge
  ·exact hlt
  ·rw[Array.getElem?_eq_none hge] at h1;cases h1
 exact⟨c,fr,(he.block _ hlt).trans h1,h2,h3.mono hs hn (fun _ _ x=>x),h4,fun hf=>hn _ (h5 hf)⟩
theorem Rel.obj_lt (h:Rel w0 base nt loc s a w){id:Nat}{o:AObj}{L:Loc} (ho:s.m id=some o) (hL:loc id=some L) (hn:L.nil=false):L.b<w.heap.size:=by
 obtain⟨L',hL',hok⟩:=h.objs id o ho;rw[hL] at hL';cases hL';obtain⟨c,fr,h1,_⟩:=hok.at_ hn;rcases z8V L.b w.heap.size with hlt | hge
 ·exact hlt
 ·rw[Array.getElem?_eq_none hge] at h1;cases h1
theorem Rel.allocM (h:Rel w0 base nt loc s a w){id:Nat} (hid:s.m id=none){T:TypeId}{sz:Nat}{k:Cont}{c:Array Value}{fr:Nat×Nat}
  (hfr:∀x,x<c.size→(decide (fr.1≤x)&&decide (x<fr.2))=false) (hk:bF w (NB base s.m loc w) loc c 0 sz k) :
  ∃loc',loc' id=some ⟨w.heap.size,0,c.size,sz,false⟩∧Rel w0 base nt loc' ⟨s.r,upd s.m id (some ⟨T,sz,k,false⟩)⟩ a (w.alloc (.cells c T fr)):=by
 have hloc:=h.dom id hid;refine⟨upd loc id (some ⟨w.heap.size,0,c.size,sz,false⟩),aD _ _ _,?_⟩;have hl:∀i L,loc i=some L→upd loc id (some ⟨w.heap.size,0,c.size,sz,false⟩) i=some L:=fun i L hi=>by
  rw[aC];exact hi;rintro rfl;rw[hloc] at hi;cases hi
 have hext:Ext w (w.alloc (.cells c T fr)):=(Below.refl _ _).alloc (z95 _) _;have hs:∀b,NB base s.m loc w b→(w.alloc (.cells c T fr)).heap[b]? = w.heap[b]?:=fun b hb=>hext.block b hb.1
 have hn:∀b,NB base s.m loc w b→NB base (upd s.m id (some ⟨T,sz,k,false⟩)) (upd loc id (some ⟨w.heap.size,0,c.size,sz,false⟩)) (w.alloc (.cells c T fr)) b:=by
  rintro b ⟨h1,h2,h3⟩;refine⟨by simp;omega,h2,?_⟩;rintro⟨i,o,L,ho,hf,hL,hnil,hb⟩;by_cases hi:i=id
  ·subst hi;rw[aD] at hL;cases hL;simp at hb;omega
  ·rw[aC _ _ hi] at ho hL;exact h3 ⟨i,o,L,ho,hf,hL,hnil,hb⟩
 refine⟨h.ext.tr hext,h.defers,h.size,h.low,?_,fun t=>(h.tmps t).mono hs hn hl,?_,?_,h.keepL.new hid _ _⟩
 ·intro i hi;dsimp only at hi;by_cases e:i=id
  ·subst e;rw[aD] at hi;cases hi
  ·rw[aC _ _ e] at hi ⊢;exact h.dom i hi
 ·intro i o ho;dsimp only at ho;by_cases e:i=id
  ·subst e;rw[aD] at ho;cases ho;refine⟨_,aD _ _ _,rfl,by simp,fun _=>⟨c,fr,heap_alloc_new w _,rfl,hk.mono hs hn hl,fun _=>⟨.inl h.ext.size,?_⟩,by simp⟩⟩;exact hfr
  ·rw[aC _ _ e] at ho;obtain⟨L,hL,hok⟩:=h.objs i o ho;refine⟨L,hl i L hL,hok.sz,hok.nil,fun hnil => ?_⟩;obtain⟨c',fr,h1,h2,h3,h4,h5⟩:=hok.at_ hnil;have hlt:=h.obj_lt ho hL hnil;exact⟨c',fr,(hext.block _ hlt).trans h1,h2,h3.mono hs hn hl,h4,fun hf=>hn _ (h5 hf)⟩
 ·intro i i' o o' L L' ho ho' hf hL hL' hnil hnil' hb;dsimp only at ho ho';by_cases e:i=id
  ·subst e;rw[aD] at hL;cases hL;by_cases e':i'=i
   ·exact e'.symm
   ·rw[aC _ _ e'] at ho' hL';have:=h.obj_lt ho' hL' hnil';simp at hb;omega
  ·rw[aC _ _ e] at ho hL;by_cases e':i'=id
   ·subst e';rw[aD] at hL';cases hL';have:=h.obj_lt ho hL hnil;simp at hb;omega
   ·rw[aC _ _ e'] at ho' hL';exact h.inj i i' o o' L L' ho ho' hf hL hL' hnil hnil' hb
theorem Rel.alloc (h:Rel w0 base nt loc s a w){id:Nat} (hid:s.m id=none){T:TypeId}{sz:Nat}{k:Cont}{c:Array Value}
  (hk:bF w (NB base s.m loc w) loc c 0 sz k) :
  ∃loc',loc' id=some ⟨w.heap.size,0,c.size,sz,false⟩∧Rel w0 base nt loc' ⟨s.r,upd s.m id (some ⟨T,sz,k,false⟩)⟩ a (w.alloc (.cells c T)):=
 h.allocM hid (fr:=(0,0)) (fun x _=>by simp) hk
end
end Go.Proofs.YtbnhgnhgbhjkcaaGreat.M
