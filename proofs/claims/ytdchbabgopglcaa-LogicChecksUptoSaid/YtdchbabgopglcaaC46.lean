/- Lemmas. -/
import Derived.Test.YtdchbabgopglcaaC45
set_option linter.defProp false
set_option linter.unusedSectionVars false
set_option linter.unusedSimpArgs false
set_option linter.unusedVariables false
namespace Go.Proofs.Ytdchbabgopglcaa.M
open Go.RowKit
set_option maxRecDepth 20000
set_option maxHeartbeats 1000000
def frn (x:Nd) (v:Int):Bool:=decide (v∈snF x.1)&&!decide (v∈x.2)
def frb (L:List Nd) (v:Int):Bool:=L.any fun x=>frn x v
def frL (L:List Nd):Nat→List Int
 |0=>[]
 |v+1=>if frb L v=true then frL L v++[(v:Int)] else frL L v
theorem ju (L:List Nd):∀v,(frL L v).length≤v
 |0=>Nat.le_refl _
 |v+1=>by
  have:=ju L v;rw[frL];split
  ·rw[List.length_append,List.length_singleton];omega
  ·omega
theorem ig (L:List Nd) (u:Int):∀v,u∈frL L v↔0≤u∧u<v∧frb L u=true
 |0=>by rw[frL];simp;omega
 |v+1=>by
  have ih:=ig L u v;rw[frL];split
  ·rename_i h;rw[List.mem_append,ih,List.mem_singleton];constructor
   ·rintro (⟨a,b,c⟩ | rfl)
    ·exact⟨a,by omega,c⟩
    ·exact⟨by omega,by omega,h⟩
   ·rintro⟨a,b,c⟩;by_cases hu:u=v
    ·exact .inr hu
    ·exact .inl ⟨a,by omega,c⟩
  ·rename_i h;rw[ih];constructor
   ·rintro⟨a,b,c⟩;exact⟨a,by omega,c⟩
   ·rintro⟨a,b,c⟩;refine⟨a,?_,c⟩;have:u≠v:=fun e=>h (e ▸ c)
    omega
def frM:List Nd→Nat→Nat
 |[],m=>m
 |x::L,m=>frM L (a6 .or m (a6 .andNot (stF x.1) (msk x.2)))
theorem kW {a b:Nat} (h:a<16) (hb:b<16):a6 .andNot a b<16:=by
 show a ^^^ (a &&& b)<2^4
 exact Nat.xor_lt_two_pow h (Nat.lt_of_le_of_lt Nat.and_le_left h)
theorem oy {a b:Nat} (h:a<16) (hb:b<16):a6 .or a b<16:=by
 show a ||| b<2^4
 exact Nat.or_lt_two_pow h hb
theorem oz:∀(L:List Nd){m:Nat},m<16→frM L m<16
 |[],m,h=>h
 |x::L,m,h=>oz L (oy h (kW (ja x.1).1 (kg x.2).1))
theorem oA (j:Nat) (hj:j<4):∀(L:List Nd) (m:Nat),(frM L m).testBit j=(m.testBit j||frb L j)
 |[],m=>by simp[frM,frb]
 |x::L,m=>by
  rw[frM,oA j hj L];show ((m ||| a6 .andNot (stF x.1) (msk x.2)).testBit j||_)=_
  rw[Nat.testBit_or,Bool.or_assoc];congr 1
  show (_||frb L j)=(frn x j||frb L j)
  congr 1
  show (stF x.1 ^^^ (stF x.1 &&& msk x.2)).testBit j=_
  simp only[Nat.testBit_xor,Nat.testBit_and,(ja x.1).2 j hj,(kg x.2).2 j hj,frn];cases decide ((j:Int)∈snF x.1)<;>cases decide ((j:Int)∈x.2)<;>rfl
theorem EK (L:List Nd):Bt (frM L 0) (frL L 4):=
 ⟨oz L (by decide),fun j hj=>by
  rw[oA j hj,Nat.zero_testBit,Bool.false_or];by_cases h:frb L j=true
  ·rw[h,decide_eq_true ((ig L j 4).2 ⟨by omega,by omega,h⟩)]
  ·rw[Bool.eq_false_iff.2 h,decide_eq_false fun hh=>h ((ig L j 4).1 hh).2.2]⟩
theorem EL (L:List Nd){v:Int} (h0:0≤v) (h4:v<4):a6 .and (frM L 0 / 2^v.toNat) 1=if frb L v=true then 1 else 0:=by
 rw[qJ (EK L) h0 h4];by_cases h:frb L v=true
 ·rw[if_pos h,if_pos ((ig L v 4).2 ⟨h0,h4,h⟩)]
 ·rw[if_neg h,if_neg fun hh=>h ((ig L v 4).1 hh).2.2]
theorem EM (x:Nd) (L:List Nd) (v:Int):frb (x::L) v=(frn x v||frb L v):=rfl
structure Ok (f:Fm) (n:Int):Prop where
 n1:1≤n
 n4:n≤4
 hl:(nds f []).length≤200
 ho:∀x∈nds f [],oneF x.1 n=0
 hz:lfF f n=(0,0)
theorem kX {f:Fm}{n:Int} (h:(lfF f n).1=0):Ok f n:=by
 have hz:lfF f n=lfF f n:=rfl
 revert h hz
 generalize hq:lfF f n=q;intro h _;have hq0:=hq;unfold lfF at hq;split at hq
 ·subst hq;cases h
 split at hq
 ·subst hq;cases h
 rename_i h1 h2;unfold lfX at hq;split at hq
 ·rename_i h3;rw[←hq] at h;exact absurd h h3
 ·rename_i h3;have ho:=(kf (n:=n) (L:=nds f []) (i:=0) (bd:=[]) (by omega)).2;refine⟨by omega,by omega,by omega,ho,?_⟩;rw[hq0];have:∀{bd:List Int}{L:List Nd}{i:Nat},(ckB bd L i).1=0→ckB bd L i=(0,0):=by
   intro bd L;induction L with
   |nil=>intro i _;rfl
   |cons x L ih =>
    intro i h;rw[ckB] at h ⊢;split at h
    ·cases h
    ·rename_i h4;rw[if_neg h4];exact ih h
  rw[←hq] at h ⊢;exact this h
noncomputable def ik (f:Fm) (n:Int):List Int:=if (lfF f n).1=0 then frL (nds f []) n.toNat else []
theorem oB (T U X:Nat) (f:Fm) (n:Int) (hN:(nds f []).length*16≤140737488355328) (ht:∀x∈nds f [],Tx1 x.1):Con Try.prog [] 6 [fmD T U X f,J n] (.tup [LJs 3 (ik f n),flt (lfF f n).1 (lfF f n).2]):=by
 have c5:Con Try.prog [] _ _ _:=(pF T U X f n hN ht).flat rfl;have c13:=pE (A:=[]) T U X f hN;have hz:=fun h=>kX (f:=f) (n:=n) h
 unfold ik;generalize hq:lfF f n=q at *;obtain⟨a,b⟩:=q;simp only at *;by_cases h0:a=0
 ·obtain⟨n1,n4,hl,ho,hz'⟩:=hz h0;rw[hq] at hz';obtain⟨rfl,rfl⟩:=Prod.mk.inj hz';rw[if_pos rfl];clear hz h0 hz' hq hN;obtain⟨kd,p,rel,v,k,gs⟩:=f;rw[bC] at *;generalize nds (.mk kd p rel v k gs) []=L at *;refine fn6.con rfl (by simp) ?_;(repeat first|simp only[kV,simprocAttr,aa,aw]|refine aN ?_);refine eS 2 _ [1,2,5] (by rfl) ?_;refine ulk ?_;(repeat first|simp only[kV,simprocAttr,aa]|refine aN ?_);refine⟨_,cx (c5),ulc ?_⟩;(repeat first|with_reducible refine kp [1,2,5,6,17] ?_|simp only[kV,simprocAttr,aa]|refine aN ?_);refine ulk ?_;(repeat first|with_reducible refine kp [1,2,5,7] ?_|simp only[kV,simprocAttr,aa]|refine aN ?_);refine⟨_,cx (c13),ulc ?_⟩;(repeat first|simp only[kV,simprocAttr,aa,List.length_map]|refine aN ?_);refine kp [1,5,7,19,20,21] ?_;(repeat first|simp only[kV,simprocAttr,aa,List.length_map]|refine aN ?_);refine aY (ι:=Nat×Nat) (fun q=>q.1≤L.length∧q.2<16∧frM (L.drop q.1) q.2=frM L 0) (fun q=>⟨av [(1,.p (J n)),(5,.ptr 5 0 0),(7,.p (.int .u64 q.2)),(19,.p (.list NdT 2 (nP T U X L))),(20,.p (J L.length)),(21,.p (J q.1))],az [(5,⟨28,2,.box (.p (flt 0 0)),false⟩)]⟩) (fun q=>L.length-q.1) (0,0) ⟨Nat.zero_le _,by decide,rfl⟩ (Sub.toG [1,5,7,19,20,21] [2,6,9,45,46]) ?_;rintro⟨i,m⟩ ⟨hi,hm,he⟩;simp only at hi hm he ⊢;by_cases h:i<L.length
  ·have hI:(i:Int)<(L.length:Int):=by omega
   have g1:=lF (T:=T) (U:=U) (X:=X) h;have hx1:=ok1 n4 (ho _ (eY h));rw[gE h,frM] at he;generalize nd0 L i=x at *;obtain⟨f,ab⟩:=x;simp only at g1 hx1 he;have a16:=(kg ab).1;have s16:=(ja f).1;have cs:=fun A=>mT (A:=A) T U X f.kd f.rel f.v f.k f.p f.gs hx1.len hx1.el (fun e=>⟨(hx1.v4 e).1,by have:=(hx1.v4 e).2;omega⟩)
   obtain⟨kd,p,rel,v,k,gs⟩:=f;rw[bC] at g1;simp only[Fm.kd,Fm.rel,Fm.v,Fm.k,Fm.p,Fm.gs] at cs;generalize stF (.mk kd p rel v k gs)=s at *;generalize msk ab=a at *;have o16:=oy hm (kW s16 a16);have e1:=jF s16 a16;have e2:=jF hm (kW s16 a16);(repeat first|with_reducible refine kp [1,5,7,19,20,21,22] ?_|simp only[kV,simprocAttr,aa,hI]|refine aN ?_);(try simp only[kV,simprocAttr,aa,hI,g1,h]);refine ulk ?_;(repeat first|with_reducible refine kp [1,5,7,9,19,20,21] ?_|simp only[kV,simprocAttr,aa,hI,g1,h]|refine aN ?_);refine⟨_,cx (cs _),ulc ?_⟩;(repeat first|with_reducible refine kp [1,5,7,19,20,21] ?_|simp only[kV,simprocAttr,aa,Int.toNat_natCast,e1,e2]|refine aN ?_);exact⟨(i+1,_),⟨h,o16,he⟩,(Sub.toG [1,5,7,19,20,21] [2,6,9,45,46]),by simp only;omega⟩
  ·have hI:¬ (i:Int)<(L.length:Int):=by omega
   rw[List.drop_of_length_le (by omega),frM] at he;subst he;(repeat first|with_reducible refine kp [1,5,7,19,20,21,22] ?_|simp only[kV,simprocAttr,aa,hI]|refine aN ?_);refine ulk ?_;(repeat first|simp only[kV,simprocAttr,aa,hI]|refine aN ?_);refine kp [1,5,7] ?_;(repeat first|simp only[kV,simprocAttr,aa,hI]|refine aN ?_);refine kp [1,5,7,10] ?_;(repeat first|simp only[kV,simprocAttr,aa,hI]|refine aN ?_);refine kp [5,7,10,34,35] ?_;(repeat first|simp only[kV,simprocAttr,aa,hI]|refine aN ?_);refine aY (ι:=Nat) (fun v=>v≤n.toNat) (fun v=>⟨av [(5,.ptr 5 0 0),(7,.p (.int .u64 (frM L 0))),(10,.slice 205 0 (frL L v).length),(34,.p (J n)),(35,.p (J v))],az [(5,⟨28,2,.box (.p (flt 0 0)),false⟩),(205,⟨3,1,.row ((frL L v).map (D.int .i64)),false⟩)]⟩) (fun v=>n.toNat-v) 0 (Nat.zero_le _) (Sub.nilG 10 205 3 1) ?_;intro v hv;have fl:=ju L v;by_cases h:v<n.toNat
   ·have hV:(v:Int)<n:=by omega
    have hsh:=EL L (v:=v) (by omega) (by omega);rw[Int.toNat_natCast] at hsh;have hdiv:(frM L 0:Int) / 2^v=((frM L 0 / 2^v:Nat):Int):=by simp
    have e3:=pD (Nat.lt_of_le_of_lt (Nat.div_le_self (frM L 0) (2^v)) hm);have f0:=frL.eq_2 L v;have f3:((frL L v).length+1)*8≤140737488355328:=by omega
    generalize frL L v=R at *;by_cases hf:frb L v=true
    ·rw[if_pos hf] at hsh f0;have f1:(frL L (v+1)).length=R.length+1:=by rw[f0];simp
     have f2:(frL L (v+1)).map (D.int .i64)=R.map (D.int .i64)++[J v]:=by rw[f0];simp
     (repeat first|with_reducible refine kp [5,7,10,34,35,36] ?_|simp only[kV,simprocAttr,aa,hV]|refine aN ?_);(try simp only[kV,simprocAttr,aa,hV,hdiv,Int.toNat_natCast,hsh,cS,e3]);refine ulk ?_;(repeat first|with_reducible refine kp [5,7,10,11,34,35,42] ?_|simp only[kV,simprocAttr,aa,hV,hdiv,Int.toNat_natCast,hsh,cS,e3]|refine aN ?_);(try simp only[kV,simprocAttr,aa,hdiv,hsh,f3,List.length_map]);refine ulk ?_;(repeat first|with_reducible refine kp [5,7,10,34,35] ?_|simp only[kV,simprocAttr,aa,hdiv,hsh,f3,List.length_map]|refine aN ?_);exact⟨v+1,h,by rw[f1,f2];exact (Sub.toG [5,7,10,34,35] [2,6,9,45]),by omega⟩
    ·rw[if_neg hf] at hsh f0;have f1:(frL L (v+1)).length=R.length:=by rw[f0]
     have f2:(frL L (v+1)).map (D.int .i64)=R.map (D.int .i64):=by rw[f0]
     (repeat first|with_reducible refine kp [5,7,10,34,35,36] ?_|simp only[kV,simprocAttr,aa,hV]|refine aN ?_);(try simp only[kV,simprocAttr,aa,hV,hdiv,Int.toNat_natCast,hsh,cS,e3]);refine ulk ?_;(repeat first|with_reducible refine kp [5,7,10,11,34,35,42] ?_|simp only[kV,simprocAttr,aa,hV,hdiv,Int.toNat_natCast,hsh,cS,e3]|refine aN ?_);refine ulk ?_;(repeat first|with_reducible refine kp [5,7,10,34,35] ?_|simp only[kV,simprocAttr,aa,hdiv,hsh]|refine aN ?_);exact⟨v+1,h,by rw[f1,f2];exact (Sub.toG [5,7,10,34,35] [2,6,9,45]),by omega⟩
   ·have hV:¬ (v:Int)<n:=by omega
    obtain rfl:v=n.toNat:=by omega
    (repeat first|with_reducible refine kp [5,7,10,34,35,36] ?_|simp only[kV,simprocAttr,aa,hV]|refine aN ?_);refine ulk ?_;(repeat first|with_reducible refine kp [4,5,10] ?_|simp only[kV,simprocAttr,aa,ac,af,ae,ah,hV]|refine aN ?_);rfl
 ·rw[if_neg h0];clear hz hq hN c13;obtain⟨kd,p,rel,v,k,gs⟩:=f;rw[bC] at *;refine fn6.con rfl (by simp) ?_;(repeat first|simp only[kV,simprocAttr,aa,aw]|refine aN ?_);refine eS 2 _ [1,2,5] (by rfl) ?_;refine ulk ?_;(repeat first|simp only[kV,simprocAttr,aa]|refine aN ?_);refine⟨_,cx (c5),ulc ?_⟩;(repeat first|with_reducible refine kp [1,2,5,6,17] ?_|simp only[kV,simprocAttr,aa,h0]|refine aN ?_);refine ulk ?_;(repeat first|with_reducible refine kp [4,5] ?_|simp only[kV,simprocAttr,aa,ac,af,ae,ah,h0]|refine aN ?_);rfl
theorem EN {x:Nd}{n:Int} (h:Ok1 x.1 n) (h3:x.1.kd≠3) (h4:x.1.kd≠4) (v:Int):frn x v=false:=by
 unfold frn;rw[qH h h3 h4];simp
theorem EO (T U X:Nat) (f:Fm) (n:Int) (ok:Ok f n):Con Try.prog [] 11 [fmD T U X f,J n] (LJs 3 (frL (nds f []) n.toNat)):=by
 obtain⟨n1,n4,hl,ho,-⟩:=ok;have c18:=p3 T U X f [] (by simp only[List.length_nil];omega);have hab:∀x∈nds f [],x.2.length≤9223372036854775807:=fun x hx=>by
  have:=mJ f [] x hx;simp only[List.length_nil] at this;omega
 obtain⟨kd,p,rel,v,k,gs⟩:=f;rw[bC] at *;generalize nds (.mk kd p rel v k gs) []=L at *;refine LK.con rfl (by simp) ?_;(repeat first|with_reducible refine kp [1,2] ?_|simp only[kV,simprocAttr,aa,aw]|refine aN ?_);refine⟨_,cx (c18),ulc ?_⟩;(repeat first|simp only[kV,simprocAttr,aa,List.length_map]|refine aN ?_);refine kp [1,5,6] ?_;(repeat first|simp only[kV,simprocAttr,aa,List.length_map]|refine aN ?_);refine kp [1,5,6,7] ?_;(repeat first|simp only[kV,simprocAttr,aa,List.length_map]|refine aN ?_);refine kp [1,5,6,7,8] ?_;(repeat first|simp only[kV,simprocAttr,aa,List.length_map]|refine aN ?_);refine aY (ι:=Nat) (fun v=>v≤n.toNat) (fun v=>⟨av [(1,.p (J n)),(5,.p (.list 25 6 (nF T U X L))),(6,.p (.list 30 1 (nB L))),(7,.slice 205 0 (frL L v).length),(8,.p (J v))],az [(205,⟨3,1,.row ((frL L v).map (D.int .i64)),false⟩)]⟩) (fun v=>n.toNat-v) 0 (Nat.zero_le _) ((Sub.keepG [1,5,6,7,8] [2] (by rfl) (by rfl)).tr (Sub.nilG 7 205 3 1)) ?_;intro v hv;have fl:=ju L v;by_cases h:v<n.toNat
 ·have hV:(v:Int)<n:=by omega
  have f0:=frL.eq_2 L v;have f3:((frL L v).length+1)*8≤140737488355328:=by omega
  generalize frL L v=R at *;have f1:frb L v=true→(frL L (v+1)).length=R.length+1:=fun hf=>by rw[f0,if_pos hf];simp
  have f2:frb L v=true→(frL L (v+1)).map (D.int .i64)=R.map (D.int .i64)++[J v]:=fun hf=>by rw[f0,if_pos hf];simp
  have f5:¬ frb L v=true→(frL L (v+1))=R:=fun hf=>by rw[f0,if_neg hf]
  clear f0;(repeat first|with_reducible refine kp [1,5,6,7,8,17] ?_|simp only[kV,simprocAttr,aa,hV]|refine aN ?_);refine ulk ?_;(repeat first|simp only[kV,simprocAttr,aa,hV]|refine aN ?_);refine kp [1,5,6,7,8] ?_;(repeat first|simp only[kV,simprocAttr,aa,hV]|refine aN ?_);refine kp [1,5,6,7,8,9] ?_;(repeat first|simp only[kV,simprocAttr,aa,hV]|refine aN ?_);refine aY (ι:=Nat) (fun i=>i≤L.length∧frb (L.drop i) v=frb L v) (fun i=>⟨av [(1,.p (J n)),(5,.p (.list 25 6 (nF T U X L))),(6,.p (.list 30 1 (nB L))),(7,.slice 205 0 R.length),(8,.p (J v)),(9,.p (J i))],az [(205,⟨3,1,.row (R.map (D.int .i64)),false⟩)]⟩) (fun i=>L.length-i) 0 ⟨Nat.zero_le _,rfl⟩ (Sub.toG [1,5,6,7,8,9] [2,51]) ?_;rintro i ⟨hi,he⟩;by_cases h':i<L.length
  ·have hI:(i:Int)<(L.length:Int):=by omega
   have g1:=mI (T:=T) (U:=U) (X:=X) h';have g3:=ru h';have hx1:=ok1 n4 (ho _ (eY h'));have hax:=hab _ (eY h');rw[gE h',EM] at he;generalize nd0 L i=x at *;obtain⟨f,ab⟩:=x;simp only at g1 g3 hx1 hax;have hsl:(snF f).length≤1601:=by
    have h1:=jO hx1.el f.p.length (Nat.le_refl _);have h2:=hx1.len;have h3:=lJ (snP f.p f.p.length) f.v;unfold snF;split<;>omega
   have hnot:=EN (x:=(f,ab)) hx1;have cs:=fun A=>pN (A:=A) T U X f.kd f.rel f.v f.k f.p f.gs hx1.len hx1.el
   have hfe:f = .mk f.kd f.p f.rel f.v f.k f.gs:=by cases f;rfl
   rw[←hfe] at cs;obtain⟨kd,p,rel,u,k,gs⟩:=f;rw[bC] at g1;simp only[Fm.kd,Fm.rel,Fm.v,Fm.k,Fm.p,Fm.gs] at cs hnot;have ca:=fun A=>dF (A:=A) T U X kd rel u k p gs
   clear hfe;by_cases hk:kd=3∨kd=4
   ·rw[decide_eq_true hk] at ca;have ci:=jN (A:=[]) 3 (snF (.mk kd p rel u k gs)) v (by omega);have cj:=jN (A:=[]) 3 ab v hax;have hfr:frn (.mk kd p rel u k gs,ab) v=(decide ((v:Int)∈snF (.mk kd p rel u k gs))&&!decide ((v:Int)∈ab)):=rfl;rw[hfr] at he;generalize snF (.mk kd p rel u k gs)=Z at *;clear hnot hfr;by_cases hm:(v:Int)∈Z
    ·rw[decide_eq_true hm] at ci he;by_cases ha:(v:Int)∈ab
     ·rw[decide_eq_true ha] at cj he;rw[show (true&&!true||frb (L.drop (i+1)) v)=frb (L.drop (i+1)) v from rfl] at he;(repeat first|with_reducible refine kp [1,5,6,7,8,9,23] ?_|simp only[kV,simprocAttr,aa,hI]|refine aN ?_);(try simp only[kV,simprocAttr,aa,hI,g1,g3,h']);refine ulk ?_;(repeat first|with_reducible refine kp [1,5,6,7,8,9] ?_|simp only[kV,simprocAttr,aa,hI,g1,g3,h']|refine aN ?_);refine⟨_,cx (ca _),ulc ?_⟩;(repeat first|simp only[kV,simprocAttr,aa,hI,g1,g3,h']|refine aN ?_);refine⟨_,cx (cs _),ulc ?_⟩;(repeat first|simp only[kV,simprocAttr,aa,hI,g1,g3,h']|refine aN ?_);refine⟨_,cx (ci),ulc ?_⟩;(repeat first|simp only[kV,simprocAttr,aa,hI,g1,g3,h']|refine aN ?_);refine⟨_,cx (cj),ulc ?_⟩;(repeat first|with_reducible refine kp [1,5,6,7,8,9,48] ?_|simp only[kV,simprocAttr,aa]|refine aN ?_);refine ulk ?_;(repeat first|with_reducible refine kp [1,5,6,7,8,9] ?_|simp only[kV,simprocAttr,aa]|refine aN ?_);exact⟨i+1,⟨h',he⟩,(Sub.toG [1,5,6,7,8,9] [2,51]),by omega⟩
     ·rw[decide_eq_false ha] at cj he;have hf:frb L v=true:=he.symm;(repeat first|with_reducible refine kp [1,5,6,7,8,9,23] ?_|simp only[kV,simprocAttr,aa,hI]|refine aN ?_);(try simp only[kV,simprocAttr,aa,hI,g1,g3,h']);refine ulk ?_;(repeat first|with_reducible refine kp [1,5,6,7,8,9] ?_|simp only[kV,simprocAttr,aa,hI,g1,g3,h']|refine aN ?_);refine⟨_,cx (ca _),ulc ?_⟩;(repeat first|simp only[kV,simprocAttr,aa,hI,g1,g3,h']|refine aN ?_);refine⟨_,cx (cs _),ulc ?_⟩;(repeat first|simp only[kV,simprocAttr,aa,hI,g1,g3,h']|refine aN ?_);refine⟨_,cx (ci),ulc ?_⟩;(repeat first|simp only[kV,simprocAttr,aa,hI,g1,g3,h']|refine aN ?_);refine⟨_,cx (cj),ulc ?_⟩;(repeat first|with_reducible refine kp [1,5,6,7,8,9,48] ?_|simp only[kV,simprocAttr,aa]|refine aN ?_);(try simp only[kV,simprocAttr,aa,f3,List.length_map]);refine ulk ?_;(repeat first|with_reducible refine kp [1,5,6,7,8] ?_|simp only[kV,simprocAttr,aa,f3,List.length_map]|refine aN ?_);exact⟨v+1,h,by rw[f1 hf,f2 hf];exact (Sub.toG [1,5,6,7,8] [2,51]),by omega⟩
    ·rw[decide_eq_false hm] at ci he;rw[show (false&&!decide ((v:Int)∈ab)||frb (L.drop (i+1)) v)=frb (L.drop (i+1)) v from rfl] at he;(repeat first|with_reducible refine kp [1,5,6,7,8,9,23] ?_|simp only[kV,simprocAttr,aa,hI]|refine aN ?_);(try simp only[kV,simprocAttr,aa,hI,g1,g3,h']);refine ulk ?_;(repeat first|with_reducible refine kp [1,5,6,7,8,9] ?_|simp only[kV,simprocAttr,aa,hI,g1,g3,h']|refine aN ?_);refine⟨_,cx (ca _),ulc ?_⟩;(repeat first|simp only[kV,simprocAttr,aa,hI,g1,g3,h']|refine aN ?_);refine⟨_,cx (cs _),ulc ?_⟩;(repeat first|simp only[kV,simprocAttr,aa,hI,g1,g3,h']|refine aN ?_);refine⟨_,cx (ci),ulc ?_⟩;(repeat first|simp only[kV,simprocAttr,aa,hI,g1,g3,h']|refine aN ?_);refine ulc ?_;(repeat first|with_reducible refine kp [1,5,6,7,8,9,48] ?_|simp only[kV,simprocAttr,aa]|refine aN ?_);refine ulk ?_;(repeat first|with_reducible refine kp [1,5,6,7,8,9] ?_|simp only[kV,simprocAttr,aa]|refine aN ?_);exact⟨i+1,⟨h',he⟩,(Sub.toG [1,5,6,7,8,9] [2,51]),by omega⟩
   ·rw[decide_eq_false hk] at ca;rw[hnot (by omega) (by omega),Bool.false_or] at he;(repeat first|with_reducible refine kp [1,5,6,7,8,9,23] ?_|simp only[kV,simprocAttr,aa,hI]|refine aN ?_);(try simp only[kV,simprocAttr,aa,hI,g1,g3,h']);refine ulk ?_;(repeat first|with_reducible refine kp [1,5,6,7,8,9] ?_|simp only[kV,simprocAttr,aa,hI,g1,g3,h']|refine aN ?_);refine⟨_,cx (ca _),ulc ?_⟩;(repeat first|simp only[kV,simprocAttr,aa,hI,g1,g3,h']|refine aN ?_);refine ulc ?_;(repeat first|simp only[kV,simprocAttr,aa]|refine aN ?_);refine ulc ?_;(repeat first|simp only[kV,simprocAttr,aa]|refine aN ?_);refine ulc ?_;(repeat first|with_reducible refine kp [1,5,6,7,8,9,48] ?_|simp only[kV,simprocAttr,aa]|refine aN ?_);refine ulk ?_;(repeat first|with_reducible refine kp [1,5,6,7,8,9] ?_|simp only[kV,simprocAttr,aa]|refine aN ?_);exact⟨i+1,⟨h',he⟩,(Sub.toG [1,5,6,7,8,9] [2,51]),by omega⟩
  ·have hI:¬ (i:Int)<(L.length:Int):=by omega
   rw[List.drop_of_length_le (by omega)] at he;have hf:¬ frb L v=true:=fun hh=>by rw[hh] at he;cases he
   (repeat first|with_reducible refine kp [1,5,6,7,8,9,23] ?_|simp only[kV,simprocAttr,aa,hI]|refine aN ?_);refine ulk ?_;(repeat first|with_reducible refine kp [1,5,6,7,8] ?_|simp only[kV,simprocAttr,aa,hI]|refine aN ?_);exact⟨v+1,h,by rw[f5 hf];exact (Sub.toG [1,5,6,7,8] [2,51]),by omega⟩
 ·have hV:¬ (v:Int)<n:=by omega
  obtain rfl:v=n.toNat:=by omega
  (repeat first|with_reducible refine kp [1,5,6,7,8,17] ?_|simp only[kV,simprocAttr,aa,hV]|refine aN ?_);refine ulk ?_;(repeat first|with_reducible refine kp [4,7] ?_|simp only[kV,simprocAttr,aa,ac,af,ae,ah,hV]|refine aN ?_);rfl
end Go.Proofs.Ytdchbabgopglcaa.M
