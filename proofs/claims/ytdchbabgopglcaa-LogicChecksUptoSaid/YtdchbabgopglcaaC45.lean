/- Lemmas. -/
import Derived.Test.YtdchbabgopglcaaC44
set_option linter.defProp false
set_option linter.unusedSectionVars false
set_option linter.unusedSimpArgs false
set_option linter.unusedVariables false
namespace Go.Proofs.Ytdchbabgopglcaa.M
open Go.RowKit
set_option maxRecDepth 20000
set_option maxHeartbeats 1000000
def flat:Nat→D→Bool
 |0,_=>false
 |n+1,.agg l=>l.all (flat n)
 |n+1,.tup l=>l.all (flat n)
 |_,.bool _=>true
 |_,.int _ _=>true
 |_,.str _=>true
 |_,_=>false
theorem V.flat {w:World}{N N':Nat→Prop}{v:Value}{d:D} (h:V w N v d):∀{n:Nat},M.flat n d=true→V w N' v d:=by
 induction h with
 |bool b=>exact fun _ => .bool b
 |int k n=>exact fun _ => .int k n
 |str s=>exact fun _ => .str s
 |agg cs l h1 h2 _ ih =>
  intro n hd;cases n with
  |zero=>simp[M.flat] at hd
  |succ n =>
   simp only[M.flat,List.all_eq_true] at hd;exact .agg cs l h1 h2 fun i d hi=>ih i d hi (hd d (List.mem_of_getElem? hi))
 |tup cs l h1 _ ih =>
  intro n hd;cases n with
  |zero=>simp[M.flat] at hd
  |succ n =>
   simp only[M.flat,List.all_eq_true] at hd;exact .tup cs l h1 fun i d hi=>ih i d hi (hd d (List.mem_of_getElem? hi))
 |_=>intro n hd;cases n<;>simp[M.flat] at hd
theorem Con.flat {P:Program}{A A':List TypeId}{f:FuncId}{ds:List D}{d:D} (h:Con P A f ds d) (hd:M.flat 9 d=true):Con P A' f ds d:=by
 intro base w vs h1 h2 h3 h4;have hN:∀b,(b<w.heap.size∧¬ base b)→(b<w.heap.size∧¬ (base b∧∀c T fr,w.heap[b]? = some (.cells c T fr)→T ∉ A)):=fun b hb=>⟨hb.1,fun hh=>hb.2 hh.1⟩
 refine (h (fun b=>base b∧∀c T fr,w.heap[b]? = some (.cells c T fr)→T ∉ A) w vs (fun b hb=>h1 b hb.1) (fun b hb=>hb.2) h3 (fun i e he=>(h4 i e he).mono (fun _ _=>rfl) hN)).mono ?_;rintro e w' ⟨v,rfl,hv,hext⟩;exact⟨v,rfl,V.flat hv hd,hext⟩
theorem mI {T U X:Nat}{L:List Nd}{i:Nat} (h:i<L.length):(nF T U X L).getD i default=fmD T U X (nd0 L i).1:=by simp[nd0,h]
theorem ru {L:List Nd}{i:Nat} (h:i<L.length):(nB L).getD i default=LJs 3 (nd0 L i).2:=by simp[nd0,h]
section
variable (T U X:Nat) (L:List Nd) (n:Int) (n1:1≤n) (n4:n≤4) (hl:L.length≤200) (ht:∀x∈L,Tx1 x.1) (hab:∀x∈L,x.2.length≤1000000000)
include n1 n4 hl ht hab
theorem S8 (bd:List Int) (hbd:bd.length≤200) (ho:∀x∈L,oneF x.1 n=0):cw [4000168,25,28,3] (ConX Try.prog []) pA (ac (flt (ckB bd L 0).1 (ckB bd L 0).2) [(4,some (true,2))])
  ⟨av [(4,.ptr 4 0 0),(5,.p (.list 25 6 (nF T U X L))),(6,.p (.list 30 1 (nB L))),(7,.slice 205 0 bd.length)],az [(4,⟨28,2,.box (.p (flt 0 0)),false⟩),(205,⟨3,1,.row (bd.map (D.int .i64)),false⟩)]⟩:=by
 skip
 (repeat first|simp only[kV,simprocAttr,aq]|refine aN ?_);refine kp [4,5,6,7,10] ?_;(repeat first|simp only[kV,simprocAttr,aq]|refine aN ?_);refine aY (ι:=Nat) (fun i=>i≤L.length∧ckB bd (L.drop i) i=ckB bd L 0) (fun i=>⟨av [(4,.ptr 4 0 0),(5,.p (.list 25 6 (nF T U X L))),(6,.p (.list 30 1 (nB L))),(7,.slice 205 0 bd.length),(10,.p (J i))],az [(4,⟨28,2,.box (.p (flt 0 0)),false⟩),(205,⟨3,1,.row (bd.map (D.int .i64)),false⟩)]⟩) (fun i=>L.length-i) 0 ⟨Nat.zero_le _,rfl⟩ (Sub.toG [4,5,6,7,10] [2,66]) ?_;rintro i ⟨hi,he⟩;by_cases h:i<L.length
 ·have hI:(i:Int)<(L.length:Int):=by omega
  have g1:=mI (T:=T) (U:=U) (X:=X) h;have g3:=ru h;have hx1:=ok1 n4 (ho _ (eY h));have hax:=hab _ (eY h);have hsk:=QC (bd:=bd) (x:=nd0 L i) (L:=L.drop (i+1)) (i:=i);rw[gE h] at he;generalize nd0 L i=x at *;obtain⟨f,ab⟩:=x;simp only at g1 g3 hx1 hsk hax;have hnat:=qH hx1;have hsl:(snF f).length≤1601:=by
   have h1:=jO hx1.el f.p.length (Nat.le_refl _);have h2:=hx1.len;have h3:=lJ (snP f.p f.p.length) f.v;unfold snF;split<;>omega
  have cs:=fun A=>pN (A:=A) T U X f.kd f.rel f.v f.k f.p f.gs hx1.len hx1.el
  have hfe:f = .mk f.kd f.p f.rel f.v f.k f.gs:=by cases f;rfl
  rw[←hfe] at cs;obtain⟨kd,p,rel,v,k,gs⟩:=f;rw[bC] at g1;simp only[Fm.kd,Fm.rel,Fm.v,Fm.k,Fm.p,Fm.gs] at cs hnat;have ca:=fun A=>dF (A:=A) T U X kd rel v k p gs
  clear hfe;by_cases hk:kd=3∨kd=4
  ·rw[decide_eq_true hk] at ca;clear hsk hnat;rw[ckB] at he;have hbF:bdF bd (.mk kd p rel v k gs,ab)↔∃u∈snF (.mk kd p rel v k gs),u∈bd∧u ∉ ab:=Iff.rfl;have heT:bdF bd (.mk kd p rel v k gs,ab)→((14,(i:Int)):Int×Int)=ckB bd L 0:=fun hP=>by rw[if_pos hP] at he;exact he
   have heF:¬ bdF bd (.mk kd p rel v k gs,ab)→ckB bd (L.drop (i+1)) (i+1)=ckB bd L 0:=fun hP=>by rw[if_neg hP] at he;exact he
   clear he;generalize bdF bd (.mk kd p rel v k gs,ab)=P at *;generalize snF (.mk kd p rel v k gs)=S at *;(repeat first|with_reducible refine kp [4,5,6,7,10,71] ?_|simp only[kV,simprocAttr,aq,hI]|refine aN ?_);(try simp only[kV,simprocAttr,aq,hI,g1,h]);refine ulk ?_;(repeat first|with_reducible refine kp [4,5,6,7,10] ?_|simp only[kV,simprocAttr,aq,hI,g1,h]|refine aN ?_);refine⟨_,cx (ca _),ulc ?_⟩;(repeat first|with_reducible refine kp [4,5,6,7,10,79] ?_|simp only[kV,simprocAttr,aq]|refine aN ?_);(try simp only[kV,simprocAttr,aq,hI,g1,h]);refine ulk ?_;(repeat first|with_reducible refine kp [4,5,6,7,10] ?_|simp only[kV,simprocAttr,aq,hI,g1,h]|refine aN ?_);refine⟨_,cx (cs _),ulc ?_⟩;(repeat first|simp only[kV,simprocAttr,aq]|refine aN ?_);refine kp [4,5,6,7,10,11] ?_;(repeat first|simp only[kV,simprocAttr,aq]|refine aN ?_);refine kp [4,5,6,7,10,11,12] ?_;(repeat first|simp only[kV,simprocAttr,aq]|refine aN ?_);refine aY (ι:=Nat) (fun j=>j≤S.length∧∀c,c<j→¬ (S.getD c 0∈bd∧S.getD c 0 ∉ ab)) (fun j=>⟨av [(4,.ptr 4 0 0),(5,.p (.list 25 6 (nF T U X L))),(6,.p (.list 30 1 (nB L))),(7,.slice 205 0 bd.length),(10,.p (J i)),(11,.p (LJs 3 S)),(12,.p (J j))],az [(4,⟨28,2,.box (.p (flt 0 0)),false⟩),(205,⟨3,1,.row (bd.map (D.int .i64)),false⟩)]⟩) (fun j=>S.length-j) 0 ⟨Nat.zero_le _,fun c hc=>by omega⟩ (Sub.toG [4,5,6,7,10,11,12] [2,66]) ?_;rintro j ⟨hj,hS⟩;by_cases h':j<S.length
   ·have hJ:(j:Int)<(S.length:Int):=by omega
    have g2:=eR h';have hSm:S.getD j 0∈S:=by
     rw[List.getD_eq_getElem?_getD,List.getElem?_eq_getElem h'];exact List.getElem_mem h'
    have hSn:¬ (S.getD j 0∈bd∧S.getD j 0 ∉ ab)→∀c,c<j+1→¬ (S.getD c 0∈bd∧S.getD c 0 ∉ ab):=fun hn c hc=>by
     by_cases hcj:c<j
     ·exact hS c hcj
     ·obtain rfl:c=j:=by omega
      exact hn
    have c1:=(iC (A:=[]) bd (S.getD j 0) (by omega)).x;have cx0:=(iC (A:=[]) [] (S.getD j 0) (by simp)).x;have cx1:=fun y ys (hy:(y::ys).length≤9223372036854775807)=>jN (A:=[]) 3 (y::ys) (S.getD j 0) hy
    by_cases hm:S.getD j 0∈bd
    ·rw[decide_eq_true hm] at c1;rcases ab with _ | ⟨y,ys⟩
     ·have hP:P:=hbF.2 ⟨_,hSm,hm,List.not_mem_nil⟩;have he:=heT hP;rw[decide_eq_false List.not_mem_nil] at cx0;change _=D.list 3 1 [] at g3
      (repeat first|with_reducible refine kp [4,5,6,7,10,11,12,88] ?_|simp only[kV,simprocAttr,aq,hJ]|refine aN ?_);(try simp only[kV,simprocAttr,aq,hJ,g2,h']);refine ulk ?_;(repeat first|with_reducible refine kp [4,5,6,7,10,11,12] ?_|simp only[kV,simprocAttr,aq,hJ,g2,h']|refine aN ?_);refine⟨_,_,c1,ulc ?_⟩;(repeat first|simp only[kV,simprocAttr,aq,g3,hI,h,hJ,g2,h']|refine aN ?_);refine⟨_,_,cx0,ulc ?_⟩;(repeat first|with_reducible refine kp [4,5,6,7,10,11,12,108] ?_|simp only[kV,simprocAttr,aq]|refine aN ?_);refine ulk ?_;(repeat first|simp only[kV,simprocAttr,aq]|refine aN ?_);refine⟨_,cx (cz 14 i),ulc ?_⟩;(repeat first|with_reducible refine kp [4] ?_|simp only[kV,simprocAttr,aq,ac,af,ae,ah]|refine aN ?_);rw[←he]
     ·have hyl:(y::ys).length≤9223372036854775807:=by omega
      have cx1':=cx1 y ys hyl;change _=D.list 3 1 (J y::ys.map (D.int .i64)) at g3
      by_cases hn:S.getD j 0∈y::ys
      ·rw[decide_eq_true hn] at cx1';(repeat first|with_reducible refine kp [4,5,6,7,10,11,12,88] ?_|simp only[kV,simprocAttr,aq,hJ]|refine aN ?_);(try simp only[kV,simprocAttr,aq,hJ,g2,h']);refine ulk ?_;(repeat first|with_reducible refine kp [4,5,6,7,10,11,12] ?_|simp only[kV,simprocAttr,aq,hJ,g2,h']|refine aN ?_);refine⟨_,_,c1,ulc ?_⟩;(repeat first|simp only[kV,simprocAttr,aq,g3,hI,h,hJ,g2,h']|refine aN ?_);refine⟨_,cx cx1',?_⟩;refine ulc ?_;(repeat first|with_reducible refine kp [4,5,6,7,10,11,12,108] ?_|simp only[kV,simprocAttr,aq]|refine aN ?_);refine ulk ?_;(repeat first|with_reducible refine kp [4,5,6,7,10,11,12] ?_|simp only[kV,simprocAttr,aq]|refine aN ?_);exact⟨j+1,⟨h',hSn fun hh=>hh.2 hn⟩,(Sub.toG [4,5,6,7,10,11,12] [2,66]),by omega⟩
      ·have hP:P:=hbF.2 ⟨_,hSm,hm,hn⟩;have he:=heT hP;rw[decide_eq_false hn] at cx1';(repeat first|with_reducible refine kp [4,5,6,7,10,11,12,88] ?_|simp only[kV,simprocAttr,aq,hJ]|refine aN ?_);(try simp only[kV,simprocAttr,aq,hJ,g2,h']);refine ulk ?_;(repeat first|with_reducible refine kp [4,5,6,7,10,11,12] ?_|simp only[kV,simprocAttr,aq,hJ,g2,h']|refine aN ?_);refine⟨_,_,c1,ulc ?_⟩;(repeat first|simp only[kV,simprocAttr,aq,g3,hI,h,hJ,g2,h']|refine aN ?_);refine⟨_,cx cx1',?_⟩;refine ulc ?_;(repeat first|with_reducible refine kp [4,5,6,7,10,11,12,108] ?_|simp only[kV,simprocAttr,aq]|refine aN ?_);refine ulk ?_;(repeat first|simp only[kV,simprocAttr,aq]|refine aN ?_);refine⟨_,cx (cz 14 i),ulc ?_⟩;(repeat first|with_reducible refine kp [4] ?_|simp only[kV,simprocAttr,aq,ac,af,ae,ah]|refine aN ?_);rw[←he]
    ·rw[decide_eq_false hm] at c1;(repeat first|with_reducible refine kp [4,5,6,7,10,11,12,88] ?_|simp only[kV,simprocAttr,aq,hJ]|refine aN ?_);(try simp only[kV,simprocAttr,aq,hJ,g2,h']);refine ulk ?_;(repeat first|with_reducible refine kp [4,5,6,7,10,11,12] ?_|simp only[kV,simprocAttr,aq,hJ,g2,h']|refine aN ?_);refine⟨_,_,c1,ulc ?_⟩;(repeat first|simp only[kV,simprocAttr,aq]|refine aN ?_);refine ulc ?_;(repeat first|with_reducible refine kp [4,5,6,7,10,11,12,108] ?_|simp only[kV,simprocAttr,aq]|refine aN ?_);refine ulk ?_;(repeat first|with_reducible refine kp [4,5,6,7,10,11,12] ?_|simp only[kV,simprocAttr,aq]|refine aN ?_);exact⟨j+1,⟨h',hSn fun hh=>hm hh.1⟩,(Sub.toG [4,5,6,7,10,11,12] [2,66]),by omega⟩
   ·have hJ:¬ (j:Int)<(S.length:Int):=by omega
    have hP:¬ P:=fun hh=>by
     obtain⟨u,hu,a,b⟩:=hbF.1 hh;obtain⟨c,hc,rfl⟩:=List.mem_iff_getElem.1 hu;have:=hS c (by omega);rw[List.getD_eq_getElem?_getD,List.getElem?_eq_getElem hc] at this;exact this ⟨a,b⟩
    have he:=heF hP;(repeat first|with_reducible refine kp [4,5,6,7,10,11,12,88] ?_|simp only[kV,simprocAttr,aq,hJ]|refine aN ?_);refine ulk ?_;(repeat first|with_reducible refine kp [4,5,6,7,10] ?_|simp only[kV,simprocAttr,aq,hJ]|refine aN ?_);exact⟨i+1,⟨h,he⟩,(Sub.toG [4,5,6,7,10] [2,66]),by omega⟩
  ·rw[decide_eq_false hk] at ca;have hsn:=hnat (by omega) (by omega);rw[hsk hsn] at he;(repeat first|with_reducible refine kp [4,5,6,7,10,71] ?_|simp only[kV,simprocAttr,aq,hI]|refine aN ?_);(try simp only[kV,simprocAttr,aq,hI,g1,h]);refine ulk ?_;(repeat first|with_reducible refine kp [4,5,6,7,10] ?_|simp only[kV,simprocAttr,aq,hI,g1,h]|refine aN ?_);refine⟨_,cx (ca _),ulc ?_⟩;(repeat first|with_reducible refine kp [4,5,6,7,10,79] ?_|simp only[kV,simprocAttr,aq]|refine aN ?_);refine ulk ?_;(repeat first|with_reducible refine kp [4,5,6,7,10] ?_|simp only[kV,simprocAttr,aq]|refine aN ?_);exact⟨i+1,⟨h,he⟩,(Sub.toG [4,5,6,7,10] [2,66]),by omega⟩
 ·have hI:¬ (i:Int)<(L.length:Int):=by omega
  rw[List.drop_of_length_le (by omega)] at he;(repeat first|with_reducible refine kp [4,5,6,7,10,71] ?_|simp only[kV,simprocAttr,aq,hI]|refine aN ?_);refine ulk ?_;(repeat first|with_reducible refine kp [4] ?_|simp only[kV,simprocAttr,aq,ac,af,ae,ah,hI]|refine aN ?_);rw[←he];rfl
theorem S9:cw [4000168,25,28,3] (ConX Try.prog []) pB (ac (flt (lfX L n).1 (lfX L n).2) [(4,some (true,2))])
  ⟨av [(1,.p (J n)),(4,.ptr 4 0 0),(5,.p (.list 25 6 (nF T U X L))),(6,.p (.list 30 1 (nB L)))],az [(4,⟨28,2,.box (.p (flt 0 0)),false⟩)]⟩:=by
 have h116:=S8 T U X L n n1 n4 hl ht hab;skip
 (repeat first|simp only[kV,simprocAttr,aq]|refine aN ?_);refine kp [1,4,5,6,7] ?_;(repeat first|simp only[kV,simprocAttr,aq]|refine aN ?_);refine kp [1,4,5,6,7,8] ?_;(repeat first|simp only[kV,simprocAttr,aq]|refine aN ?_);refine aY (ι:=Nat×List Int) (fun q=>q.1≤L.length∧q.2.length≤q.1∧ckA n (L.drop q.1) q.1 q.2=ckA n L 0 []) (fun q=>⟨av [(1,.p (J n)),(4,.ptr 4 0 0),(5,.p (.list 25 6 (nF T U X L))),(6,.p (.list 30 1 (nB L))),(7,.slice 205 0 q.2.length),(8,.p (J q.1))],az [(4,⟨28,2,.box (.p (flt 0 0)),false⟩),(205,⟨3,1,.row (q.2.map (D.int .i64)),false⟩)]⟩) (fun q=>L.length-q.1) (0,[]) ⟨Nat.zero_le _,Nat.le_refl _,rfl⟩ (Sub.nilG 7 205 3 1) ?_;rintro⟨i,bd⟩ ⟨hi,hbl,he⟩;simp only at hi hbl he ⊢;by_cases h:i<L.length
 ·have hI:(i:Int)<(L.length:Int):=by omega
  have g1:=mI (T:=T) (U:=U) (X:=X) h;have htx:=ht _ (eY h);rw[gE h,ckA] at he;generalize nd0 L i=x at *;obtain⟨f,ab⟩:=x;simp only at g1 htx he;obtain⟨kd,p,rel,v,k,gs⟩:=f;rw[bC] at g1;have c1:Con Try.prog [] _ _ _:=(Ni T U X kd rel v k p gs n htx.1 htx.2).flat rfl;generalize oneF (.mk kd p rel v k gs) n=code at *;have cx1:=(iC (A:=[]) bd v (by omega)).x;have f1:(bd++[v]).length=bd.length+1:=by simp
  have f2:(bd++[v]).map (D.int .i64)=bd.map (D.int .i64)++[J v]:=by simp
  have f3:(bd.length+1)*8≤140737488355328:=by omega
  by_cases h0:code=0
  ·rw[if_neg (by omega)] at he;have cq:=fun A=>dY (A:=A) T U X kd rel v k p gs
   by_cases hq:kd=8∨kd=9
   ·have hq':(Fm.mk kd p rel v k gs).kd=8∨(Fm.mk kd p rel v k gs).kd=9:=hq;rw[if_pos hq'] at he;rw[decide_eq_true hq] at cq;by_cases hv:v∈bd
    ·have hv':(Fm.mk kd p rel v k gs).v∈bd:=hv;rw[if_pos hv'] at he;rw[decide_eq_true hv] at cx1;(repeat first|with_reducible refine kp [1,4,5,6,7,8,32] ?_|simp only[kV,simprocAttr,aq,hI]|refine aN ?_);(try simp only[kV,simprocAttr,aq,hI,g1,h]);refine ulk ?_;(repeat first|with_reducible refine kp [1,4,5,6,7,8] ?_|simp only[kV,simprocAttr,aq,hI,g1,h]|refine aN ?_);refine⟨_,cx (c1),ulc ?_⟩;(repeat first|with_reducible refine kp [1,4,5,6,7,8,9,42] ?_|simp only[kV,simprocAttr,aq,h0]|refine aN ?_);(try simp only[kV,simprocAttr,aq,h0,g1,h,hI]);refine ulk ?_;(repeat first|with_reducible refine kp [1,4,5,6,7,8] ?_|simp only[kV,simprocAttr,aq,h0,g1,h,hI]|refine aN ?_);refine⟨_,cx (cq _),?_⟩;(repeat first|with_reducible refine kp [1,4,5,6,7,8,50] ?_|simp only[kV,simprocAttr,aq]|refine aN ?_);(try simp only[kV,simprocAttr,aq,g1,h,hI]);refine ulk ?_;(repeat first|simp only[kV,simprocAttr,aq,g1,h,hI]|refine aN ?_);refine⟨_,_,cx1,?_⟩;(repeat first|with_reducible refine kp [1,4,5,6,7,8,57] ?_|simp only[kV,simprocAttr,aq]|refine aN ?_);refine ulk ?_;(repeat first|simp only[kV,simprocAttr,aq]|refine aN ?_);refine⟨_,cx (cz 12 i),ulc ?_⟩;(repeat first|with_reducible refine kp [4] ?_|simp only[kV,simprocAttr,aq,ac,af,ae,ah]|refine aN ?_);unfold lfX;rw[←he,if_pos (by simp)]
    ·have hv':¬ (Fm.mk kd p rel v k gs).v∈bd:=hv;rw[if_neg hv'] at he;rw[decide_eq_false hv] at cx1;(repeat first|with_reducible refine kp [1,4,5,6,7,8,32] ?_|simp only[kV,simprocAttr,aq,hI]|refine aN ?_);(try simp only[kV,simprocAttr,aq,hI,g1,h]);refine ulk ?_;(repeat first|with_reducible refine kp [1,4,5,6,7,8] ?_|simp only[kV,simprocAttr,aq,hI,g1,h]|refine aN ?_);refine⟨_,cx (c1),ulc ?_⟩;(repeat first|with_reducible refine kp [1,4,5,6,7,8,9,42] ?_|simp only[kV,simprocAttr,aq,h0]|refine aN ?_);(try simp only[kV,simprocAttr,aq,h0,g1,h,hI]);refine ulk ?_;(repeat first|with_reducible refine kp [1,4,5,6,7,8] ?_|simp only[kV,simprocAttr,aq,h0,g1,h,hI]|refine aN ?_);refine⟨_,cx (cq _),?_⟩;(repeat first|with_reducible refine kp [1,4,5,6,7,8,50] ?_|simp only[kV,simprocAttr,aq]|refine aN ?_);(try simp only[kV,simprocAttr,aq,g1,h,hI]);refine ulk ?_;(repeat first|simp only[kV,simprocAttr,aq,g1,h,hI]|refine aN ?_);refine⟨_,_,cx1,?_⟩;(repeat first|with_reducible refine kp [1,4,5,6,7,8,57] ?_|simp only[kV,simprocAttr,aq]|refine aN ?_);(try simp only[kV,simprocAttr,aq,g1,h,hI,f3,List.length_map]);refine ulk ?_;(repeat first|with_reducible refine kp [1,4,5,6,7,8] ?_|simp only[kV,simprocAttr,aq,g1,h,hI,f3,List.length_map]|refine aN ?_);exact⟨(i+1,bd++[v]),⟨h,by rw[f1];exact Nat.succ_le_succ hbl,he⟩,by simp only[f1,f2];exact (Sub.toG [1,4,5,6,7,8] [2,66]),by simp only;omega⟩
   ·have hq':¬ ((Fm.mk kd p rel v k gs).kd=8∨(Fm.mk kd p rel v k gs).kd=9):=hq;rw[if_neg hq'] at he;rw[decide_eq_false hq] at cq;(repeat first|with_reducible refine kp [1,4,5,6,7,8,32] ?_|simp only[kV,simprocAttr,aq,hI]|refine aN ?_);(try simp only[kV,simprocAttr,aq,hI,g1,h]);refine ulk ?_;(repeat first|with_reducible refine kp [1,4,5,6,7,8] ?_|simp only[kV,simprocAttr,aq,hI,g1,h]|refine aN ?_);refine⟨_,cx (c1),ulc ?_⟩;(repeat first|with_reducible refine kp [1,4,5,6,7,8,9,42] ?_|simp only[kV,simprocAttr,aq,h0]|refine aN ?_);(try simp only[kV,simprocAttr,aq,h0,g1,h,hI]);refine ulk ?_;(repeat first|with_reducible refine kp [1,4,5,6,7,8] ?_|simp only[kV,simprocAttr,aq,h0,g1,h,hI]|refine aN ?_);refine⟨_,cx (cq _),?_⟩;(repeat first|with_reducible refine kp [1,4,5,6,7,8,50] ?_|simp only[kV,simprocAttr,aq]|refine aN ?_);refine ulk ?_;(repeat first|with_reducible refine kp [1,4,5,6,7,8] ?_|simp only[kV,simprocAttr,aq]|refine aN ?_);exact⟨(i+1,bd),⟨h,Nat.le_succ_of_le hbl,he⟩,(Sub.toG [1,4,5,6,7,8] [2,66]),by simp only;omega⟩
  ·rw[if_pos h0] at he;(repeat first|with_reducible refine kp [1,4,5,6,7,8,32] ?_|simp only[kV,simprocAttr,aq,hI]|refine aN ?_);(try simp only[kV,simprocAttr,aq,hI,g1,h]);refine ulk ?_;(repeat first|with_reducible refine kp [1,4,5,6,7,8] ?_|simp only[kV,simprocAttr,aq,hI,g1,h]|refine aN ?_);refine⟨_,cx (c1),ulc ?_⟩;(repeat first|with_reducible refine kp [1,4,5,6,7,8,9,42] ?_|simp only[kV,simprocAttr,aq,h0]|refine aN ?_);refine ulk ?_;(repeat first|simp only[kV,simprocAttr,aq,h0]|refine aN ?_);refine⟨_,cx (cz code i),ulc ?_⟩;(repeat first|with_reducible refine kp [4] ?_|simp only[kV,simprocAttr,aq,ac,af,ae,ah]|refine aN ?_);unfold lfX;rw[←he,if_pos h0]
 ·have hI:¬ (i:Int)<(L.length:Int):=by omega
  rw[List.drop_of_length_le (by omega),ckA] at he;have e1:lfX L n=ckB bd L 0:=by unfold lfX;rw[←he,if_neg (by simp)]
  have ho:=(kf (n:=n) (L:=L) (i:=0) (bd:=[]) (by rw[←he])).2;have h116':=h116 bd (by omega) ho;rw[e1];(repeat first|with_reducible refine kp [1,4,5,6,7,8,32] ?_|simp only[kV,simprocAttr,aq,hI]|refine aN ?_);refine ulk ?_;(repeat first|simp only[kV,simprocAttr,aq,hI]|refine aN ?_);exact⟨_,(Sub.toG [4,5,6,7] [2,66]),h116'⟩
end
mutual
theorem mJ:∀(f:Fm) (ab:List Int),∀x∈nds f ab,x.2.length+1≤ab.length+(nds f ab).length
 |.mk kd p rel v k gs,ab=>fun x hx=>by
  rw[nds] at hx ⊢;rw[List.length_cons];rcases List.mem_cons.1 hx with rfl | hx
  ·simp only;omega
  ·have h1:=rx gs _ x hx;have h2:(if kd=8∨kd=9 then ab++[v] else ab).length≤ab.length+1:=by split<;>simp
   omega
theorem rx:∀(l:List Fm) (ab:List Int),∀x∈ndsL l ab,x.2.length+1≤ab.length+(ndsL l ab).length
 |[],ab=>fun x hx=>by rw[ndsL] at hx;cases hx
 |a::l,ab=>fun x hx=>by
  rw[ndsL] at hx ⊢;rw[List.length_append];rcases List.mem_append.1 hx with hx | hx
  ·have:=mJ a ab x hx;omega
  ·have:=rx l ab x hx;omega
end
theorem Ta (T U X:Nat) (f:Fm) (n:Int) (hN:(nds f []).length+1≤1000000000) (ht:∀x∈nds f [],Tx1 x.1):Con Try.prog [] 7 [fmD T U X f,J n] (flt (lfF f n).1 (lfF f n).2):=by
 have c18:=p3 T U X f [] (by simpa using hN);have h118:=S9 T U X (nds f []) n;have hab:∀x∈nds f [],x.2.length≤1000000000:=fun x hx=>by
  have:=mJ f [] x hx;simp only[List.length_nil] at this;omega
 unfold lfF;obtain⟨kd,p,rel,v,k,gs⟩:=f;rw[bC] at *;by_cases n1:n<1
 ·rw[if_pos (.inl n1)];refine fn7.con rfl (by simp) ?_;(repeat first|with_reducible refine kp [1,2,4,18] ?_|simp only[kV,simprocAttr,aq,aw,n1]|refine aN ?_);refine ulk ?_;(repeat first|simp only[kV,simprocAttr,aq,n1]|refine aN ?_);refine⟨_,cx (cz 7 0),ulc ?_⟩;(repeat first|with_reducible refine kp [4] ?_|simp only[kV,simprocAttr,aq,ac,af,ae,ah]|refine aN ?_)
 by_cases n4:4<n
 ·rw[if_pos (.inr n4)];refine fn7.con rfl (by simp) ?_;(repeat first|with_reducible refine kp [1,2,4,18] ?_|simp only[kV,simprocAttr,aq,aw,n1,n4]|refine aN ?_);refine ulk ?_;(repeat first|simp only[kV,simprocAttr,aq,n1]|refine aN ?_);refine⟨_,cx (cz 7 0),ulc ?_⟩;(repeat first|with_reducible refine kp [4] ?_|simp only[kV,simprocAttr,aq,ac,af,ae,ah]|refine aN ?_)
 rw[if_neg (by omega)];generalize nds (.mk kd p rel v k gs) []=L at *;by_cases h2:200<L.length
 ·rw[if_pos h2];have h2I:(200:Int)<(L.length:Int):=by omega
  refine fn7.con rfl (by simp) ?_;(repeat first|with_reducible refine kp [1,2,4,18] ?_|simp only[kV,simprocAttr,aq,aw,n1,n4]|refine aN ?_);refine ulk ?_;(repeat first|with_reducible refine kp [1,2,4] ?_|simp only[kV,simprocAttr,aq,n1,n4]|refine aN ?_);refine⟨_,cx (c18),ulc ?_⟩;(repeat first|with_reducible refine kp [1,4,5,6,27] ?_|simp only[kV,simprocAttr,aq,List.length_map,h2I]|refine aN ?_);refine ulk ?_;(repeat first|simp only[kV,simprocAttr,aq]|refine aN ?_);refine⟨_,cx (cz 9 0),ulc ?_⟩;(repeat first|with_reducible refine kp [4] ?_|simp only[kV,simprocAttr,aq,ac,af,ae,ah]|refine aN ?_)
 ·rw[if_neg h2];have h2I:¬ (200:Int)<(L.length:Int):=by omega
  have h118':=h118 (by omega) (by omega) (by omega) ht hab;refine fn7.con rfl (by simp) ?_;(repeat first|with_reducible refine kp [1,2,4,18] ?_|simp only[kV,simprocAttr,aq,aw,n1,n4]|refine aN ?_);refine ulk ?_;(repeat first|with_reducible refine kp [1,2,4] ?_|simp only[kV,simprocAttr,aq,n1,n4]|refine aN ?_);refine⟨_,cx (c18),ulc ?_⟩;(repeat first|with_reducible refine kp [1,4,5,6,27] ?_|simp only[kV,simprocAttr,aq,List.length_map,h2I]|refine aN ?_);refine ulk ?_;(repeat first|simp only[kV,simprocAttr,aq]|refine aN ?_);exact⟨_,(Sub.toG [1,4,5,6] [2,66,67,205]),h118'⟩
end Go.Proofs.Ytdchbabgopglcaa.M
