/- Polynomials modulo a prime: the library's sort lent a slice of the caller's. -/
import Derived.Test.YtlnhembcfhfpkaaFyLx
import Derived.Shelf.SlSortCmp.WholeK
namespace Go.Proofs.Ytlnhembcfhfpkaa.M
open Go.RowKit Go.Sort Go.Shelf
set_option linter.unusedSimpArgs false
set_option linter.unusedVariables false
theorem V.isI {w:World} {N:Nat→Prop} {v:Value} {f:List Int} {T:Nat} (h:V w N v (LT T f)) (hl:f.length≤1000000):∃ a cap,v = .slice a f.length cap∧(0<f.length→∃ b o,a=some ⟨b,o,none⟩∧N b∧∀ k,k<f.length→w.cell? ⟨b,o+k,none⟩=some (.int .i64 (f.getD k 0))):=by
 generalize hd:LT T f=d at h
 cases h with
 | empty a cap T' sz hc =>
  simp only[D.list.injEq] at hd
  have:f=[]:=by simpa using hd.2.2
  subst this
  exact⟨a,cap,rfl,fun h=>by simp at h⟩
 | list b o cap T' sz l c fr h1 h2 h3 h4 h5 h6 h7 =>
  simp only[D.list.injEq] at hd
  obtain⟨e1,e2,e3⟩:=hd
  subst e1 e2 e3
  refine⟨some ⟨b,o,none⟩,cap,by simp,fun _=>⟨b,o,rfl,h2,fun k hk => ?_⟩⟩
  have g1:(f.map (D.int .i64))[k]? = some (D.int .i64 (f.getD k 0)):=by simp[hk,List.getD_eq_getElem?_getD]
  have g2:=h7 k _ 0 _ g1 rfl
  have g3:=h6 k _ 0 _ g1 rfl
  obtain⟨T',hh,-⟩:=h1
  unfold World.cell?
  rw[hh]
  simp only[Nat.mul_one,Nat.add_zero] at g2 g3
  have g4:c[o+k]? = some (c.getD (o+k) undef):=by
   rw[Array.getD_eq_getD_getElem?,Array.getElem?_eq_getElem g3];rfl
  show (if (none:Option _).isSome=true then none else c[o+k]?)=_
  rw[g4]
  generalize c.getD (o+k) undef=x at g2
  cases g2
  rfl
 | _=>cases hd
abbrev El:=Value × (List Int × Int)
def ElOk (w:World) (N:Nat→Prop) (x:El):Prop:=V w N x.1 (L x.2.1)∧x.2.1.length≤1000000
def sD (x:List Int × Int):D:=.agg [L x.1,I x.2]
theorem heap_sort {α:Type} [Inhabited α] (enc:α→List Value) (k:Nat) (w:World) (blk off n:Nat) (d:Array α) (os:Array Obj) (i:Nat) (hi:i<w.heap.size) :
  (sortWorldK enc k w blk off n d os).heap[i]? = if i=blk then (w.heap[i]?).map (onCells (putCells id off (flatK enc k d))) else w.heap[i]?:=by
 unfold sortWorldK grow putRowK putRow mapBlock
 show (((Sort.ahead w n).heap.modify blk _)++os)[i]? = _
 rw[Array.getElem?_append_left (by simpa[Sort.ahead] using hi),Array.getElem?_modify]
 show (if blk=i then (w.heap[i]?).map _ else w.heap[i]?)=_
 by_cases e:i=blk
 ·rw[if_pos e,if_pos e.symm]
 ·rw[if_neg e,if_neg (fun h=>e h.symm)]
set_option maxHeartbeats 400000 in
theorem closure_drew (f g:List Int) (u v:Value) (a b:Int) (w:World) (hf:IsI w u f) (hg:IsI w v g):Calls Try.prog 40 #[.agg #[u,.int .i64 a],.agg #[v,.int .i64 b]] w (fun e w'=>e = .returned (.int .i64 (ordL f g))∧∃ q os,w'=grow (w.drewN q) os):=by
 have key:∀ o1 o2:Obj,Calls Try.prog 41 #[u,v] ((w.alloc o1).alloc o2) (fun e w'=>e = .returned (.int .i64 (ordL f g))∧∃ n,w'=((w.alloc o1).alloc o2).drewN n):=fun o1 o2=>by
  have up:∀ x l,IsI w x l→IsI ((w.alloc o1).alloc o2) x l:=by
   rintro x l ⟨a,cap,rfl,h1,h2⟩
   refine⟨a,cap,rfl,h1,fun h => ?_⟩
   obtain⟨b,o,rfl,h3⟩:=h2 h
   refine⟨b,o,rfl,fun k hk => ?_⟩
   have h4:=h3 k hk
   have hb:b<w.heap.size:=by
    unfold World.cell? at h4
    split at h4
    ·rename_i c T fr hh;exact lt_of_heap hh
    ·cases h4
   rw[alloc_eq_grow,alloc_eq_grow,grow_grow,cell?_grow _ _ _ hb]
   exact h4
  exact order_drew f g u v _ (up _ _ hf) (up _ _ hg)
 clear hf hg
 generalize ordL f g=r at *
 go_enter Try.func40,Try.ntmps40
 go_wp2_with (go_at_call 41;refine (key _ _).mono ?_;rintro e w' ⟨rfl,n,rfl⟩)
 go_ret
 exact⟨rfl,n,_,by rw[alloc_eq_grow,alloc_eq_grow,grow_grow];rfl⟩
theorem swo_ord {α:Type} (key:α→List Int):SWO (ltOf fun x y:α=>ordL (key x) (key y)) where
 irrefl x:=by show decide (ordL (key x) (key x)<0)=false;rw[ordL_self];rfl
 trans x y z h1 h2:=by
  unfold ltOf at *
  simp only[decide_eq_true_eq] at *
  exact (ordL_trans (by omega) (by omega)).2 (.inl h1)
 ntrans x y z h1 h2:=by
  unfold ltOf at *
  simp only[decide_eq_false_iff_not] at *
  have a1:=ordL_anti (key x) (key y)
  have a2:=ordL_anti (key y) (key z)
  have a3:=ordL_anti (key x) (key z)
  have:=(ordL_trans (f:=key z) (g:=key y) (h:=key x) (by omega) (by omega)).1
  omega
theorem ContOk.row_I {w:World} {N:Nat→Prop} {loc:Locs} {c:Array Value} {o:Nat} {l:List (List Int × Int)} (h:ContOk w N loc c o 2 (.row (l.map sD))) (i:Nat) (hi:i<l.length):V w N (c.getD (o+(i*2+0)) undef) (L (l[i]).1)∧c.getD (o+(i*2+1)) undef = .int .i64 (l[i]).2∧o+(i*2+1)<c.size:=by
 obtain⟨h1,h2,h3⟩:=h
 have g1:(l.map sD)[i]? = some (sD l[i]):=by simp[hi]
 have a:=(h3 i _ 0 (L (l[i]).1) g1 rfl).2
 have b:=(h3 i _ 1 (I (l[i]).2) g1 rfl).2
 refine⟨a,?_,?_⟩
 ·generalize c.getD (o+(i*2+1)) undef=x at b
  cases b
  rfl
 ·rw[List.length_map] at h1
  have:i*2+2≤l.length*2:=by omega
  omega
set_option maxHeartbeats 1000000 in
theorem sort_lent (l l':List (List Int × Int)) (hl:∀ x∈l,x.1.length≤1000000) (hn:l.length≤1000000000) (hp:l.Perm l') (hs:l'.Pairwise fun x y=>ordL x.1 y.1<0) (hne:l.map sD≠[]) :
  ConLent Try.prog [] 39 0 [.list 36 2 (l.map sD),.fn (.func 40) [] []] 36 2 (l.map sD) (.tup []) (l'.map sD):=by
 intro own w vs b o cap c fr hown _ hvs hargs hob hv0 hblk hcap hcap2 hcs hfr hcont
 have hbs:b<w.heap.size:=hown b hob
 rw[List.length_map] at hv0 hcap
 have hv1:vs.getD 1 undef = .func (.func 40) #[] #[]:=by
  have:=hargs 1 _ (by decide) rfl
  generalize vs.getD 1 undef=x at this
  cases this with
  | fn f x y l m h1 h2 h3 h4 =>
   have e1:x = #[]:=by simpa using h1
   have e2:y = #[]:=by simpa using h2
   rw[e1,e2]
 have hvs2:vs = #[vs.getD 0 undef,vs.getD 1 undef]:=by
  have h2:vs.size=2:=hvs
  apply Array.ext
  ·simp[h2]
  ·intro i h3 h4
   match i,h3 with
   | 0,h3=>simp[Array.getD,h2]
   | 1,h3=>simp[Array.getD,h2]
   | i+2,h3=>omega
 rw[hvs2,hv0,hv1]
 clear hv0 hv1 hargs hvs hvs2
 let N:Nat→Prop:=fun k=>k<w.heap.size∧¬ own k
 let α:={x:El // ElOk w N x}
 have hi0:0<l.length:=List.length_pos_iff.2 (by rintro rfl;exact hne rfl)
 let el:(i:Fin l.length)→α:=fun i=>⟨(c.getD (o+(i.1*2+0)) undef,l[i]),(hcont.row_I i.1 i.2).1,hl _ (List.getElem_mem _)⟩
 letI:Inhabited α:=⟨el ⟨0,hi0⟩⟩
 let enc:α→List Value:=fun x=>[x.1.1,.int .i64 x.1.2.2]
 let d:Array α:=Array.ofFn el
 have hds:d.size=l.length:=Array.size_ofFn
 have hdl:d.toList.map (fun x=>x.1.2)=l:=by
  apply List.ext_getElem
  ·simp[d]
  ·intro i h1 h2
   simp[d,el]
 have hget:∀ i (h:i<l.length),d[i]! = el ⟨i,h⟩:=fun i h=>by
  rw[getElem!_pos d i (by rw[hds];exact h)]
  simp[d]
 have hH:HoldsK enc 2 w b o d:=by
  intro j hj
  rw[size_flatK,hds] at hj
  have hj2:j / 2<l.length:=by omega
  obtain⟨q1,q2,q3⟩:=hcont.row_I (j / 2) hj2
  have hjc:o+j<c.size:=by omega
  refine⟨?_,?_⟩
  ·unfold World.cell?
   rw[hblk]
   show (if (none:Option _).isSome=true then none else c[o+j]?)=_
   rw[get_flatK _ _ _ _ (by rw[hds];exact hj),hget _ hj2,if_neg (by simp),Array.getElem?_eq_getElem hjc]
   have g:c.getD (o+j) undef=c[o+j]:=by rw[Array.getD_eq_getD_getElem?,Array.getElem?_eq_getElem hjc];rfl
   rw[←g]
   show some (c.getD (o+j) undef)=some (id ([c.getD (o+(j / 2*2+0)) undef,Value.int .i64 (l[j / 2]).2][j % 2]!))
   rcases Nat.mod_two_eq_zero_or_one j with hm | hm
   ·rw[hm,show j / 2*2+0=j by omega];rfl
   ·rw[hm]
    show _=some (Value.int .i64 (l[j / 2]).2)
    rw[←q2,show o+(j / 2*2+1)=o+j by omega]
  ·unfold World.frozen?
   rw[hblk]
   exact hfr _ hjc
 have hS:=AnyQ.slices_SortFunc Try.sortL 2 Try.isAgg36 Try.sizeOf36 enc (fun _=>rfl) (fun x v hv=>by
  simp only[enc,List.mem_cons,List.not_mem_nil,or_false] at hv
  rcases hv with rfl | rfl
  ·exact V.one x.2.1 rfl
  ·rfl) (fun x y=>ordL x.1.2.1 y.1.2.1) (swo_ord _) 40 #[] b o cap d w (enters_of Try.func40 (by kernel_rfl) rfl)
  (fun m os dk hdk x y=>by
   have up:∀ z:α,IsI (sortWorldK enc 2 w b o m dk os) z.1.1 z.1.2.1:=fun z=>by
    obtain⟨a,cp,h1,h2⟩:=V.isI z.2.1 z.2.2
    refine⟨a,cp,h1,z.2.2,fun h => ?_⟩
    obtain⟨b',o',h3,h4,h5⟩:=h2 h
    refine⟨b',o',h3,fun k hk => ?_⟩
    rw[cell?_sortWorldK_other enc 2 w b o m dk os ⟨b',o'+k,none⟩ (fun e=>h4.2 (by have e2:b'=b:=e;rw[e2];exact hob)) h4.1]
    exact h5 k hk
   exact closure_drew _ _ _ _ _ _ _ (up x) (up y)) hH hbs (by rw[hds];omega)
 rw[hds] at hS
 refine Calls.mono (show Calls Try.prog 39 _ _ _ from hS) ?_
 rintro e w' ⟨rfl,d',n,os,hperm,hsort,rfl⟩
 have hd's:d'.size=l.length:=by rw[hperm.1,hds]
 have hext:∀ a:Array α,a.size=l.length→(a.extract 0 l.length).toList=a.toList:=fun a ha=>by
  rw[←ha];simp
 have hpd:d'.toList.Perm d.toList:=by
  have:=hperm.2.2
  rwa[hext _ hd's,hext _ hds] at this
 have hl'e:d'.toList.map (fun x=>x.1.2)=l':=by
  refine sorted_eq (fun x:List Int × Int=>x.1) ?_ ?_ hs
  ·have:=hpd.map (fun x:α=>x.1.2)
   rw[hdl] at this
   exact this.trans hp
  ·rw[List.pairwise_map,List.pairwise_iff_getElem]
   intro i j h1 h2 hij
   have h3:=hsort i j (Nat.zero_le _) hij (by simpa[hd's] using h2)
   rw[getElem!_pos d' i (by simpa using h1),getElem!_pos d' j (by simpa using h2)] at h3
   unfold ltOf at h3
   simp only[decide_eq_false_iff_not] at h3
   have h4:=ordL_anti (d'.toList[i]).1.2.1 (d'.toList[j]).1.2.1
   simp only[Array.getElem_toList] at h4 ⊢
   omega
 have hll:l'.length=l.length:=hp.length_eq.symm
 have hheap:=heap_sort enc 2 w b o n d' os
 have hbw:(sortWorldK enc 2 w b o n d' os).heap[b]? = some (.cells (putCells id o (flatK enc 2 d') c) 36 fr):=by
  rw[hheap b hbs,if_pos rfl,hblk];rfl
 have hsz:w.heap.size≤(sortWorldK enc 2 w b o n d' os).heap.size:=size_sortWorldK_c enc 2 w b o n d' os
 have hcsz:(putCells id o (flatK enc 2 d') c).size=c.size:=by unfold putCells;simp
 refine⟨.tuple #[],putCells id o (flatK enc 2 d') c,rfl,⟨rfl,rfl,rfl,hsz,fun k hk hnl => ?_,fun k c1 T1 fr1 h1 => ?_,fun k c1 T1 fr1 hk h1 => ?_⟩,hbw,hcsz,?_,.tup #[] [] rfl (fun i d h=>by cases h)⟩
 ·rw[hheap k hk,if_neg (fun e=>hnl ⟨_,rfl,e.symm⟩)]
 ·have hk:=lt_of_heap h1
  rw[hheap k hk]
  by_cases e:k=b
  ·rw[if_pos e,h1]
   exact⟨_,by unfold putCells;simp,rfl⟩
  ·rw[if_neg e];exact⟨c1,rfl,h1⟩
 ·rw[hheap k hk] at h1
  by_cases e:k=b
  ·subst e
   rw[if_pos rfl,hblk] at h1
   simp only[Option.map_some,onCells,Option.some.injEq,Obj.cells.injEq] at h1
   obtain⟨rfl,rfl,rfl⟩:=h1
   exact⟨c,by unfold putCells;simp,hblk⟩
  ·rw[if_neg e] at h1;exact⟨c1,rfl,h1⟩
 ·obtain⟨m1,m2,m3⟩:=hcont
  rw[List.length_map] at m1
  refine⟨by rw[List.length_map,hcsz,hll];exact m1,fun e he => ?_,fun i e j dd h1 h2 => ?_⟩
  ·obtain⟨x,-,rfl⟩:=List.mem_map.1 he
   rfl
  ·rw[List.getElem?_map,Option.map_eq_some_iff] at h1
   obtain⟨x,hx,rfl⟩:=h1
   have hil:i<l'.length:=by
    rcases Nat.lt_or_ge i l'.length with h | h
    ·exact h
    ·rw[List.getElem?_eq_none h] at hx;cases hx
   have hi':i<d'.size:=by omega
   have hxe:x=(d'[i]).1.2:=by
    have:l'[i]? = some (d'[i]).1.2:=by rw[←hl'e];simp[hi']
    rw[this] at hx
    exact (Option.some.inj hx).symm
   have hj:j<2:=by
    rcases Nat.lt_or_ge j 2 with h | h
    ·exact h
    ·rw[show (sD x).cells=[L x.1,I x.2] from rfl,List.getElem?_eq_none (by simpa using h)] at h2;cases h2
   have hcell:(putCells id o (flatK enc 2 d') c).getD (o+(i*2+j)) undef=(enc d'[i]!)[j]!:=by
    have hlt:o+(i*2+j)<c.size:=by omega
    rw[Array.getD_eq_getD_getElem?]
    unfold putCells
    rw[Array.getElem?_mapIdx,Array.getElem?_eq_getElem hlt]
    show (if o≤o+(i*2+j)∧o+(i*2+j)<o+(flatK enc 2 d').size then id (flatK enc 2 d')[o+(i*2+j)-o]! else _)=_
    rw[size_flatK,hd's,if_pos (by omega),Nat.add_sub_cancel_left,get_flatK _ _ _ _ (by rw[hd's];omega)]
    show (enc d'[(i*2+j) / 2]!)[(i*2+j) % 2]! = _
    rw[show (i*2+j) / 2=i by omega,show (i*2+j) % 2=j by omega]
   rw[hcell,getElem!_pos d' i hi']
   rw[hxe] at h2
   have hV:V (sortWorldK enc 2 w b o n d' os) (fun k=>k<(sortWorldK enc 2 w b o n d' os).heap.size∧¬ own k) (d'[i]).1.1 (L (d'[i]).1.2.1):=V.mono (d'[i]).2.1 (fun k hk=>by
    rw[hheap k hk.1,if_neg (fun e:k=b=>hk.2 (by rw[e];exact hob))]) (fun k hk=>⟨Nat.lt_of_lt_of_le hk.1 hsz,hk.2⟩)
   match j,hj,h2 with
   | 0,_,h2 =>
    have:dd=L (d'[i]).1.2.1:=(Option.some.inj h2).symm
    subst this
    exact⟨rfl,hV⟩
   | 1,_,h2 =>
    have:dd=I (d'[i]).1.2.2:=(Option.some.inj h2).symm
    subst this
    exact⟨rfl,.int _ _⟩
end Go.Proofs.Ytlnhembcfhfpkaa.M
