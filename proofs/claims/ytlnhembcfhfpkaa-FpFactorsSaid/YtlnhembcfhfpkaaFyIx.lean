/- Polynomials modulo a prime: the library's sort of ints, laid at this program and lent a slice of the caller's. -/
import Derived.Test.YtlnhembcfhfpkaaFyQx
import Derived.Shelf.Sort.Plain
import Derived.Shelf.Slices.In.SortNone
namespace Go.Proofs
open Go.Shelf
def Try.sortI_ren:Go.Shelf.Ren:=⟨fun | 189=>49 | 125=>59 | 257=>62 | 128=>72 | 129=>73 | 294=>75 | 295=>76 | 296=>77 | 297=>78 | 298=>79 | 299=>80 | 216=>81 | 300=>82 | 301=>83 | 328=>89 | 329=>85 | 330=>86 | 331=>90 | 332=>91 | 215=>74 | 343=>93 | n=>n,fun | 28=>22 | 3=>3 | 46=>70 | 0=>0 | 51=>81 | 53=>83 | 4=>4 | 183=>74 | 182=>73 | 131=>78 | 5=>5 | 9=>9 | 218=>89 | 222=>93 | 228=>97 | 229=>98 | n=>n,fun | n=>n⟩
theorem Try.sortI:Go.Proofs.Lays.n189 Try.prog Try.sortI_ren:={
  mixed:=by kernel_rfl,
  f125:=Try.func59.trans (congrArg some (by kernel_rfl)),
  f128:=Try.func72.trans (congrArg some (by kernel_rfl)),
  f129:=Try.func73.trans (congrArg some (by kernel_rfl)),
  f189:=Try.func49.trans (congrArg some (by kernel_rfl)),
  f215:=Try.func74.trans (congrArg some (by kernel_rfl)),
  f216:=Try.func81.trans (congrArg some (by kernel_rfl)),
  f257:=Try.func62.trans (congrArg some (by kernel_rfl)),
  f294:=Try.func75.trans (congrArg some (by kernel_rfl)),
  f295:=Try.func76.trans (congrArg some (by kernel_rfl)),
  f296:=Try.func77.trans (congrArg some (by kernel_rfl)),
  f297:=Try.func78.trans (congrArg some (by kernel_rfl)),
  f298:=Try.func79.trans (congrArg some (by kernel_rfl)),
  f299:=Try.func80.trans (congrArg some (by kernel_rfl)),
  f300:=Try.func82.trans (congrArg some (by kernel_rfl)),
  f301:=Try.func83.trans (congrArg some (by kernel_rfl)),
  f328:=Try.func89.trans (congrArg some (by kernel_rfl)),
  f329:=Try.func85.trans (congrArg some (by kernel_rfl)),
  f330:=Try.func86.trans (congrArg some (by kernel_rfl)),
  f331:=Try.func90.trans (congrArg some (by kernel_rfl)),
  f332:=Try.func91.trans (congrArg some (by kernel_rfl)),
  f343:=Try.func93.trans (congrArg some (by kernel_rfl)),
  t0:=Try.underlying0,
  a0:=Try.isAgg0,
  z0:=Try.sizeOf0,
  v0:=Try.zeroValue0,
  t3:=Try.underlying3,
  a3:=Try.isAgg3,
  z3:=Try.sizeOf3,
  v3:=Try.zeroValue3,
  t4:=Try.underlying4,
  a4:=Try.isAgg4,
  z4:=Try.sizeOf4,
  v4:=Try.zeroValue4,
  t5:=Try.underlying5,
  a5:=Try.isAgg5,
  z5:=Try.sizeOf5,
  v5:=Try.zeroValue5,
  t9:=Try.underlying9,
  a9:=Try.isAgg9,
  z9:=Try.sizeOf9,
  v9:=Try.zeroValue9,
  t28:=Try.underlying22,
  a28:=Try.isAgg22,
  z28:=Try.sizeOf22,
  v28:=Try.zeroValue22,
  t46:=Try.underlying70,
  a46:=Try.isAgg70,
  z46:=Try.sizeOf70,
  v46:=Try.zeroValue70,
  t51:=Try.underlying81,
  a51:=Try.isAgg81,
  z51:=Try.sizeOf81,
  v51:=Try.zeroValue81,
  t53:=Try.underlying83,
  a53:=Try.isAgg83,
  z53:=Try.sizeOf83,
  v53:=Try.zeroValue83,
  t131:=Try.underlying78,
  a131:=Try.isAgg78,
  z131:=Try.sizeOf78,
  v131:=Try.zeroValue78,
  t182:=Try.underlying73,
  a182:=Try.isAgg73,
  z182:=Try.sizeOf73,
  v182:=Try.zeroValue73,
  t183:=Try.underlying74,
  a183:=Try.isAgg74,
  z183:=Try.sizeOf74,
  v183:=Try.zeroValue74,
  t218:=Try.underlying89,
  a218:=Try.isAgg89,
  z218:=Try.sizeOf89,
  v218:=Try.zeroValue89,
  t222:=Try.underlying93,
  a222:=Try.isAgg93,
  z222:=Try.sizeOf93,
  v222:=Try.zeroValue93,
  t228:=Try.underlying97,
  a228:=Try.isAgg97,
  z228:=Try.sizeOf97,
  v228:=Try.zeroValue97,
  t229:=Try.underlying98,
  a229:=Try.isAgg98,
  z229:=Try.sizeOf98,
  v229:=Try.zeroValue98 }
end Go.Proofs
namespace Go.Proofs.Ytlnhembcfhfpkaa.M
open Go.RowKit Go.Sort Go.Shelf
set_option linter.unusedSimpArgs false
set_option linter.unusedVariables false
def srtI (l:List Int):List Int:=l.mergeSort fun x y=>decide (x≤y)
theorem srtI_len (l:List Int):(srtI l).length=l.length:=by unfold srtI;simp
theorem heap_sortI (w:World) (blk off n:Nat) (d:Array Int) (os:Array Obj) (i:Nat) (hi:i<w.heap.size) :
  (grow (putRow (Value.int .i64) (Sort.ahead w n) blk off d) os).heap[i]? = if i=blk then (w.heap[i]?).map (onCells (putCells (Value.int .i64) off d)) else w.heap[i]?:=by
 unfold grow putRow mapBlock
 show (((Sort.ahead w n).heap.modify blk _)++os)[i]? = _
 rw[Array.getElem?_append_left (by simpa[Sort.ahead] using hi),Array.getElem?_modify]
 show (if blk=i then (w.heap[i]?).map _ else w.heap[i]?)=_
 by_cases e:i=blk
 ·rw[if_pos e,if_pos e.symm]
 ·rw[if_neg e,if_neg (fun h=>e h.symm)]
theorem size_sortI (w:World) (blk off n:Nat) (d:Array Int) (os:Array Obj):w.heap.size≤(grow (putRow (Value.int .i64) (Sort.ahead w n) blk off d) os).heap.size:=by
 unfold grow putRow mapBlock
 simp[Sort.ahead]
theorem ContOk.row_i {w:World} {N:Nat→Prop} {loc:Locs} {c:Array Value} {o:Nat} {l:List Int} (h:ContOk w N loc c o 1 (.row (l.map (D.int .i64)))) (i:Nat) (hi:i<l.length):c.getD (o+i) undef = .int .i64 l[i]∧o+i<c.size:=by
 obtain⟨h1,h2,h3⟩:=h
 have g1:(l.map (D.int .i64))[i]? = some (I l[i]):=by simp[hi]
 have a:=(h3 i _ 0 (I l[i]) g1 rfl).2
 rw[Nat.mul_one,Nat.add_zero] at a
 refine⟨?_,?_⟩
 ·generalize c.getD (o+i) undef=x at a
  cases a
  rfl
 ·rw[List.length_map] at h1
  omega
set_option maxHeartbeats 1000000 in
theorem sortI_lent (l:List Int) (hn:l.length≤1000000000) (hne:l.map (D.int .i64)≠[]) :
  ConLent Try.prog [] 49 0 [L l] 3 1 (l.map (D.int .i64)) (.tup []) ((srtI l).map (D.int .i64)):=by
 intro own w vs b o cap c fr hown _ hvs hargs hob hv0 hblk hcap hcap2 hcs hfr hcont
 have hbs:b<w.heap.size:=hown b hob
 rw[List.length_map] at hv0 hcap
 have hvs2:vs = #[vs.getD 0 undef]:=by
  have h2:vs.size=1:=hvs
  apply Array.ext
  ·simp[h2]
  ·intro i h3 h4
   match i,h3 with
   | 0,h3=>simp[Array.getD,h2]
   | i+1,h3=>omega
 rw[hvs2,hv0]
 clear hv0 hargs hvs hvs2
 have hH:Holds (Value.int .i64) w b o l.toArray:=by
  intro j hj
  have hjl:j<l.length:=by simpa using hj
  obtain⟨q1,q2⟩:=hcont.row_i j hjl
  refine⟨?_,?_⟩
  ·unfold World.cell?
   rw[hblk]
   show (if (none:Option _).isSome=true then none else c[o+j]?)=_
   rw[if_neg (by simp),Array.getElem?_eq_getElem q2]
   have g:c.getD (o+j) undef=c[o+j]:=by rw[Array.getD_eq_getD_getElem?,Array.getElem?_eq_getElem q2];rfl
   rw[←g,q1,getElem!_pos l.toArray j hj]
   rfl
  ·unfold World.frozen?
   rw[hblk]
   exact hfr _ q2
 have hS:=Any.slices_Sort_int Try.sortI b o cap l w hH hbs (by omega)
 refine Calls.mono (show Calls Try.prog 49 _ _ _ from hS) ?_
 rintro e w' ⟨rfl,n,os,rfl⟩
 have hll:=srtI_len l
 change (l.mergeSort fun x y=>decide (x≤y)).length=_ at hll
 unfold srtI
 generalize (l.mergeSort fun x y=>decide (x≤y))=l' at hll ⊢
 have hheap:=heap_sortI w b o n l'.toArray os
 have hbw:(grow (putRow (Value.int .i64) (Sort.ahead w n) b o l'.toArray) os).heap[b]? = some (.cells (putCells (Value.int .i64) o l'.toArray c) 3 fr):=by
  rw[hheap b hbs,if_pos rfl,hblk];rfl
 have hsz:=size_sortI w b o n l'.toArray os
 have hcsz:(putCells (Value.int .i64) o l'.toArray c).size=c.size:=by unfold putCells;simp
 refine⟨.tuple #[],putCells (Value.int .i64) o l'.toArray c,rfl,⟨rfl,rfl,rfl,hsz,fun k hk hnl => ?_,fun k c1 T1 fr1 h1 => ?_,fun k c1 T1 fr1 hk h1 => ?_⟩,hbw,hcsz,?_,.tup #[] [] rfl (fun i d h=>by cases h)⟩
 ·rw[hheap k hk,if_neg (fun e=>hnl ⟨_,rfl,e.symm⟩)]
 ·have hk:=lt_of_heap h1
  rw[hheap k hk]
  by_cases e:k=b
  ·rw[if_pos e,h1]
   exact⟨_,by unfold putCells;simp,rfl⟩
  ·rw[if_neg e];exact⟨c1,rfl,h1⟩
 ·rw[hheap k hk] at h1
  by_cases e:k=b
  ·subst e
   rw[if_pos rfl,hblk] at h1
   simp only[Option.map_some,onCells,Option.some.injEq,Obj.cells.injEq] at h1
   obtain⟨rfl,rfl,rfl⟩:=h1
   exact⟨c,by unfold putCells;simp,hblk⟩
  ·rw[if_neg e] at h1;exact⟨c1,rfl,h1⟩
 ·obtain⟨m1,m2,m3⟩:=hcont
  rw[List.length_map] at m1
  refine⟨by rw[List.length_map,hcsz,hll];exact m1,fun e he => ?_,fun i e j dd h1 h2 => ?_⟩
  ·obtain⟨x,-,rfl⟩:=List.mem_map.1 he
   rfl
  ·rw[List.getElem?_map,Option.map_eq_some_iff] at h1
   obtain⟨x,hx,rfl⟩:=h1
   have hil:i<l'.length:=by
    rcases Nat.lt_or_ge i l'.length with h | h
    ·exact h
    ·rw[List.getElem?_eq_none h] at hx;cases hx
   have hj:j=0:=by
    rcases j with _ | j
    ·rfl
    ·cases h2
   subst hj
   have hdd:dd=I x:=(Option.some.inj h2).symm
   subst hdd
   have hcell:(putCells (Value.int .i64) o l'.toArray c).getD (o+(i*1+0)) undef = .int .i64 x:=by
    have hlt:o+i<c.size:=by omega
    rw[Nat.mul_one,Nat.add_zero,Array.getD_eq_getD_getElem?]
    unfold putCells
    rw[Array.getElem?_mapIdx,Array.getElem?_eq_getElem hlt]
    show (if o≤o+i∧o+i<o+l'.toArray.size then Value.int .i64 l'.toArray[o+i-o]! else _)=_
    rw[if_pos ⟨by omega,by simpa using hil⟩,Nat.add_sub_cancel_left,getElem!_pos l'.toArray i (by simpa using hil)]
    rw[List.getElem?_eq_getElem hil] at hx
    have:=Option.some.inj hx
    simp[this]
   rw[hcell]
   exact⟨rfl,.int _ _⟩
theorem sortI_none:Con Try.prog [] 49 [L []] (.tup []):=by
 intro base w vs hb _ hvs hargs
 have h0:∃ a cap,vs.getD 0 undef = .slice a 0 cap:=by
  have:=hargs 0 _ rfl
  generalize vs.getD 0 undef=x at this
  generalize hd:L []=d at this
  cases this with
  | empty a cap T sz h=>exact⟨a,cap,rfl⟩
  | list b o cap T sz l c fr h1 h2 h3 h4 h5 h6 h7 =>
   simp only[D.list.injEq] at hd
   obtain⟨-,-,rfl⟩:=hd
   exact⟨_,cap,rfl⟩
  | _=>cases hd
 obtain⟨a,cap,h0⟩:=h0
 have hvs2:vs = #[vs.getD 0 undef]:=by
  have h2:vs.size=1:=hvs
  apply Array.ext
  ·simp[h2]
  ·intro i h3 h4
   match i,h3 with
   | 0,h3=>simp[Array.getD,h2]
   | i+1,h3=>omega
 rw[hvs2,h0]
 have hS:=Any.slices_Sort_int_none Try.sortI a cap w
 refine Calls.mono (show Calls Try.prog 49 _ _ _ from hS) ?_
 rintro e w' ⟨rfl,rfl⟩
 exact⟨.tuple #[],rfl,.tup #[] [] rfl (fun i d h=>by cases h),Ext.rf _⟩
theorem sortIX (l:List Int) (hn:l.length≤1000000000):ConX Try.prog [] (49+LB*(0+1)) [L l] (.tup [.tup [],L (srtI l)]):=by
 refine LentC.x ⟨by decide,rfl,by simp only[List.length_map];exact srtI_len l,fun h => ?_,fun h => ?_⟩
 ·have:l=[]:=by simpa using h
  rw[this];exact sortI_none
 ·exact sortI_lent l hn h
end Go.Proofs.Ytlnhembcfhfpkaa.M
