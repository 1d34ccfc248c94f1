/- Polynomials modulo a prime: the list of the irreducible factors in plain Lean. Polynomials modulo a prime: Factor walked. Polynomials modulo a prime: the factors of a product are those of its factors, together: in plain Lean. -/
import Derived.Test.YtlnhembcfhfpkaaFyHx
import Derived.Test.YtlnhembcfhfpkaaFyPx
import Derived.Test.YtlnhembcfhfpkaaFyQx
import Derived.Shelf.SlSortCmp.NoneTotal
section
namespace Go.Proofs.Ytlnhembcfhfpkaa.M
open Go.RowKit Go.Proofs.Ytlnhembcfhfpkaa.Fx
set_option linter.unusedSimpArgs false
set_option linter.unusedVariables false
variable {P:Pr}
noncomputable def sqF (f:Po P):List (Po P × Nat):=sqL 65 (mon f) 1
noncomputable def facU (f:Po P):List (List Int × Int):=(sqF f).flatMap fun x=>(Nw.spF x.1).map fun g=>(g.l,(x.2:Int))
def leO (x y:List Int × Int):Bool:=decide (ordL x.1 y.1≤0)
noncomputable def facL (f:Po P):List (List Int × Int):=(facU f).mergeSort leO
theorem facL_perm (f:Po P):(facU f).Perm (facL f):=(List.mergeSort_perm _ _).symm
theorem sq_sqf {f z:Po P} {t:Nat} {l:List (Po P × Nat)} (h:SqOk f t l) {x:Po P × Nat} (hx:x∈l):Sqf x.1:=⟨(h.mo x hx).1,(h.mo x hx).2,fun q hq=>by
 by_cases hd:q∣x.1
 ·rw[(h.vl x hx q hq hd).1];exact Nat.le_refl _
 ·rw[val_0 hd hq];omega⟩
theorem facU_mem {f:Po P} (hf:f≠0) (hl:dg f≤65) (x:List Int × Int):x∈facU f↔∃ g:Po P,x.1=g.l∧Irr g∧g∣f∧x.2=(val g f:Int):=by
 have hS:SqOk (mon f) 1 (sqF f):=sqL_ok 65 (mon f) 1 (mon_mo hf) (by rw[mon_dg];exact hl)
 unfold facU
 rw[List.mem_flatMap]
 constructor
 ·rintro⟨s,hs,hx⟩
  obtain⟨g,hg,rfl⟩:=List.mem_map.1 hx
  have hsq:=sq_sqf (z:=0) hS hs
  have hsp:SpOk s.1 (Nw.spF s.1):=split_ok hsq (kerB_ok hsq.d2)
  obtain⟨hi,hd⟩:=hsp.ir g hg
  obtain⟨v1,v2,v3⟩:=hS.vl s hs g hi hd
  rw[val_mon hi hf] at v2 v3
  exact⟨g,rfl,hi,(dvd_iff hi hf).2 v3,by simp only;rw[v2,Nat.one_mul]⟩
 ·rintro⟨g,h1,hi,hd,h2⟩
  have hv:=(dvd_iff hi hf).1 hd
  obtain⟨s,hs,hgs⟩:=hS.ex g hi (by rw[val_mon hi hf];exact hv)
  have hsq:=sq_sqf (z:=0) hS hs
  have hsp:SpOk s.1 (Nw.spF s.1):=split_ok hsq (kerB_ok hsq.d2)
  refine⟨s,hs,List.mem_map.2 ⟨g,hsp.ex g hi hgs,?_⟩⟩
  obtain⟨v1,v2,v3⟩:=hS.vl s hs g hi hgs
  rw[val_mon hi hf,Nat.one_mul] at v2
  exact Prod.ext h1.symm (by simp only;rw[h2,v2])
theorem facU_nd {f:Po P} (hf:f≠0) (hl:dg f≤65):(facU f).Pairwise fun x y=>x.1≠y.1:=by
 have hS:SqOk (mon f) 1 (sqF f):=sqL_ok 65 (mon f) 1 (mon_mo hf) (by rw[mon_dg];exact hl)
 unfold facU
 rw[List.pairwise_flatMap]
 refine⟨fun s hs => ?_,?_⟩
 ·have hsq:=sq_sqf (z:=0) hS hs
  have hsp:SpOk s.1 (Nw.spF s.1):=split_ok hsq (kerB_ok hsq.d2)
  rw[List.pairwise_map]
  exact hsp.nd.imp fun {a b} h e=>h (Po.ext e)
 ·refine List.Pairwise.imp_of_mem ?_ hS.pw
  intro a b ha hb h x hx y hy e
  obtain⟨g,hg,rfl⟩:=List.mem_map.1 hx
  obtain⟨g',hg',rfl⟩:=List.mem_map.1 hy
  have e2:g=g':=Po.ext e
  subst e2
  have ha':=sq_sqf (z:=0) hS ha
  have hb':=sq_sqf (z:=0) hS hb
  have h1:=(split_ok ha' (kerB_ok ha'.d2)).ir g hg
  have h2:=(split_ok hb' (kerB_ok hb'.d2)).ir g hg'
  exact h g h1.1 ⟨h1.2,h2.2⟩
theorem facL_sorted {f:Po P} (hf:f≠0) (hl:dg f≤65):(facL f).Pairwise fun x y=>ordL x.1 y.1<0:=by
 have h1:(facL f).Pairwise fun x y=>leO x y=true:=List.pairwise_mergeSort (fun a b c h1 h2=>by
  unfold leO at *
  simp only[decide_eq_true_eq] at *
  exact (ordL_trans h1 h2).1) (fun a b=>by
  unfold leO
  have:=ordL_anti a.1 b.1
  rw[Bool.or_eq_true,decide_eq_true_eq,decide_eq_true_eq]
  omega) (facU f)
 have h2:(facL f).Pairwise fun x y=>x.1≠y.1:=(facL_perm f).pairwise (facU_nd hf hl) fun {a b} h e=>h e.symm
 refine (h1.and h2).imp fun {a b} h => ?_
 unfold leO at h
 have h3:ordL a.1 b.1≤0:=by simpa using h.1
 have h4:ordL a.1 b.1≠0:=fun e=>h.2 (ordL_0 e)
 omega
theorem facL_mem {f:Po P} (hf:f≠0) (hl:dg f≤65) (x:List Int × Int):x∈facL f↔∃ g:Po P,x.1=g.l∧Irr g∧g∣f∧x.2=(val g f:Int):=by
 rw[←(facL_perm f).mem_iff];exact facU_mem hf hl x
theorem flat_len {α β:Type} (h:α→List β) (B:Nat):∀ l:List α,(∀ x∈l,(h x).length≤B)→(l.flatMap h).length≤l.length*B
 | [],_=>by simp
 | x::l,hx=>by
  have h1:=flat_len h B l fun y hy=>hx y (by simp[hy])
  have h2:=hx x (by simp)
  rw[List.flatMap_cons,List.length_append,List.length_cons,Nat.succ_mul]
  omega
theorem spF_len {f:Po P} (hf:Sqf f):(Nw.spF f).length≤dg f:=by
 have hk:=kerB_ok hf.d2
 have h1:=hk.pos hf
 have h2:=(spB_ok hf (kerB f).length (kerB f) [f] hk.fx (SI.start hf)).1.lm (by simpa using h1)
 have h3:(kerB f).length≤dg f-1:=by unfold kerB;simp
 unfold Nw.spF
 omega
theorem facU_total {f:Po P} (hf:f≠0) (hl:dg f≤65):(facU f).length≤10000000:=by
 have hS:SqOk (mon f) 1 (sqF f):=sqL_ok 65 (mon f) 1 (mon_mo hf) (by rw[mon_dg];exact hl)
 have h1:(sqF f).length≤65*1001:=sqL_len 65 (mon f) 1 (mon_mo hf) (by rw[mon_dg];omega)
 have h2:=flat_len (fun x:Po P × Nat=>(Nw.spF x.1).map fun g=>(g.l,(x.2:Int))) 65 (sqF f) fun x hx=>by
  rw[List.length_map]
  have hsq:=sq_sqf (z:=0) hS hx
  have h3:=spF_len hsq
  have h4:dg x.1≤dg (mon f):=dg_dvd (dvd_of_val hsq.mo (mon_mo hf).ne fun q hq=>by
   by_cases hd:q∣x.1
   ·obtain⟨v1,v2,v3⟩:=hS.vl x hx q hq hd
    omega
   ·rw[val_0 hd hq];omega) (mon_mo hf).ne
  rw[mon_dg] at h4
  omega
 have h3:(sqF f).length*65≤65*1001*65:=Nat.mul_le_mul_right _ h1
 unfold facU
 omega
theorem facU_len {f:Po P} (hf:f≠0) (hl:dg f≤65):∀ x∈facU f,x.1.length≤65:=fun x hx=>by
 obtain⟨g,h1,h2,h3,-⟩:=(facU_mem hf hl x).1 hx
 rw[h1]
 exact Nat.le_trans (dg_dvd h3 hf) hl
end Go.Proofs.Ytlnhembcfhfpkaa.M
end

section
namespace Go.Proofs.Ytlnhembcfhfpkaa.M
open Go.RowKit Go.Proofs.Ytlnhembcfhfpkaa.Fx
set_option linter.unusedSimpArgs false
set_option linter.unusedVariables false
variable {P:Pr}
theorem sort_none:Con Try.prog [] 39 [.list 36 2 [],.fn (.func 40) [] []] (.tup []):=by
 intro base w vs hb _ hvs hargs
 have h0:∃ a cap,vs.getD 0 undef = .slice a 0 cap:=by
  have:=hargs 0 _ rfl
  generalize vs.getD 0 undef=x at this
  generalize hd:D.list 36 2 []=d at this
  cases this with
  | empty a cap T sz h=>exact⟨a,cap,rfl⟩
  | list b o cap T sz l c fr h1 h2 h3 h4 h5 h6 h7 =>
   simp only[D.list.injEq] at hd
   obtain⟨-,-,rfl⟩:=hd
   exact⟨_,cap,rfl⟩
  | _=>cases hd
 obtain⟨a,cap,h0⟩:=h0
 have hvs2:vs = #[vs.getD 0 undef,vs.getD 1 undef]:=by
  have h2:vs.size=2:=hvs
  apply Array.ext
  ·simp[h2]
  ·intro i h3 h4
   match i,h3 with
   | 0,h3=>simp[Array.getD,h2]
   | 1,h3=>simp[Array.getD,h2]
   | i+2,h3=>omega
 rw[hvs2,h0]
 have hS:=AnyF.slices_SortFunc_none Try.sortL a cap (vs.getD 1 undef) w
 refine Calls.mono (show Calls Try.prog 39 _ _ _ from hS) ?_
 rintro e w' ⟨rfl,rfl⟩
 exact⟨.tuple #[],rfl,.tup #[] [] rfl (fun i d h=>by cases h),Ext.rf _⟩
theorem sortX {F:Po P} (hF:F≠0) (hl:dg F≤65):ConX Try.prog [] (39+LB*(0+1)) [.list 36 2 ((facU F).map sD),.fn (.func 40) [] []] (.tup [.tup [],.list 36 2 ((facL F).map sD)]):=by
 refine LentC.x ⟨by decide,rfl,by simp only[List.length_map];exact (facL_perm F).length_eq.symm,fun h => ?_,fun h => ?_⟩
 ·rw[h];exact sort_none
 ·exact sort_lent _ _ (fun x hx=>by have:=facU_len hF hl x hx;omega) (by have:=facU_total hF hl;omega) (facL_perm F) (facL_sorted hF hl) h
end Go.Proofs.Ytlnhembcfhfpkaa.M
end

section
namespace Go.Proofs.Ytlnhembcfhfpkaa.M
open Go.RowKit Go.Proofs.Ytlnhembcfhfpkaa.Fx
set_option linter.unusedSimpArgs false
set_option linter.unusedVariables false
variable {P:Pr}
abbrev FL:=List (List Int × Int)
def va:FL→List Int→Int
 | [],_=>0
 | y::l,x=>(if y.1=x then y.2 else 0)+va l x
def Srt (l:FL):Prop:=l.Pairwise fun x y=>ordL x.1 y.1<0
def Pos (l:FL):Prop:=∀ x∈l,0<x.2
theorem ord_irr {x:List Int} (h:ordL x x<0):False:=by have:=ordL_self x;omega
theorem va_no {x:List Int}:∀ {l:FL},(∀ y∈l,y.1≠x)→va l x=0
 | [],_=>rfl
 | y::l,h=>by
  rw[va,if_neg (h y List.mem_cons_self),va_no fun z hz=>h z (List.mem_cons_of_mem _ hz)]
  rfl
theorem va_nn {x:List Int}:∀ {l:FL},Pos l→0≤va l x
 | [],_=>Int.le_refl _
 | y::l,h=>by
  rw[va]
  have h1:=h y List.mem_cons_self
  have h2:=va_nn (x:=x) (l:=l) fun z hz=>h z (List.mem_cons_of_mem _ hz)
  split<;>omega
theorem va_gt {x:List Int × Int} {l:FL} (h:Srt (x::l)):va l x.1=0:=va_no fun y hy e=>by
 have:=(List.pairwise_cons.1 h).1 y hy
 rw[e] at this
 exact ord_irr this
theorem va_mem {x:List Int × Int}:∀ {l:FL},Srt l→x∈l→va l x.1=x.2
 | [],_,h=>by cases h
 | y::l,hs,h=>by
  rw[va]
  rcases List.mem_cons.1 h with rfl | h
  ·rw[if_pos rfl,va_gt hs];omega
  ·have h1:=(List.pairwise_cons.1 hs).1 x h
   rw[if_neg (fun e=>by rw[e] at h1;exact ord_irr h1),va_mem (List.pairwise_cons.1 hs).2 h]
   omega
theorem va_pos {x:List Int} {l:FL} (h:0<va l x):∃ y∈l,y.1=x:=by
 apply Classical.byContradiction
 intro h2
 have:=va_no (l:=l) (x:=x) fun y hy e=>h2 ⟨y,hy,e⟩
 omega
structure Mg (a b c:FL):Prop where
 sa:Srt a
 sb:Srt b
 sc:Srt c
 pa:Pos a
 pb:Pos b
 pc:Pos c
 eq:∀ x,va c x=va a x+va b x
theorem Mg.symm {a b c:FL} (h:Mg a b c):Mg b a c:=⟨h.sb,h.sa,h.sc,h.pb,h.pa,h.pc,fun x=>by rw[h.eq];omega⟩
theorem Mg.nil {a b:FL} (h:Mg a b []):a=[]:=by
 rcases a with _ | ⟨y,a⟩
 ·rfl
 ·exfalso
  have h1:=h.eq y.1
  rw[va_mem h.sa List.mem_cons_self] at h1
  have h2:=h.pa y List.mem_cons_self
  have h3:=va_nn (x:=y.1) h.pb
  have h4:va ([]:FL) y.1=0:=rfl
  omega
def hd1 (a:FL) (x:List Int):Int:=match a with
 | []=>0
 | y::_=>if y.1=x then y.2 else 0
def tl1 (a:FL) (x:List Int):FL:=match a with
 | []=>[]
 | y::r=>if y.1=x then r else y::r
theorem srt_tl {a:FL} {x:List Int} (h:Srt a):Srt (tl1 a x):=by
 rcases a with _ | ⟨y,a⟩
 ·exact h
 ·unfold tl1;simp only;split
  ·exact (List.pairwise_cons.1 h).2
  ·exact h
theorem pos_tl {a:FL} {x:List Int} (h:Pos a):Pos (tl1 a x):=by
 rcases a with _ | ⟨y,a⟩
 ·exact h
 ·unfold tl1;simp only;split
  ·exact fun z hz=>h z (List.mem_cons_of_mem _ hz)
  ·exact h
theorem va_tl {a:FL} {x z:List Int}:va a z=(if x=z then hd1 a x else 0)+va (tl1 a x) z:=by
 rcases a with _ | ⟨y,a⟩
 ·simp[hd1,tl1,va]
 ·unfold hd1 tl1;simp only
  by_cases h:y.1=x
  ·rw[if_pos h,if_pos h,va,h]
  ·rw[if_neg h,if_neg h];simp
theorem Mg.hd {a b c:FL} {x:List Int × Int} (h:Mg a b (x::c)):hd1 a x.1=va a x.1:=by
 rcases a with _ | ⟨y,a⟩
 ·rfl
 ·unfold hd1;simp only
  by_cases e:y.1=x.1
  ·rw[if_pos e,←e,va_mem h.sa List.mem_cons_self]
  ·rw[if_neg e]
   symm
   apply va_no
   intro z hz e2
   rcases List.mem_cons.1 hz with rfl | hz
   ·exact e e2
   have h1:=(List.pairwise_cons.1 h.sa).1 z hz
   rw[e2] at h1
   have h2:=h.eq y.1
   rw[va_mem h.sa List.mem_cons_self] at h2
   have h3:=h.pa y List.mem_cons_self
   have h4:=va_nn (x:=y.1) h.pb
   obtain⟨w,hw,ew⟩:=va_pos (l:=x::c) (x:=y.1) (by omega)
   rcases List.mem_cons.1 hw with rfl | hw
   ·exact e ew.symm
   have h5:=(List.pairwise_cons.1 h.sc).1 w hw
   rw[ew] at h5
   exact ord_irr ((ordL_trans (Int.le_of_lt h1) (Int.le_of_lt h5)).2 (Or.inl h1))
theorem Mg.step {a b c:FL} {x:List Int × Int} (h:Mg a b (x::c)):hd1 a x.1+hd1 b x.1=x.2∧Mg (tl1 a x.1) (tl1 b x.1) c:=by
 have ha:=h.hd
 have hb:=h.symm.hd
 have h0:=h.eq x.1
 rw[va_mem h.sc List.mem_cons_self] at h0
 refine⟨by omega,srt_tl h.sa,srt_tl h.sb,(List.pairwise_cons.1 h.sc).2,pos_tl h.pa,pos_tl h.pb,fun y hy=>h.pc y (List.mem_cons_of_mem _ hy),fun z => ?_⟩
 have h1:=h.eq z
 have h2:=va_tl (a:=a) (x:=x.1) (z:=z)
 have h3:=va_tl (a:=b) (x:=x.1) (z:=z)
 rw[va] at h1
 by_cases e:x.1=z
 ·rw[if_pos e] at h1 h2 h3;omega
 ·rw[if_neg e] at h1 h2 h3;omega
theorem facL_srt {f:Po P} (hf:f≠0) (hl:dg f≤65):Srt (facL f):=facL_sorted hf hl
theorem va_facL {f:Po P} (hf:f≠0) (hl:dg f≤65) {q:Po P} (hq:Irr q):va (facL f) q.l=(val q f:Int):=by
 by_cases h:q∣f
 ·exact va_mem (x:=(q.l,(val q f:Int))) (facL_srt hf hl) ((facL_mem hf hl _).2 ⟨q,rfl,hq,h,rfl⟩)
 ·rw[val_0 h hq]
  refine va_no fun y hy e => ?_
  obtain⟨g,h1,h2,h3,h4⟩:=(facL_mem hf hl y).1 hy
  have:g=q:=Po.ext (h1.symm.trans e)
  exact h (this ▸ h3)
theorem getD_sD {A:FL} {i:Nat} (h:i<A.length):(A.map sD).getD i default = .agg [L (A.getD i ([],0)).1,I (A.getD i ([],0)).2]:=by
 simp[h];rfl
structure Sm (A:FL):Prop where
 len:A.length≤10000000
 el:∀ i,(A.getD i ([],0)).1.length≤65∧0≤(A.getD i ([],0)).2∧(A.getD i ([],0)).2≤1000
theorem facL_sm {f:Po P} (hf:f≠0) (hl:dg f≤65):Sm (facL f):=⟨by have:=facU_total hf hl;have:=(facL_perm f).length_eq;omega,fun i=>by
 by_cases h:i<(facL f).length
 ·obtain⟨g,h1,h2,h3,h4⟩:=(facL_mem hf hl ((facL f).getD i ([],0))).1 (by simp[h])
  have h5:=dg_dvd h3 hf
  have h6:=val_lt h2 hf
  rw[h1,h4]
  unfold dg at h5 h6 hl
  omega
 ·have:(facL f).getD i ([],0)=([],0):=by simp[show (facL f).length≤i by omega]
  rw[this];simp⟩
end Go.Proofs.Ytlnhembcfhfpkaa.M
end
