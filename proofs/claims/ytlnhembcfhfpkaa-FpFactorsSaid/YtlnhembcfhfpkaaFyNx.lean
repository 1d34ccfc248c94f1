/- Polynomials modulo a prime: the product of the factors, and the roots, in plain Lean. -/
import Derived.Test.YtlnhembcfhfpkaaFyJx
import Derived.Test.YtlnhembcfhfpkaaFyMx
import Derived.Test.YtlnhembcfhfpkaaK5
namespace Go.Proofs.Ytlnhembcfhfpkaa.M
open Go.RowKit Go.Proofs.Ytlnhembcfhfpkaa.Fx
set_option linter.unusedSimpArgs false
set_option linter.unusedVariables false
variable {P:Pr}
open Classical in
noncomputable def poL (l:List Int):Po P:=if h:Td l∧Rg P.p l then ⟨l,h.1,h.2⟩ else 0
theorem poL_l (g:Po P):poL g.l=g:=by unfold poL;rw[dif_pos ⟨g.td,g.rg⟩]
noncomputable def prF:FL→Po P
 | []=>1
 | x::l=>pw (poL x.1) x.2.toNat*prF l
def Irs (P:Pr) (l:FL):Prop:=∀ x∈l,∃ g:Po P,x.1=g.l∧Irr g∧1≤x.2
theorem prF_mo:∀ {l:FL},Irs P l→Mo (prF l:Po P)
 | [],_=>mo_1
 | x::l,h=>by
  obtain⟨g,h1,h2,h3⟩:=h x List.mem_cons_self
  rw[prF,h1,poL_l]
  exact (pw_mo h2.mo _).mul (prF_mo fun y hy=>h y (List.mem_cons_of_mem _ hy))
theorem prF_val {q:Po P} (hq:Irr q):∀ {l:FL},Irs P l→(val q (prF l:Po P):Int)=va l q.l
 | [],_=>by rw[prF,val_1 hq];rfl
 | x::l,h=>by
  obtain⟨g,h1,h2,h3⟩:=h x List.mem_cons_self
  have ht:Irs P l:=fun y hy=>h y (List.mem_cons_of_mem _ hy)
  have ih:=prF_val hq ht
  rw[prF,h1,poL_l,val_mul hq (pw_ne h2.ne _) (prF_mo ht).ne,val_pw hq h2.ne,va,h1]
  by_cases e:g=q
  ·subst e
   rw[if_pos rfl,val_self hq,←ih]
   omega
  ·rw[if_neg (fun e2=>e (Po.ext e2)),val_irr hq h2 (fun e2=>e e2.symm),←ih]
   omega
theorem facL_irs {F:Po P} (h0:F≠0) (hl:dg F≤65):Irs P (facL F):=fun x hx=>by
 obtain⟨g,h1,h2,h3,h4⟩:=(facL_mem h0 hl x).1 hx
 have:=(dvd_iff h2 h0).1 h3
 exact⟨g,h1,h2,by omega⟩
theorem prF_F {F:Po P} (h0:F≠0) (hl:dg F≤65):cn (lc F)*prF (facL F)=F:=by
 have e:prF (facL F)=mon F:=mo_eq (prF_mo (facL_irs h0 hl)) (mon_mo h0) fun q hq=>by
  have h1:=prF_val hq (facL_irs h0 hl)
  rw[va_facL h0 hl hq] at h1
  rw[val_mon hq h0]
  omega
 rw[e,mon_back h0]
theorem cn_lc {F:Po P} (h0:F≠0):(cn (lc F):Po P).l=[lc F]:=by
 have h:=lc_pos h0
 refine td_ext (cn (lc F):Po P).td (td_of_last fun _=>by simp;omega) fun i => ?_
 show co (cn (lc F)) i=_
 rw[co_cn]
 rcases i with _ | i
 ·rw[if_pos rfl,em_self (by omega)];rfl
 ·simp
theorem facL_short {F:Po P} (h0:F≠0) (hl:dg F≤1):facL F=[]:=by
 rcases h:facL F with _ | ⟨x,l⟩
 ·rfl
 ·exfalso
  obtain⟨g,h1,h2,h3,h4⟩:=(facL_mem h0 (by omega) x).1 (by rw[h];exact List.mem_cons_self)
  have:=dg_dvd h3 h0
  have:=h2.d2
  omega
theorem sb_cn (y:Int):∀ l:List Int,sb (cn y:Po P) l=cn (evm P.p y l)
 | []=>(cn_mod (by rfl)).symm
 | a::l=>by
  rw[sb,sb_cn y l,←cn_mul,←cn_add,evm,cn_em]
  congr 1
  rw[Int.mul_comm,Int.add_comm]
def lin (P:Pr) (y:Int):Po P:=X-cn y
theorem lin_l {y:Int} (hy:0≤y∧y<P.p):(lin P y).l=[(P.p-y) % P.p,1]:=by
 have hp:=P.p2
 refine td_ext (lin P y).td (td_of_last fun _=>by simp) fun i => ?_
 show co (lin P y) i=_
 unfold lin
 rw[show X-cn y=X + -(cn y:Po P) from rfl,co_add,co_neg,co_cn]
 show (((X:Po P).l.getD i 0)+_) % _=_
 rw[X_l]
 rcases i with _ | _ | i
 ·rw[if_pos rfl]
  simp only[List.getD_cons_zero]
  rw[Int.zero_add,em_self hy,Int.emod_emod]
  rw[show P.p-y = -y+P.p by omega,Int.add_emod_right]
 ·rw[if_neg (by omega)]
  simp only[List.getD_cons_succ,List.getD_cons_zero]
  simp
  exact Int.emod_eq_of_lt (by omega) (by omega)
 ·rw[if_neg (by omega)]
  simp
theorem lin_mo {y:Int} (hy:0≤y∧y<P.p):Mo (lin P y):=by
 show (lin P y).l.getD ((lin P y).l.length-1) 0=1
 rw[lin_l hy];rfl
theorem lin_dg {y:Int} (hy:0≤y∧y<P.p):dg (lin P y)=2:=by
 unfold dg;rw[lin_l hy];rfl
theorem irr_2 {q:Po P} (hm:Mo q) (hd:dg q=2):Irr q:=⟨hm,by omega,fun a b h=>by
 have ha:a≠0:=by rintro rfl;rw[zero_mul] at h;exact hm.ne h
 have hb:b≠0:=by rintro rfl;rw[mul_zero] at h;exact hm.ne h
 have:=dg_mul ha hb
 rw[←h] at this
 omega⟩
theorem root_iff (F:Po P) {y:Int} (hy:0≤y∧y<P.p):evm P.p y F.l=0↔lin P y∣F:=by
 have h1:lin P y∣sb X F.l-sb (cn y) F.l:=sb_cong (dvd_refl _) F.l
 rw[sb_X,mk_l,sb_cn] at h1
 have hr:=evm_rg P.pos y F.l
 constructor
 ·intro h
  rw[h,show (cn 0:Po P)=0 from cn_mod (by simp)] at h1
  rwa[show F-0=F from rg_ [F] (x0-0) x0] at h1
 ·intro h
  have h2:=dvd_sub h h1
  rw[show F-(F-cn (evm P.p y F.l))=cn (evm P.p y F.l) from rg_ [F,cn (evm P.p y F.l)] (x0-(x0-x1)) x1] at h2
  have:=cn_dvd (irr_2 (lin_mo hy) (lin_dg hy)) h2
  rwa[em_self hr] at this
structure Si (p:Int) (f:List Int) (r:List Int) (x:Int):Prop where
 so:r.Pairwise (· < ·)
 mem:∀ y,y∈r↔x≤y∧y<p∧evm p y f=0
theorem Si.no {p:Int} {f r:List Int} {x:Int} (h:Si p f r x) (he:¬ evm p x f=0):Si p f r (x+1):=⟨h.so,fun y=>by
 rw[h.mem y]
 constructor
 ·rintro⟨h1,h2,h3⟩
  refine⟨?_,h2,h3⟩
  rcases Int.lt_or_eq_of_le h1 with h4 | h4
  ·omega
  ·subst h4;exact absurd h3 he
 ·rintro⟨h1,h2,h3⟩;exact⟨by omega,h2,h3⟩⟩
theorem Si.yes {p:Int} {f r:List Int} {x:Int} (h:Si p f r x) (hx:x<p) (he:evm p x f=0):∃ r',r=x::r'∧Si p f r' (x+1):=by
 have hm:x∈r:=(h.mem x).2 ⟨Int.le_refl _,hx,he⟩
 rcases r with _ | ⟨a,r'⟩
 ·cases hm
 have h0:=(h.mem a).1 List.mem_cons_self
 obtain⟨p1,p2⟩:=List.pairwise_cons.1 h.so
 have hax:a=x:=by
  rcases List.mem_cons.1 hm with e | e
  ·exact e.symm
  ·have:=p1 x e;omega
 subst hax
 refine⟨r',rfl,p2,fun y => ?_⟩
 constructor
 ·intro hy
  have h1:=(h.mem y).1 (List.mem_cons_of_mem _ hy)
  have:=p1 y hy
  exact⟨by omega,h1.2⟩
 ·rintro⟨h1,h2,h3⟩
  have:=(h.mem y).2 ⟨by omega,h2,h3⟩
  rcases List.mem_cons.1 this with e | e
  ·omega
  ·exact e
theorem Si.nil {p:Int} {f r:List Int} (h:Si p f r p):r=[]:=by
 rcases r with _ | ⟨a,r⟩
 ·rfl
 ·have:=(h.mem a).1 List.mem_cons_self;omega
theorem rtU_mem {F:Po P} (h0:F≠0) (hl:dg F≤65) (y:Int):y∈Nz.rtU P.p (facL F)↔0≤y∧y<P.p∧evm P.p y F.l=0:=by
 unfold Nz.rtU
 rw[List.mem_map]
 constructor
 ·rintro⟨s,hs,rfl⟩
  rw[List.mem_filter] at hs
  obtain⟨hs1,hs2⟩:=hs
  have hs2:=of_decide_eq_true hs2
  obtain⟨g,h1,h2,h3,h4⟩:=(facL_mem h0 hl s).1 hs1
  have hc:=g.rg 0
  have hy:=md (a:=P.p-s.1.getD 0 0) P.pos
  refine⟨hy.1,hy.2,(root_iff F hy).2 ?_⟩
  have e:lin P ((P.p-s.1.getD 0 0) % P.p)=g:=by
   refine Po.ext ?_
   rw[lin_l hy,←h1]
   have hlast:s.1.getD 1 0=1:=by
    have:=h2.mo
    unfold Mo lc dg co at this
    rw[←h1,hs2] at this
    exact this
   have hm:(P.p-(P.p-s.1.getD 0 0) % P.p) % P.p=s.1.getD 0 0:=by
    rw[h1]
    rw[Int.sub_emod,Int.emod_emod,←Int.sub_emod,show P.p-(P.p-g.l.getD 0 0)=g.l.getD 0 0 by omega]
    exact em_self hc
   rw[hm]
   obtain⟨s1,s2⟩:=s
   simp only at hs2 hlast ⊢
   rcases s1 with _ | ⟨a,_ | ⟨b,_ | ⟨c,l⟩⟩⟩
   ·simp at hs2
   ·simp at hs2
   ·simp only[List.getD_cons_succ,List.getD_cons_zero] at hlast ⊢
    rw[hlast]
   ·simp at hs2
  rw[e];exact h3
 ·rintro⟨h1,h2,h3⟩
  have hy:0≤y∧y<P.p:=⟨h1,h2⟩
  have hd:=(root_iff F hy).1 h3
  have hi:=irr_2 (lin_mo hy) (lin_dg hy)
  refine⟨((lin P y).l,(val (lin P y) F:Int)),List.mem_filter.2 ⟨(facL_mem h0 hl _).2 ⟨lin P y,rfl,hi,hd,rfl⟩,?_⟩,?_⟩
  ·simp only;rw[lin_l hy];rfl
  ·simp only;rw[lin_l hy]
   simp only[List.getD_cons_zero]
   rw[Int.sub_emod,Int.emod_emod,←Int.sub_emod,show P.p-(P.p-y)=y by omega]
   exact em_self hy
theorem rtU_nd {F:Po P} (h0:F≠0) (hl:dg F≤65):(Nz.rtU P.p (facL F)).Nodup:=by
 unfold Nz.rtU
 have hs:=facL_srt h0 hl
 unfold List.Nodup
 rw[List.pairwise_map]
 refine List.Pairwise.imp_of_mem ?_ (hs.filter _)
 intro a b ha hb hab e
 rw[List.mem_filter] at ha hb
 have ha2:=of_decide_eq_true ha.2
 have hb2:=of_decide_eq_true hb.2
 obtain⟨g,h1,h2,h3,h4⟩:=(facL_mem h0 hl a).1 ha.1
 obtain⟨k,k1,k2,k3,k4⟩:=(facL_mem h0 hl b).1 hb.1
 have hga:=g.rg 0
 have hkb:=k.rg 0
 have key:∀ c:Int,0≤c→c<P.p→(P.p-(P.p-c) % P.p) % P.p=c:=fun c hc0 hc1=>by
  rw[Int.sub_emod,Int.emod_emod,←Int.sub_emod,show P.p-(P.p-c)=c by omega]
  exact em_self ⟨hc0,hc1⟩
 have e0:g.l.getD 0 0=k.l.getD 0 0:=by
  rw[←key _ hga.1 hga.2,←key _ hkb.1 hkb.2,←h1,←k1,e]
 have e1:g=k:=by
  refine Po.co_ext fun i => ?_
  have l1:g.l.getD 1 0=1:=by
   have:=h2.mo
   unfold Mo lc dg co at this
   rw[←h1,ha2] at this;rw[←h1];exact this
  have l2:k.l.getD 1 0=1:=by
   have:=k2.mo
   unfold Mo lc dg co at this
   rw[←k1,hb2] at this;rw[←k1];exact this
  rcases i with _ | _ | i
  ·exact e0
  ·exact l1.trans l2.symm
  ·rw[co_big (by unfold dg;rw[←h1];omega),co_big (by unfold dg;rw[←k1];omega)]
 rw[h1,k1,e1] at hab
 exact ord_irr hab
theorem si_0 {F:Po P} (h0:F≠0) (hl:dg F≤65):Si P.p F.l (srtI (Nz.rtU P.p (facL F))) 0:=by
 have hp:=List.mergeSort_perm (Nz.rtU P.p (facL F)) (fun x y:Int=>decide (x≤y))
 refine⟨?_,fun y => ?_⟩
 ·have h1:(srtI (Nz.rtU P.p (facL F))).Pairwise (fun x y=>decide (x≤y)=true):=
   List.pairwise_mergeSort (fun a b c h1 h2=>by simp only[decide_eq_true_eq] at *;omega) (fun a b=>by simp only[Bool.or_eq_true,decide_eq_true_eq];omega) _
  have h2:(srtI (Nz.rtU P.p (facL F))).Pairwise (fun x y=>x≠y):=hp.nodup_iff.2 (rtU_nd h0 hl)
  refine (List.Pairwise.and h1 h2).imp fun {a b} h => ?_
  have:=of_decide_eq_true h.1
  have:=h.2
  omega
 ·rw[←rtU_mem h0 hl y]
  exact hp.mem_iff
end Go.Proofs.Ytlnhembcfhfpkaa.M
