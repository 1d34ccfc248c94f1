/- Lemmas. -/
import Derived.Test.YtbnhgnhgbhjkcaaGreatL52
import Derived.Test.YtbnhgnhgbhjkcaaGreatL51
set_option linter.defProp false
set_option linter.unusedSectionVars false
set_option linter.unusedSimpArgs false
set_option linter.unusedVariables false
namespace Go.Proofs.YtbnhgnhgbhjkcaaGreat.M
open Go.RowKit
section
variable (T U V:Nat) (a:List At) (n v ord:Int) (ts:List (List UInt8)) (s t:List UInt8) (c d:List At) (f1 f2 f3:Int×Int)
abbrev zgV:List (Nat×AV):=[(0,.p (LTa T U a)),(1,.p (J n)),(2,.p (J v)),(3,.p (J ord)),(4,.p (LSt V ts)),(11,.p (.str s)),(12,.ptr 12 0 0),(13,.p (.str t)),(14,.p (TT2 c)),(15,.ptr 15 0 0),(16,.p (TT2 d)),(17,.ptr 17 0 0),(18,.ptr 18 0 0)]
abbrev zgW (w:Int×Int):List (Nat×AObj):=[(12,fB f1),(15,fB f2),(17,fB f3),(18,fB w)]
end
section
variable {a:List At}{n ord:Int} (hA:Ar a) (hg:Gd a n ord) (hla:a.length≤12)
include hg hla
end
theorem o8 {a:List At}{n:Int}{ts:List (List UInt8)} (hg:Gd a n 0) (hn:(ts.length:Int)=n):Bq 4000000 (evV a ts):=by
 rcases uj a n ts hg hn with⟨h,k⟩ | ⟨t,h,k⟩
 ·rw[k];exact Bq.zero _ (by decide)
 ·rw[k];exact (uk a n ts hg hn).2 t (by rw[h];simp)
section
variable (T U V:Nat) (a:List At) (n v ord:Int) (ts:List (List UInt8)) (hA:Ar a) (t:List UInt8) (hT:t.length≤9223372036854775807) (xs:List Rat)
include hA hT
end
theorem Gd.z {a:List At}{n ord:Int} (h:Gd a n ord):Gd a n 0:=⟨h.n1,h.n4,by decide,by decide,h.len,h.ft⟩
theorem je (a:List At){n ord:Int} (hg:Gd a n ord) (o:Int):Zs (fun j=>n.toNat≤j) (frm a o):=by
 have h:=ui a hg.z;refine Zs.cn o fun t ht j hj hs => ?_
 obtain⟨y,hy,rfl⟩:=List.mem_map.1 ht;have h1:=(iT (hg.ft y hy)).1;have key:∀e:List Int,e.length≤j→exE (rdE e) j=0:=fun e he=>by
  have h2:e.getD j 0=0:=by simp[List.getElem?_eq_none he]
  unfold exE moL rdE
  match j,hj with
  |0,_=>exact h2
  |1,_=>exact h2
  |2,_=>exact h2
  |3,_=>exact h2
 exact key y.2 (by omega)
theorem wX {S:Nat→Prop}{l m:List Tm} (h:Zs S l) (k:Zs S m):Zs S (mulT l m):=fun t ht j hj hs=>by
 obtain⟨x,hx,ht⟩:=List.mem_flatMap.1 ht;obtain⟨y,hy,rfl⟩:=List.mem_map.1 ht;have h1:=h x hx j hj hs;have h2:=k y hy j hj hs;obtain⟨p,x0,x1,x2,x3⟩:=x;obtain⟨q,y0,y1,y2,y3⟩:=y
 match j,hj with
 |0,_=>have h1:x0=0:=h1;have h2:y0=0:=h2;show x0+y0=0;omega
 |1,_=>have h1:x1=0:=h1;have h2:y1=0:=h2;show x1+y1=0;omega
 |2,_=>have h1:x2=0:=h1;have h2:y2=0:=h2;show x2+y2=0;omega
 |3,_=>have h1:x3=0:=h1;have h2:y3=0:=h2;show x3+y3=0;omega
theorem wY {S:Nat→Prop}{l m:List Tm} (h:Zs S l) (k:Zs S m):Zs S (l++m):=fun t ht=>by
 rcases List.mem_append.1 ht with ht | ht
 ·exact h t ht
 ·exact k t ht
theorem wZ {n v:Nat} (hv:v<n) (hn:n≤4){l:List Tm} (h:Zs (fun j=>n≤j) l):Zs (fun j=>n≤j) (derT v l):=fun t ht j hj hs=>by
 obtain⟨y,hy,h0,rfl⟩:=nL ht;show exE (dX y.2 v _) j=0
 rw[rR _ (by omega) hj,if_neg (by omega)];exact h y hy j hj hs
structure Aw (l:List At):Prop where
 len:l.length≤1000000
 str:∀t∈l,t.1.length≤1000000000000000000
 ex:∀t∈l,t.2.length≤4
theorem mr {x:Rat}{n:Nat} (h:Bq n x) (hn:n≤2048000000000):(frText x.num x.den).length≤1000000000000000000:=by
 have l1:=ir h.n hn;have l2:=ir h.d hn;unfold frText;split
 ·omega
 ·rw[List.length_append,List.length_cons];omega
theorem ms {n:Nat}{L:List Tm} (hb:Bc 4000000 L) (hl:L.length≤1000000):Aw (WR n L):=⟨by rw[List.length_map];exact hl,fun t ht=>by
 obtain⟨y,hy,rfl⟩:=List.mem_map.1 ht;exact mr (hb y hy) (by decide),fun t ht=>by
 obtain⟨y,hy,rfl⟩:=List.mem_map.1 ht;show ((moL y.2).take n).length≤4
 have:(moL y.2).length=4:=rfl;rw[List.length_take];omega⟩
theorem Aw.l9 {l:List At} (h:Aw l):l.length≤9223372036854775807:=by have:=h.len;omega
theorem Aw.s9 {l:List At} (h:Aw l):∀t∈l,t.1.length≤9223372036854775807:=fun t ht=>by have:=h.str t ht;omega
theorem Aw.e9 {l:List At} (h:Aw l):∀t∈l,t.2.length≤9223372036854775807:=fun t ht=>by have:=h.ex t ht;omega
theorem Aw.ov {l:List At} (h:Aw l):Con Tryz.prog AN 31 [TT2 l] (.bool (dw l)):=wS AN _ _ l (by have:=h.len;omega) fun t ht=>by have:=h.ex t ht;omega
theorem Aw.same {l:List At} (h:Aw l):Con Tryz.prog AN 15 [TT2 l,TT2 l] (.bool true):=by
 have:=wU AN 83 3 83 3 l l h.l9 h.l9 h.e9 h.e9
 rwa[decide_eq_true rfl] at this
abbrev TM:Nat:=83
abbrev TI:Nat:=3
section
variable {a b:List At}{n ord:Int} (ha:Gd a n ord) (hb:Gd b n ord)
include ha hb
theorem mt:mulA a b n ord=WR n.toNat (cr a b ord):=if_pos (by rw[i5 ha hb])
theorem ke:addA a b n ord=WR n.toNat (dJ a b ord):=if_pos (by rw[i5 ha hb])
theorem gC:Aw (mulA a b n ord):=by
 obtain⟨h1,h2⟩:=oZ a b n ord ha hb;rw[mt ha hb];exact ms h1 (by omega)
theorem w7:Aw (addA a b n ord):=by
 obtain⟨h1,h2⟩:=oY a b n ord ha hb;rw[ke ha hb];exact ms h1 (by omega)
theorem il (ho:dw (mulA a b n ord)=false):Gd (mulA a b n ord) n ord∧rdL (mulA a b n ord)=cr a b ord:=by
 rw[mt ha hb] at ho ⊢;exact mw (E:=80) ha.n1 ha.n4 ha.o0 ha.o2 ((wX (je a ha ord) (je b hb ord)).cn ord) (jO (nw (ha.fx ord) (hb.fx ord))) ho
theorem w8 (ho:dw (addA a b n ord)=false):Gd (addA a b n ord) n ord∧rdL (addA a b n ord)=dJ a b ord:=by
 rw[ke ha hb] at ho ⊢;exact mw (E:=40) ha.n1 ha.n4 ha.o0 ha.o2 ((wY (je a ha ord) (je b hb ord)).cn ord) (jO fun t ht=>by
  rcases List.mem_append.1 ht with ht | ht
  ·exact ha.fx ord t ht
  ·exact hb.fx ord t ht) ho
end
section
variable {a:List At}{n ord v:Int} (ha:Gd a n ord)
include ha
theorem kf:fK a n v ord=if 0≤v∧v<n then (0,0) else (10,0):=if_pos (by rw[ha.fm])
theorem mu (h0:0≤v) (h1:v<n):cN a n v ord=WR n.toNat (dM a v.toNat ord):=if_pos (by rw[kf ha,if_pos ⟨h0,h1⟩])
theorem mv (h0:0≤v) (h1:v<n):Aw (cN a n v ord):=by
 have n4:=ha.n4;obtain⟨-,h2,h3⟩:=vG a n ord ha v.toNat (by omega);rw[mu ha h0 h1];exact ms h2 (by omega)
theorem pZ (h0:0≤v) (h1:v<n) (ho:dw (cN a n v ord)=false):Gd (cN a n v ord) n ord∧rdL (cN a n v ord)=dM a v.toNat ord:=by
 have n4:=ha.n4;rw[mu ha h0 h1] at ho ⊢;exact mw (E:=40) ha.n1 ha.n4 ha.o0 ha.o2 ((wZ (by omega) (by omega) (je a ha ord)).cn ord) (jO (nM (by omega) (ha.fx ord))) ho
end
section
variable (T U T' U' T2 U2 V:Nat) (a b c:List At) (n v ord:Int) (ts:List (List UInt8)) (hA:Ar a) (hB:Ar b) (hC:Ar c) (hl2:ts.length≤8796093022208) (hs2:∀t∈ts,t.length≤9223372036854775807)
section
variable (ha:Gd a n ord) (hb:Gd b n ord) (ho:dw (mulA a b n ord)=false)
include hA hB ha hb ho
theorem w9:uE kH (iH (LTa T U a) (LTa T' U' b) n v ord (mulA a b n ord)) []:=by
 obtain⟨hab,rab⟩:=il ha hb ho;have n4:=ha.n4;have k1:=pB T U a n v ord hA.l9 hA.s9;have k2:=pB T' U' b n v ord hB.l9 hB.s9;rw[kf ha] at k1;rw[kf hb] at k2;refine VA _ _ n v ord _ (cN a n v ord) (cN b n v ord) (if 0≤v∧v<n then (0,0) else (10,0)) k1 k2 (fun h => ?_) (fun h => ?_)
 ·by_cases hv:0≤v∧v<n
  ·rw[if_pos hv] at h;exact absurd rfl h
  ·omega
 have hv:0≤v∧v<n:=by
  by_cases hv:0≤v∧v<n
  ·exact hv
  ·rw[if_neg hv] at h;cases h
 obtain⟨v0,v1⟩:=hv;have wa:=mv ha v0 v1;have wb:=mv hb v0 v1;refine Vz _ _ n v ord _ _ _ _ _ wa.ov wb.ov fun oa ob => ?_
 obtain⟨gda,rda⟩:=pZ ha v0 v1 oa;obtain⟨gdb,rdb⟩:=pZ hb v0 v1 ob;have wl:=gC gda hb;have wr:=gC ha gdb;refine Vy _ _ n v ord _ _ _ (mulA (cN a n v ord) b n ord) (mulA a (cN b n v ord) n ord) _ _ _ _ (jP TM TI _ n ord wa.l9 wa.s9 T' U' b hB.l9 hB.s9) (jP T U a n ord hA.l9 hA.s9 TM TI _ wb.l9 wb.s9) wl.ov wr.ov fun ol or_ => ?_
 obtain⟨gl,rl⟩:=il gda hb ol;obtain⟨gr,rr⟩:=il ha gdb or_;have wab:=gC ha hb;have k3:=pB TM TI (mulA a b n ord) n v ord wab.l9 wab.s9;have k4:=o7 TM TI (mulA (cN a n v ord) b n ord) n ord wl.l9 wl.s9 TM TI (mulA a (cN b n v ord) n ord) wr.l9 wr.s9;rw[kf hab,if_pos ⟨v0,v1⟩] at k3;rw[i5 gl gr] at k4;have eq:addA (mulA (cN a n v ord) b n ord) (mulA a (cN b n v ord) n ord) n ord=cN (mulA a b n ord) n v ord:=by
  rw[ke gl gr,mu hab v0 v1,xh (v:=v.toNat) (by omega) ha hb rab rda rdb rl rr]
 rw[eq] at k4;exact Vx n v ord _ _ _ _ k3 k4 (mv hab v0 v1).same
include hl2 hs2
theorem xa:uE kJ (j8 T U T' U' V a b n v ord ts (mulA a b n ord)) []:=by
 obtain⟨hab,rab⟩:=il ha hb ho;have h142:=w9 T U T' U' a b n v ord hA hB ha hb ho;have wab:=gC ha hb;have k1:=oD T U V a n ts hA.l9 hA.s9 (by omega) hs2;have k2:=oD T' U' V b n ts hB.l9 hB.s9 (by omega) hs2;have k3:=oD TM TI V (mulA a b n ord) n ts wab.l9 wab.s9 (by omega) hs2;have ea:evF a n ts=ptF ts n:=if_pos (by rw[ha.z.fm]);have eb:evF b n ts=ptF ts n:=if_pos (by rw[hb.z.fm]);have eab:evF (mulA a b n ord) n ts=ptF ts n:=if_pos (by rw[hab.z.fm]);rw[ea] at k1;rw[eb] at k2;rw[eab] at k3;refine wt T U T' U' V a b n v ord ts _ _ _ _ _ k1 k2 k3 ?_;by_cases hp:(ptF ts n).1=0
 ·obtain⟨hn,-⟩:=vF hp;have qa:=o8 ha.z hn;have qb:=o8 hb.z hn;have qab:=o8 hab.z hn;have ta:evT a n ts=frText (evV a ts).num (evV a ts).den:=if_pos (by rw[ea];exact hp);have tb:evT b n ts=frText (evV b ts).num (evV b ts).den:=if_pos (by rw[eb];exact hp);have tab:evT (mulA a b n ord) n ts=frText (evV (mulA a b n ord) ts).num (evV (mulA a b n ord) ts).den:=if_pos (by rw[eab];exact hp);have la:=mr qa (by decide);have lb:=mr qb (by decide);have hval:=xg ha hb rab ts;rw[ta,tb,tab];generalize evV (mulA a b n ord) ts=w at *;by_cases hl:((frText (evV a ts).num (evV a ts).den).length:Int)+((frText (evV b ts).num (evV b ts).den).length:Int)<500
  ·obtain⟨ra,-⟩:=pr (x:=evV a ts) (k:=500) (by decide) (by decide) (by omega);obtain⟨rb,-⟩:=pr (x:=evV b ts) (k:=500) (by decide) (by decide) (by omega);have z1:=uI (frText (evV a ts).num (evV a ts).den) (by omega);have z2:=uI (frText (evV b ts).num (evV b ts).den) (by omega);rw[ra] at z1;rw[rb] at z2;have z3:=ZW (evV a ts) (evV b ts) 4000000 qa qb (by decide);rw[←hval] at z3;exact VD _ _ n v ord _ _ _ _ _ h142 hp hl _ _ _ _ _ _ _ z1 z2 z3 (ZY w 4000000 qab (by decide))
  ·exact VC _ _ n v ord _ _ _ _ _ h142 hp hl la lb
 ·exact VB _ _ n v ord _ _ _ _ _ h142 hp
end
include hA hB hC hl2 hs2
theorem xc:Con Tryz.prog AN 5 [LTa T U a,LTa T' U' b,LTa T2 U2 c,J n,J v,J ord,LSt V ts] (.bool true):=by
 refine wy T U T' U' T2 U2 V a b c n v ord ts (mulA a b n ord) (f2M a b n ord) (jP T U a n ord hA.l9 hA.s9 T' U' b hB.l9 hB.s9) (fun h=>if_neg h) fun h0 => ?_
 obtain⟨ha,hb⟩:=uT h0;refine wx T U T' U' T2 U2 V a b c n v ord ts _ (addA b c n ord) (f2M b c n ord) (o7 T' U' b n ord hB.l9 hB.s9 T2 U2 c hC.l9 hC.s9) fun h1 _ _ _ _ => ?_
 obtain⟨-,hc⟩:=uT h1;have ws:=w7 hb hc;have wab:=gC ha hb;have wac:=gC ha hc;have k1:=jP T U a n ord hA.l9 hA.s9 T2 U2 c hC.l9 hC.s9;have k2:=jP T U a n ord hA.l9 hA.s9 TM TI (addA b c n ord) ws.l9 ws.s9;have k3:=o7 TM TI (mulA a b n ord) n ord wab.l9 wab.s9 TM TI (mulA a c n ord) wac.l9 wac.s9;refine ww T U T' U' T2 U2 V a b c n v ord ts _ _ _ _ _ _ _ _ k1 k2 k3 ?_;refine wv T U T' U' V a b n v ord ts _ _ _ _ _ _ _ _ _ _ _ ws.ov wac.ov wab.ov fun os oc ob => ?_
 obtain⟨gs,rs⟩:=w8 hb hc os;obtain⟨gac,rac⟩:=il ha hc oc;obtain⟨gab,rab⟩:=il ha hb ob;rw[i5 ha hc,i5 ha gs,i5 gab gac];have eq:mulA a (addA b c n ord) n ord=addA (mulA a b n ord) (mulA a c n ord) n ord:=by
  rw[mt ha gs,ke gab gac,xf rab rac rs]
 have sm:=(gC ha gs).same;refine wu T U T' U' V a b n v ord ts _ _ _ ?_ (xa T U T' U' V a b n v ord ts hA hB hl2 hs2 ha hb ob);rw[←eq];exact sm
end
end Go.Proofs.YtbnhgnhgbhjkcaaGreat.M
