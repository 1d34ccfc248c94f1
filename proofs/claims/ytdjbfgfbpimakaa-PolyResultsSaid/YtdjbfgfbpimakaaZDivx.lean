/- The reference's ZDiv. -/
import Derived.Test.YtdjbfgfbpimakaaK7
namespace Go.Proofs.Ytdjbfgfbpimakaa.Z4
open Go.RowKit
def RetDiv (w:World) (q r c:Int) (e:Ending) (w':World):Prop:=
 ∃ x y:IV,e = .returned (.tuple #[.agg #[.bool x.n,.slice x.s.a x.s.len x.s.cap],.agg #[.bool y.n,.slice y.s.a y.s.len y.s.cap],.agg #[.int .i64 c,.int .i64 0]])∧IsZ w' x q∧IsZ w' y r∧Ext w w'
def Nt (n:Nat) (s:SV):Prop:=∀ b off sp,s.a=some ⟨b,off,sp⟩→b≠n
theorem Av.nt {W:World} {A:List SV} {s:SV} {n:Nat} (h:Av W A s) (hn:n<W.heap.size) (hA:∀ t∈A,Nt n t):Nt n s:=fun b off sp e=>by
 rcases h b off sp e with h | ⟨t,ht,off',sp',e'⟩
 ·omega
 ·exact hA t ht b off' sp' e'
theorem Nt.one {n:Nat} {s:SV} (h:Nt n s):∀ t∈[s],Nt n t:=fun t ht=>by
 rcases List.mem_cons.1 ht with rfl | ht
 ·exact h
 ·cases ht
theorem IsL.store {w:World} {s:SV} {k:IntKind} {l:List Int} {n:Nat} (h:IsL w s k l) (hn:Nt n s) (i:Nat) (u:Value):IsL (w.setCell ⟨n,i,none⟩ u) s k l:=by
 obtain⟨⟨h1,h2,h3,h4⟩,hf⟩:=h
 refine⟨⟨h1,h2,h3,fun hx => ?_⟩,hf⟩
 obtain⟨b,off,ha,hb,hc⟩:=h4 hx
 have hbn:=hn b off none ha
 refine⟨b,off,ha,hb.st _ _,fun j hj => ?_⟩
 rw[World.cell?_setCell_other _ _ _ _ (by intro e;injection e with e1;exact hbn e1.symm)]
 exact hc j hj
theorem IsZ.store {w:World} {x:IV} {z:Int} {n:Nat} (h:IsZ w x z) (hn:Nt n x.s) (i:Nat) (u:Value):IsZ (w.setCell ⟨n,i,none⟩ u) x z:=by
 obtain⟨l,h1,h2⟩:=h
 exact⟨l,IsL.store h1 hn i u,h2⟩
theorem len_zero_iffZ {w:World} {x:IV} {z:Int} (h:IsZ w x z):x.s.len=0↔z=0:=by
 obtain⟨l,hl,hn,hd,hv,_⟩:=isZ_size h
 have e:x.s.len=l.length:=hl.1.1
 rw[e]
 constructor
 ·intro h0
  rw[List.eq_nil_of_length_eq_zero h0] at hv
  simp[valL] at hv
  omega
 ·intro h0
  rw[h0] at hv
  rw[(valL_eq_zero hd hn).1 (by simpa using hv)];rfl
theorem isZ_lt {w:World} {x:IV} {z:Int} (h:IsZ w x z) (hz:z≠0) {b off:Nat} {sp} (e:x.s.a=some ⟨b,off,sp⟩):b<w.heap.size:=by
 obtain⟨l,hl,hn,hd,hv,_⟩:=isZ_size h
 have h0:0<l.length:=by
  rcases Nat.eq_zero_or_pos l.length with h | h
  ·rw[List.eq_nil_of_length_eq_zero h] at hv;simp[valL] at hv;omega
  ·exact h
 obtain⟨ao,cap,hs,_,_,hop⟩:=hl.open_
 obtain⟨b',off',ha,hb,_⟩:=hop h0
 rw[hs] at e
 simp only at e
 rw[ha] at e
 injection e with e
 injection e with e1 _ _
 have:=hb.lt
 omega
theorem half_step {B R l h m:Int} (_h1:B*l≤R) (_h2:R<B*h) (hl:0≤l) (hh:h≤10000) (hm:l<m) (hm2:m<h) (hB:0<B):0≤B*m∧B*m≤B*10000:=by
 constructor
 ·exact Int.mul_nonneg (by omega) (by omega)
 ·exact Int.mul_le_mul_of_nonneg_left (by omega) (by omega)
theorem half_step' {B m:Int} (hl:0≤m) (hh:m≤10000) (hB:0<B):0≤B*m∧B*m≤B*10000:=
 ⟨Int.mul_nonneg (by omega) hl,Int.mul_le_mul_of_nonneg_left hh (by omega)⟩
theorem rest_step {B R l h:Int} (h1:B*l≤R) (h2:R<B*h) (hd:h≤l+1) (hB:0<B):0≤R-B*l∧R-B*l<B:=by
 have h3:=Int.mul_le_mul_of_nonneg_left hd (show 0≤B by omega)
 rw[Int.mul_add,Int.mul_one] at h3
 omega
theorem bt_10000:Bt 10000 14:=by unfold Bt;decide
set_option maxRecDepth 100000 in
set_option maxHeartbeats 4000000 in
theorem div_ok (x y:IV) (a b:Int) (w:World) (hx:IsZ w x a) (hy:IsZ w y b) (hb:b≠0) (hs:Bt b 140737488355296) :
  Calls Try.prog 86 #[.agg #[.bool x.n,.slice x.s.a x.s.len x.s.cap],.agg #[.bool y.n,.slice y.s.a y.s.len y.s.cap]] w (RetDiv w (a / b) (a % b) 0):=by
 obtain⟨la,hla,na,da,hlea,hza,h0a,hsa⟩:=hx.open_
 obtain⟨lb,hlb,nb,db,hleb,hzb,h0b,hsb⟩:=hy.open_
 have HLA:=hd_ hla;have HLB:=hd_ hlb
 have hlb0:0<lb.length:=by
  rcases Nat.eq_zero_or_pos lb.length with h | h
  ·have h1:=List.eq_nil_of_length_eq_zero h
   subst h1
   rw[hzb] at hb
   exact absurd (by unfold sg;split<;>simp[valL]) hb
  ·exact h
 have hA0:=valL_nonneg da
 have hB0:0<valL lb:=valL_pos' db nb (by rintro rfl;simp at hlb0)
 have hsA:Hd (Sm (valL la)):=hd_ (by rw[hza] at hsa;exact hsa.le (by rw[natAbs_sg];exact Nat.le_refl _))
 have hsB:Hd (Bt (valL lb) 140737488355296):=hd_ (by rw[hzb] at hs;exact hs.le (by rw[natAbs_sg];exact Nat.le_refl _))
 obtain⟨nx,sx⟩:=x
 obtain⟨ny,sy⟩:=y
 obtain⟨ao,ca,rfl,hca,hcam,hopa⟩:=hla.open_
 obtain⟨bo,cb,rfl,hcb,hcbm,hopb⟩:=hlb.open_
 have S0:=hd_ ((((((St.nil w).add #[Value.bool nx,Value.slice ao la.length ca] 45).add' (n:=w.heap.size+1) (vs:=#[Value.bool ny,Value.slice bo lb.length cb]) (T:=45) (by simp)).add' (n:=w.heap.size+1+1) (vs:=iv zI) (T:=45) (by simp)).add' (n:=w.heap.size+1+1+1) (vs:=iv zI) (T:=45) (by simp)).add' (n:=w.heap.size+1+1+1+1) (vs:=#[.int .i64 0,.int .i64 0]) (T:=27) (by simp))
 have hmb:Hd (Sm (sg false (valL lb))):=hd_ (hsB.out.sm (by omega))
 replace hza:=hd_ hza;replace hzb:=hd_ hzb;clear h0a h0b hsa hsb hx hy hb hs
 go_enter Try.func86,Try.ntmps86
 go_wp2_with fail
 refine (made_av false ⟨bo,lb.length,cb⟩ lb _ (HLB.out.keep S0.out.ext) db hmb.out).mono ?_
 rintro e w1 ⟨yu,rfl,hu,h1,havu⟩
 have hntu:Hd (Nt (w1.heap.size+1) yu.s):=hd_ (fun b off sp e=>by have:=isZ_lt hu (by show valL lb≠0;omega) e;omega)
 clear havu
 have S1:=hd_ (S0.out.keep h1)
 obtain⟨c0,c1,-,-⟩:=S1.out.facts 4 rfl
 have z1:w.heap.size+1+1+1+1<w1.heap.size:=S1.out.lt 0 rfl
 have z0:w.heap.size<w1.heap.size:=by omega
 go_wp2_with (at_make;refine wpL_make _ rfl _ _ 43 rfl 3 .i64 8 Try.underlying43 infoI64 _ _ _ _ la.length rfl rfl (by omega) (by omega) (by omega) (by omega) ?_;intro w2 hown2 hx2 hlt2;rw[World.size_alloc] at hown2 hlt2;(have S2:=hd_ ((S1.out.add (iv yu) 45).own' (n:=w1.heap.size+1) (T:=3) hx2 hown2 (by simp)));clear c0 c1;(obtain⟨c0,c1,-,-⟩:=S2.out.facts 6 rfl);(have z2:w1.heap.size+1<w2.heap.size:=S2.out.lt 0 rfl);(have z3:w.heap.size<w2.heap.size:=by omega))
 have S3:=hd_ (S2.out.add (iv zI) 45)
 have hu3:=hd_ (hu.keep (((Ext.rf _).al _).tr hx2 |>.al (Obj.cells (iv zI) 45)))
 clear hu hlt2
 go_loopw [10] (fun i wr => ∃ (k:Nat) (xr:IV) (o:List Int) (R:Int),i = .int .i64 ((k:Int)-1)∧k≤la.length ∧
   St w wr [(w2.heap.size,45,iv xr),(w1.heap.size+1,3,(o.map (Value.int IntKind.i64)).toArray),(w1.heap.size,45,iv yu),(w.heap.size+1+1+1+1,27,#[.int .i64 0,.int .i64 0]),(w.heap.size+1+1+1,45,iv zI),(w.heap.size+1+1,45,iv zI),(w.heap.size+1,45,#[.bool ny,.slice bo lb.length cb]),(w.heap.size,45,#[.bool nx,.slice ao la.length ca])] ∧
   IsZ wr xr R∧IsZ wr yu (valL lb)∧o.length=la.length∧Dig o∧0≤R∧R<valL lb∧valL (la.drop k)=valL lb*valL (o.drop k)+R) (fun i _=>(intOf i+1).toNat)
 case atStart =>
  exact⟨la.length,zI,List.replicate la.length 0,0,rfl,Nat.le_refl _,S3.out,isZ_zero _,hu3.out,by simp,(fun x hx=>by have:=List.eq_of_mem_replicate hx;omega),Int.le_refl _,hB0,by rw[List.drop_of_length_le (Nat.le_refl _),List.drop_of_length_le (by simp)];simp[valL]⟩
 case round =>
  clear c0 c1 S3 S2 S1 S0 hown2 hx2 hu3 z1 z0 z2 z3 h1
  obtain⟨k,xr,o,R,rfl,hk,S,hr,hu,hol,hdo,hR0,hRB,hval⟩:=hrel
  replace hol:=hd_ hol
  replace hval:=hd_ hval
  obtain⟨c0,c1,-,-⟩:=S.facts 7 rfl
  obtain⟨c2,c3,-,-⟩:=S.facts 0 rfl
  match k,hk,hval with
  | 0,hk,hval =>
   have hL:=Own.isL (k:=.i64) (S.box 1 rfl) (by have:=hol.out;omega) hdo.fit
   rw[hol.out] at hL
   have hv0:=hval.out
   rw[List.drop_zero,List.drop_zero] at hv0
   have hdu:=div_unique (a:=valL la) (b:=valL lb) hv0 hR0 (by omega)
   have hDL:=div_le hA0 hB0
   have hDS:=hd_ (div_signs (m:=nx) (n:=ny) hA0 hB0)
   rw[hdu.1,hdu.2] at hDL hDS
   have hsq:Hd (∀ q' m,0≤q'→q'≤valL la→Sm (sg m q')):=hd_ (fun q' m h1 h2=>hsA.out.le (by rw[natAbs_sg];omega))
   have hsr:Hd (Sm (valL lb-R)):=hd_ ((hsB.out.sm (by omega)).le (by omega))
   clear hval hdu hv0
   replace hDL:=hd_ hDL
   obtain⟨q,hq⟩:∃ q,q=valL o:=⟨_,rfl⟩
   go_wp2_with fail
   refine (made_any false ⟨some ⟨w1.heap.size+1,0,none⟩,la.length,la.length⟩ o _ hL hdo (hsq.out _ _ hDL.out.1 hDL.out.2.1)).mono ?_
   rintro e w4 ⟨z0,rfl,hz0,hx4⟩
   rw[sg_false,←hq] at hz0
   rw[←hq] at hDL hDS
   clear hL hq
   have S4:=(S.keep hx4).add (iv z0) 45
   have hz4:=hz0.keep ((Ext.rf _).al (Obj.cells (iv z0) 45))
   have hr4:=(hr.keep hx4).keep ((Ext.rf _).al (Obj.cells (iv z0) 45))
   have hu4:=(hu.keep hx4).keep ((Ext.rf _).al (Obj.cells (iv z0) 45))
   have hlz:=len_zero_iffZ hr
   obtain⟨d0,d1,-,d3,-⟩:=S4.desc
   simp only at d0 d1 d3
   obtain⟨c0,c1,-,-⟩:=S4.facts 8 rfl
   obtain⟨c2,c3,-,-⟩:=S4.facts 1 rfl
   clear S hr hu hz0
   cases nx
   ·have hres:=hd_ (hDS.out.1 (.inl rfl))
    rw[←hza.out,←hzb.out] at hres
    clear hDS hlz hsr
    go_upto_region 24 with fail
    obtain⟨lz,hlz,-,dz,hvz,-⟩:=isZ_nonneg hz4 (hDL.out.1)
    obtain⟨e0,e1,-,-⟩:=S4.facts 8 rfl
    obtain⟨e2,e3,-,-⟩:=S4.facts 7 rfl
    obtain⟨e4,e5,-,-⟩:=S4.facts 0 rfl
    obtain⟨e6,e7,-,-⟩:=S4.facts 1 rfl
    have hvz':=hd_ hvz
    clear hvz
    have hsz:Hd (Sm (sg (ny) (q))):=hd_ (hsq.out (q) (ny) (hDL.out.1) (hDL.out.2.1))
    clear hsq
    have HS:=hd_ (show ∀ W',Ext (_) W'→Cs W' [(w.heap.size,0,Value.bool false),(w.heap.size+1,0,Value.bool ny),(w4.heap.size,1,Value.slice z0.s.a z0.s.len z0.s.cap),(w2.heap.size,0,Value.bool xr.n),(w2.heap.size,1,Value.slice xr.s.a xr.s.len xr.s.cap)] from fun W' hW=>by simp only[cs_cons,cs_nil];exact⟨cell_later hW (e0),cell_later hW (e2),cell_later hW (e5),cell_later hW (e6),cell_later hW (e7),trivial⟩)
    refine wpG_begin (S:=(fun w'=>Cs w' [(w.heap.size,0,Value.bool false),(w.heap.size+1,0,Value.bool ny),(w4.heap.size,1,Value.slice z0.s.a z0.s.len z0.s.cap),(w2.heap.size,0,Value.bool xr.n),(w2.heap.size,1,Value.slice xr.s.a xr.s.len xr.s.cap)])) (fun _=>True) (fun _=>True) 99 99 (by kernel_rfl) (fun W3 hW3 => ?_) (fun W3 hW3 hHeld => ?_)
    ·exact⟨HS.out _ hW3,trivial,trivial⟩
    have hE:=hW3
    refine wpG_take (i:=0) (oi:=_) (v:=?_) rfl (by kernel_rfl) (by kernel_rfl) (by kernel_rfl) (by decide) (by decide) (fun _ _ _ h=>h) (Or.inl ⟨by rfl,?_⟩) hHeld ?_
    rotate_left
    ·intro w hSw;(try dsimp only at hSw);(try simp only[cs_cons,cs_nil,and_true] at hSw);go_simp;(try with_reducible rfl)
    (try simp only[putR])
    replace hHeld:=hHeld.more 0
    refine wpG_take (i:=1) (oi:=_) (v:=?_) rfl (by kernel_rfl) (by kernel_rfl) (by kernel_rfl) (by decide) (by decide) (fun _ _ _ h=>h) (Or.inl ⟨by rfl,?_⟩) hHeld ?_
    rotate_left
    ·intro w hSw;(try dsimp only at hSw);(try simp only[cs_cons,cs_nil,and_true] at hSw);go_simp;(try with_reducible rfl)
    (try simp only[putR])
    replace hHeld:=hHeld.more 1
    refine wpG_take (i:=2) (oi:=_) (v:=?_) rfl (by kernel_rfl) (by kernel_rfl) (by kernel_rfl) (by decide) (by decide) (fun _ _ _ h=>h) (Or.inl ⟨by rfl,?_⟩) hHeld ?_
    rotate_left
    ·intro w hSw;(try dsimp only at hSw);(try simp only[cs_cons,cs_nil,and_true] at hSw);go_simp;(try with_reducible rfl)
    (try simp only[putR])
    replace hHeld:=hHeld.more 2
    refine wpG_take (i:=3) (oi:=_) (v:=?_) rfl (by kernel_rfl) (by kernel_rfl) (by kernel_rfl) (by decide) (by decide) (fun _ _ _ h=>h) (Or.inl ⟨by rfl,?_⟩) hHeld ?_
    rotate_left
    ·intro w hSw;(try dsimp only at hSw);(try simp only[cs_cons,cs_nil,and_true] at hSw);go_simp;(try with_reducible rfl)
    (try simp only[putR])
    replace hHeld:=hHeld.more 3
    refine wpG_take (i:=4) (oi:=_) (v:=?_) rfl (by kernel_rfl) (by kernel_rfl) (by kernel_rfl) (by decide) (by decide) (fun _ _ _ h=>h) (Or.inl ⟨by rfl,?_⟩) hHeld ?_
    rotate_left
    ·intro w hSw;(try dsimp only at hSw);(try simp only[cs_cons,cs_nil,and_true] at hSw);go_simp;(try with_reducible rfl)
    (try simp only[putR])
    replace hHeld:=hHeld.more 4
    refine wpG_take (i:=5) (oi:=_) (v:=?_) rfl (by kernel_rfl) (by kernel_rfl) (by kernel_rfl) (by decide) (by decide) (fun _ _ _ h=>h) (Or.inl ⟨by rfl,?_⟩) hHeld ?_
    rotate_left
    ·intro w hSw;(try dsimp only at hSw);(try simp only[cs_cons,cs_nil,and_true] at hSw);go_simp;(try with_reducible rfl)
    (try simp only[putR])
    replace hHeld:=hHeld.more 5
    refine wpG_take (i:=6) (oi:=_) (v:=?_) rfl (by kernel_rfl) (by kernel_rfl) (by kernel_rfl) (by decide) (by decide) (fun _ _ _ h=>h) (Or.inl ⟨by rfl,?_⟩) hHeld ?_
    rotate_left
    ·intro w hSw;(try dsimp only at hSw);(try simp only[cs_cons,cs_nil,and_true] at hSw);go_simp;(try with_reducible rfl)
    (try simp only[putR])
    replace hHeld:=hHeld.more 6
    refine wpG_take (i:=8) (oi:=_) (v:=?_) rfl (by kernel_rfl) (by kernel_rfl) (by kernel_rfl) (by decide) (by decide) (fun _ _ _ h=>h) (Or.inl ⟨by rfl,?_⟩) hHeld ?_
    rotate_left
    ·intro w hSw;(try dsimp only at hSw);(try simp only[cs_cons,cs_nil,and_true] at hSw);go_simp;(try with_reducible rfl)
    (try simp only[putR])
    replace hHeld:=hHeld.more 8
    refine wpG_take (i:=9) (oi:=_) (v:=?_) rfl (by kernel_rfl) (by kernel_rfl) (by kernel_rfl) (by decide) (by decide) (fun _ _ _ h=>h) (Or.inl ⟨by rfl,?_⟩) hHeld ?_
    rotate_left
    ·intro w hSw;(try dsimp only at hSw);(try simp only[cs_cons,cs_nil,and_true] at hSw);go_simp;(try with_reducible rfl)
    (try simp only[putR])
    replace hHeld:=hHeld.more 9
    refine wpG_step (i:=7) (o:=_) (by kernel_rfl) rfl (fun K hK => ?_)
    go_simp
    ((go_at_call 87;((with_reducible refine (made_any (ny) z0.s lz _ (hlz.keep hE) dz (by rw[hvz'.out];exact hsz.out)).mono ?_);rintro e w' ⟨zq,rfl,hzq,hx⟩);(obtain⟨q0,q1,q2,q3⟩:=(S4.keep (hE.tr hx)).facts 6 rfl);(obtain⟨q4,q5,q6,q7⟩:=(S4.keep (hE.tr hx)).facts 5 rfl);(obtain⟨q8,q9,q10,q11⟩:=(S4.keep (hE.tr hx)).facts 4 rfl)))
    (try go_wp2_with fail)
    replace hE:=hE.tr hx
    refine hK.out _ _ ⟨?_,fun _ => ?_,fun _ => ?_⟩ (fun hHeld' => ?_)
    ·(try dsimp only)
     all_goals (first | (with_reducible exact trivial) | (with_reducible exact HS.out _ hE))
    ·(try dsimp only)
     all_goals (first | (with_reducible exact trivial) | (with_reducible exact HS.out _ hE))
    ·(try dsimp only)
     all_goals (first | (with_reducible exact trivial) | (with_reducible exact HS.out _ hE))
    clear hHeld
    have hHeld:=hHeld'
    clear hHeld'
    clear hK K
    (try simp only[putR])
    refine wpG_step (i:=10) (o:=_) (by kernel_rfl) rfl (fun K hK => ?_)
    go_simp
    refine hK.out _ _ ⟨?_,fun _ => ?_,fun _ => ?_⟩ (fun hHeld' => ?_)
    ·(try dsimp only)
     all_goals (first | (with_reducible exact trivial) | (with_reducible refine hHeld.s.st2 ?_ _ _;exact (by first | trivial | (simp only[Off,ne_eq,and_true];omega))) | (with_reducible refine hHeld.s.st1 ?_ _;exact (by first | trivial | (simp only[Off,ne_eq,and_true];omega))))
    ·(try dsimp only)
     all_goals (first | (with_reducible exact trivial) | (with_reducible refine hHeld.s.st2 ?_ _ _;exact (by first | trivial | (simp only[Off,ne_eq,and_true];omega))) | (with_reducible refine hHeld.s.st1 ?_ _;exact (by first | trivial | (simp only[Off,ne_eq,and_true];omega))))
    ·(try dsimp only)
     all_goals (first | (with_reducible exact trivial) | (with_reducible refine hHeld.s.st2 ?_ _ _;exact (by first | trivial | (simp only[Off,ne_eq,and_true];omega))) | (with_reducible refine hHeld.s.st1 ?_ _;exact (by first | trivial | (simp only[Off,ne_eq,and_true];omega))))
    clear hHeld
    have hHeld:=hHeld'
    clear hHeld'
    clear hK K
    (try simp only[putR])
    refine wpG_step (i:=11) (o:=_) (by kernel_rfl) rfl (fun K hK => ?_)
    go_simp
    refine hK.out _ _ ⟨?_,fun _ => ?_,fun _ => ?_⟩ (fun hHeld' => ?_)
    ·(try dsimp only)
     all_goals (first | (with_reducible exact trivial) | (with_reducible refine hHeld.s.st2 ?_ _ _;exact (by first | trivial | (simp only[Off,ne_eq,and_true];omega))) | (with_reducible refine hHeld.s.st1 ?_ _;exact (by first | trivial | (simp only[Off,ne_eq,and_true];omega))))
    ·(try dsimp only)
     all_goals (first | (with_reducible exact trivial) | (with_reducible refine hHeld.s.st2 ?_ _ _;exact (by first | trivial | (simp only[Off,ne_eq,and_true];omega))) | (with_reducible refine hHeld.s.st1 ?_ _;exact (by first | trivial | (simp only[Off,ne_eq,and_true];omega))))
    ·(try dsimp only)
     all_goals (first | (with_reducible exact trivial) | (with_reducible refine hHeld.s.st2 ?_ _ _;exact (by first | trivial | (simp only[Off,ne_eq,and_true];omega))) | (with_reducible refine hHeld.s.st1 ?_ _;exact (by first | trivial | (simp only[Off,ne_eq,and_true];omega))))
    clear hHeld
    have hHeld:=hHeld'
    clear hHeld'
    clear hK K
    (try simp only[putR])
    refine wpG_step (i:=12) (o:=_) (by kernel_rfl) rfl (fun K hK => ?_)
    go_simp
    refine hK.out _ _ ⟨?_,fun _ => ?_,fun _ => ?_⟩ (fun hHeld' => ?_)
    ·(try dsimp only)
     all_goals (first | (with_reducible exact trivial) | (with_reducible refine hHeld.s.st2 ?_ _ _;exact (by first | trivial | (simp only[Off,ne_eq,and_true];omega))) | (with_reducible refine hHeld.s.st1 ?_ _;exact (by first | trivial | (simp only[Off,ne_eq,and_true];omega))))
    ·(try dsimp only)
     all_goals (first | (with_reducible exact trivial) | (with_reducible refine hHeld.s.st2 ?_ _ _;exact (by first | trivial | (simp only[Off,ne_eq,and_true];omega))) | (with_reducible refine hHeld.s.st1 ?_ _;exact (by first | trivial | (simp only[Off,ne_eq,and_true];omega))))
    ·(try dsimp only)
     all_goals (first | (with_reducible exact trivial) | (with_reducible refine hHeld.s.st2 ?_ _ _;exact (by first | trivial | (simp only[Off,ne_eq,and_true];omega))) | (with_reducible refine hHeld.s.st1 ?_ _;exact (by first | trivial | (simp only[Off,ne_eq,and_true];omega))))
    clear hHeld
    have hHeld:=hHeld'
    clear hHeld'
    clear hK K
    (try simp only[putR])
    refine wpG_done (by kernel_rfl) ?_ _
    clear HS hHeld
    rw[hvz'.out] at hzq
    have T0:=S4.keep hE
    have T1:=T0.set2 6 rfl (.bool zq.n) (.slice zq.s.a zq.s.len zq.s.cap)
    have T2:=T1.set2 5 rfl (.bool xr.n) (.slice xr.s.a xr.s.len xr.s.cap)
    have T3:=T2.set2 4 rfl (.int .i64 0) (.int .i64 0)
    have k1:=T0.kept2 (U:=3) 6 rfl (by decide) (.bool zq.n) (.slice zq.s.a zq.s.len zq.s.cap)
    have k2:=T1.kept2 (U:=3) 5 rfl (by decide) (.bool xr.n) (.slice xr.s.a xr.s.len xr.s.cap)
    have k3:=T2.kept2 (U:=3) 4 rfl (by decide) (.int .i64 0) (.int .i64 0)
    have hqF:=((hzq.kept k1).kept k2).kept k3
    have hrF:=(((hr4.keep hE).kept k1).kept k2).kept k3
    obtain⟨r0,r1,-,-⟩:=T3.facts 6 rfl
    obtain⟨r2,r3,-,-⟩:=T3.facts 5 rfl
    obtain⟨r4,r5,-,-⟩:=T3.facts 4 rfl
    clear q0 q1 q2 q3 q4 q5 q6 q7 q8 q9 q10 q11 e0 e1 e2 e3 e4 e5 e6 e7
    go_wp2
    refine bodyPost_ret (v:=.tuple #[.agg #[.bool zq.n,.slice zq.s.a zq.s.len zq.s.cap],.agg #[.bool xr.n,.slice xr.s.a xr.s.len xr.s.cap],.agg #[.int .i64 0,.int .i64 0]]) (by simp[results,Try.results86,go_sem,r0,r1,r2,r3,r4,r5]) rfl ⟨zq,xr,rfl,?_,?_,T3.ext⟩
    ·rw[hres.out.1];cases ny<;>exact hqF
    ·rw[hres.out.2];exact hrF
   ·by_cases hR:R=0
    ·have hl0:xr.s.len=0:=hlz.2 hR
     have hres:=hd_ (hDS.out.1 (.inr hR))
     rw[←hza.out,←hzb.out] at hres
     replace hR:=hd_ hR
     clear hDS hlz hsr
     go_upto_region 24 with fail
     clear hl0
     obtain⟨lz,hlz,-,dz,hvz,-⟩:=isZ_nonneg hz4 (hDL.out.1)
     obtain⟨e0,e1,-,-⟩:=S4.facts 8 rfl
     obtain⟨e2,e3,-,-⟩:=S4.facts 7 rfl
     obtain⟨e4,e5,-,-⟩:=S4.facts 0 rfl
     obtain⟨e6,e7,-,-⟩:=S4.facts 1 rfl
     have hvz':=hd_ hvz
     clear hvz
     have hsz:Hd (Sm (sg ((!ny)) (q))):=hd_ (hsq.out (q) ((!ny)) (hDL.out.1) (hDL.out.2.1))
     clear hsq
     have HS:=hd_ (show ∀ W',Ext (_) W'→Cs W' [(w.heap.size,0,Value.bool true),(w.heap.size+1,0,Value.bool ny),(w4.heap.size,1,Value.slice z0.s.a z0.s.len z0.s.cap),(w2.heap.size,0,Value.bool xr.n),(w2.heap.size,1,Value.slice xr.s.a xr.s.len xr.s.cap)] from fun W' hW=>by simp only[cs_cons,cs_nil];exact⟨cell_later hW (e0),cell_later hW (e2),cell_later hW (e5),cell_later hW (e6),cell_later hW (e7),trivial⟩)
     refine wpG_begin (S:=(fun w'=>Cs w' [(w.heap.size,0,Value.bool true),(w.heap.size+1,0,Value.bool ny),(w4.heap.size,1,Value.slice z0.s.a z0.s.len z0.s.cap),(w2.heap.size,0,Value.bool xr.n),(w2.heap.size,1,Value.slice xr.s.a xr.s.len xr.s.cap)])) (fun _=>True) (fun _=>True) 99 99 (by kernel_rfl) (fun W3 hW3 => ?_) (fun W3 hW3 hHeld => ?_)
     ·exact⟨HS.out _ hW3,trivial,trivial⟩
     have hE:=hW3
     refine wpG_take (i:=0) (oi:=_) (v:=?_) rfl (by kernel_rfl) (by kernel_rfl) (by kernel_rfl) (by decide) (by decide) (fun _ _ _ h=>h) (Or.inl ⟨by rfl,?_⟩) hHeld ?_
     rotate_left
     ·intro w hSw;(try dsimp only at hSw);(try simp only[cs_cons,cs_nil,and_true] at hSw);go_simp;(try with_reducible rfl)
     (try simp only[putR])
     replace hHeld:=hHeld.more 0
     refine wpG_take (i:=1) (oi:=_) (v:=?_) rfl (by kernel_rfl) (by kernel_rfl) (by kernel_rfl) (by decide) (by decide) (fun _ _ _ h=>h) (Or.inl ⟨by rfl,?_⟩) hHeld ?_
     rotate_left
     ·intro w hSw;(try dsimp only at hSw);(try simp only[cs_cons,cs_nil,and_true] at hSw);go_simp;(try with_reducible rfl)
     (try simp only[putR])
     replace hHeld:=hHeld.more 1
     refine wpG_take (i:=2) (oi:=_) (v:=?_) rfl (by kernel_rfl) (by kernel_rfl) (by kernel_rfl) (by decide) (by decide) (fun _ _ _ h=>h) (Or.inl ⟨by rfl,?_⟩) hHeld ?_
     rotate_left
     ·intro w hSw;(try dsimp only at hSw);(try simp only[cs_cons,cs_nil,and_true] at hSw);go_simp;(try with_reducible rfl)
     (try simp only[putR])
     replace hHeld:=hHeld.more 2
     refine wpG_take (i:=3) (oi:=_) (v:=?_) rfl (by kernel_rfl) (by kernel_rfl) (by kernel_rfl) (by decide) (by decide) (fun _ _ _ h=>h) (Or.inl ⟨by rfl,?_⟩) hHeld ?_
     rotate_left
     ·intro w hSw;(try dsimp only at hSw);(try simp only[cs_cons,cs_nil,and_true] at hSw);go_simp;(try with_reducible rfl)
     (try simp only[putR])
     replace hHeld:=hHeld.more 3
     refine wpG_take (i:=4) (oi:=_) (v:=?_) rfl (by kernel_rfl) (by kernel_rfl) (by kernel_rfl) (by decide) (by decide) (fun _ _ _ h=>h) (Or.inl ⟨by rfl,?_⟩) hHeld ?_
     rotate_left
     ·intro w hSw;(try dsimp only at hSw);(try simp only[cs_cons,cs_nil,and_true] at hSw);go_simp;(try with_reducible rfl)
     (try simp only[putR])
     replace hHeld:=hHeld.more 4
     refine wpG_take (i:=5) (oi:=_) (v:=?_) rfl (by kernel_rfl) (by kernel_rfl) (by kernel_rfl) (by decide) (by decide) (fun _ _ _ h=>h) (Or.inl ⟨by rfl,?_⟩) hHeld ?_
     rotate_left
     ·intro w hSw;(try dsimp only at hSw);(try simp only[cs_cons,cs_nil,and_true] at hSw);go_simp;(try with_reducible rfl)
     (try simp only[putR])
     replace hHeld:=hHeld.more 5
     refine wpG_take (i:=6) (oi:=_) (v:=?_) rfl (by kernel_rfl) (by kernel_rfl) (by kernel_rfl) (by decide) (by decide) (fun _ _ _ h=>h) (Or.inl ⟨by rfl,?_⟩) hHeld ?_
     rotate_left
     ·intro w hSw;(try dsimp only at hSw);(try simp only[cs_cons,cs_nil,and_true] at hSw);go_simp;(try with_reducible rfl)
     (try simp only[putR])
     replace hHeld:=hHeld.more 6
     refine wpG_take (i:=8) (oi:=_) (v:=?_) rfl (by kernel_rfl) (by kernel_rfl) (by kernel_rfl) (by decide) (by decide) (fun _ _ _ h=>h) (Or.inl ⟨by rfl,?_⟩) hHeld ?_
     rotate_left
     ·intro w hSw;(try dsimp only at hSw);(try simp only[cs_cons,cs_nil,and_true] at hSw);go_simp;(try with_reducible rfl)
     (try simp only[putR])
     replace hHeld:=hHeld.more 8
     refine wpG_take (i:=9) (oi:=_) (v:=?_) rfl (by kernel_rfl) (by kernel_rfl) (by kernel_rfl) (by decide) (by decide) (fun _ _ _ h=>h) (Or.inl ⟨by rfl,?_⟩) hHeld ?_
     rotate_left
     ·intro w hSw;(try dsimp only at hSw);(try simp only[cs_cons,cs_nil,and_true] at hSw);go_simp;(try with_reducible rfl)
     (try simp only[putR])
     replace hHeld:=hHeld.more 9
     refine wpG_step (i:=7) (o:=_) (by kernel_rfl) rfl (fun K hK => ?_)
     go_simp
     ((go_at_call 87;((with_reducible refine (made_any ((!ny)) z0.s lz _ (hlz.keep hE) dz (by rw[hvz'.out];exact hsz.out)).mono ?_);rintro e w' ⟨zq,rfl,hzq,hx⟩);(obtain⟨q0,q1,q2,q3⟩:=(S4.keep (hE.tr hx)).facts 6 rfl);(obtain⟨q4,q5,q6,q7⟩:=(S4.keep (hE.tr hx)).facts 5 rfl);(obtain⟨q8,q9,q10,q11⟩:=(S4.keep (hE.tr hx)).facts 4 rfl)))
     (try go_wp2_with fail)
     replace hE:=hE.tr hx
     refine hK.out _ _ ⟨?_,fun _ => ?_,fun _ => ?_⟩ (fun hHeld' => ?_)
     ·(try dsimp only)
      all_goals (first | (with_reducible exact trivial) | (with_reducible exact HS.out _ hE))
     ·(try dsimp only)
      all_goals (first | (with_reducible exact trivial) | (with_reducible exact HS.out _ hE))
     ·(try dsimp only)
      all_goals (first | (with_reducible exact trivial) | (with_reducible exact HS.out _ hE))
     clear hHeld
     have hHeld:=hHeld'
     clear hHeld'
     clear hK K
     (try simp only[putR])
     refine wpG_step (i:=10) (o:=_) (by kernel_rfl) rfl (fun K hK => ?_)
     go_simp
     refine hK.out _ _ ⟨?_,fun _ => ?_,fun _ => ?_⟩ (fun hHeld' => ?_)
     ·(try dsimp only)
      all_goals (first | (with_reducible exact trivial) | (with_reducible refine hHeld.s.st2 ?_ _ _;exact (by first | trivial | (simp only[Off,ne_eq,and_true];omega))) | (with_reducible refine hHeld.s.st1 ?_ _;exact (by first | trivial | (simp only[Off,ne_eq,and_true];omega))))
     ·(try dsimp only)
      all_goals (first | (with_reducible exact trivial) | (with_reducible refine hHeld.s.st2 ?_ _ _;exact (by first | trivial | (simp only[Off,ne_eq,and_true];omega))) | (with_reducible refine hHeld.s.st1 ?_ _;exact (by first | trivial | (simp only[Off,ne_eq,and_true];omega))))
     ·(try dsimp only)
      all_goals (first | (with_reducible exact trivial) | (with_reducible refine hHeld.s.st2 ?_ _ _;exact (by first | trivial | (simp only[Off,ne_eq,and_true];omega))) | (with_reducible refine hHeld.s.st1 ?_ _;exact (by first | trivial | (simp only[Off,ne_eq,and_true];omega))))
     clear hHeld
     have hHeld:=hHeld'
     clear hHeld'
     clear hK K
     (try simp only[putR])
     refine wpG_step (i:=11) (o:=_) (by kernel_rfl) rfl (fun K hK => ?_)
     go_simp
     refine hK.out _ _ ⟨?_,fun _ => ?_,fun _ => ?_⟩ (fun hHeld' => ?_)
     ·(try dsimp only)
      all_goals (first | (with_reducible exact trivial) | (with_reducible refine hHeld.s.st2 ?_ _ _;exact (by first | trivial | (simp only[Off,ne_eq,and_true];omega))) | (with_reducible refine hHeld.s.st1 ?_ _;exact (by first | trivial | (simp only[Off,ne_eq,and_true];omega))))
     ·(try dsimp only)
      all_goals (first | (with_reducible exact trivial) | (with_reducible refine hHeld.s.st2 ?_ _ _;exact (by first | trivial | (simp only[Off,ne_eq,and_true];omega))) | (with_reducible refine hHeld.s.st1 ?_ _;exact (by first | trivial | (simp only[Off,ne_eq,and_true];omega))))
     ·(try dsimp only)
      all_goals (first | (with_reducible exact trivial) | (with_reducible refine hHeld.s.st2 ?_ _ _;exact (by first | trivial | (simp only[Off,ne_eq,and_true];omega))) | (with_reducible refine hHeld.s.st1 ?_ _;exact (by first | trivial | (simp only[Off,ne_eq,and_true];omega))))
     clear hHeld
     have hHeld:=hHeld'
     clear hHeld'
     clear hK K
     (try simp only[putR])
     refine wpG_step (i:=12) (o:=_) (by kernel_rfl) rfl (fun K hK => ?_)
     go_simp
     refine hK.out _ _ ⟨?_,fun _ => ?_,fun _ => ?_⟩ (fun hHeld' => ?_)
     ·(try dsimp only)
      all_goals (first | (with_reducible exact trivial) | (with_reducible refine hHeld.s.st2 ?_ _ _;exact (by first | trivial | (simp only[Off,ne_eq,and_true];omega))) | (with_reducible refine hHeld.s.st1 ?_ _;exact (by first | trivial | (simp only[Off,ne_eq,and_true];omega))))
     ·(try dsimp only)
      all_goals (first | (with_reducible exact trivial) | (with_reducible refine hHeld.s.st2 ?_ _ _;exact (by first | trivial | (simp only[Off,ne_eq,and_true];omega))) | (with_reducible refine hHeld.s.st1 ?_ _;exact (by first | trivial | (simp only[Off,ne_eq,and_true];omega))))
     ·(try dsimp only)
      all_goals (first | (with_reducible exact trivial) | (with_reducible refine hHeld.s.st2 ?_ _ _;exact (by first | trivial | (simp only[Off,ne_eq,and_true];omega))) | (with_reducible refine hHeld.s.st1 ?_ _;exact (by first | trivial | (simp only[Off,ne_eq,and_true];omega))))
     clear hHeld
     have hHeld:=hHeld'
     clear hHeld'
     clear hK K
     (try simp only[putR])
     refine wpG_done (by kernel_rfl) ?_ _
     clear HS hHeld
     rw[hvz'.out] at hzq
     have T0:=S4.keep hE
     have T1:=T0.set2 6 rfl (.bool zq.n) (.slice zq.s.a zq.s.len zq.s.cap)
     have T2:=T1.set2 5 rfl (.bool xr.n) (.slice xr.s.a xr.s.len xr.s.cap)
     have T3:=T2.set2 4 rfl (.int .i64 0) (.int .i64 0)
     have k1:=T0.kept2 (U:=3) 6 rfl (by decide) (.bool zq.n) (.slice zq.s.a zq.s.len zq.s.cap)
     have k2:=T1.kept2 (U:=3) 5 rfl (by decide) (.bool xr.n) (.slice xr.s.a xr.s.len xr.s.cap)
     have k3:=T2.kept2 (U:=3) 4 rfl (by decide) (.int .i64 0) (.int .i64 0)
     have hqF:=((hzq.kept k1).kept k2).kept k3
     have hrF:=(((hr4.keep hE).kept k1).kept k2).kept k3
     obtain⟨r0,r1,-,-⟩:=T3.facts 6 rfl
     obtain⟨r2,r3,-,-⟩:=T3.facts 5 rfl
     obtain⟨r4,r5,-,-⟩:=T3.facts 4 rfl
     clear q0 q1 q2 q3 q4 q5 q6 q7 q8 q9 q10 q11 e0 e1 e2 e3 e4 e5 e6 e7
     go_wp2
     refine bodyPost_ret (v:=.tuple #[.agg #[.bool zq.n,.slice zq.s.a zq.s.len zq.s.cap],.agg #[.bool xr.n,.slice xr.s.a xr.s.len xr.s.cap],.agg #[.int .i64 0,.int .i64 0]]) (by simp[results,Try.results86,go_sem,r0,r1,r2,r3,r4,r5]) rfl ⟨zq,xr,rfl,?_,?_,T3.ext⟩
     ·rw[hres.out.1];cases ny<;>exact hqF
     ·rw[hres.out.2];exact hrF
    ·have hl0:0<xr.s.len:=by
      rcases Nat.eq_zero_or_pos xr.s.len with h | h
      ·exact absurd (hlz.1 h) hR
      ·exact h
     have hRp:0<R:=by omega
     have hres:=hd_ (hDS.out.2 rfl hRp)
     rw[←hza.out,←hzb.out] at hres
     have hq1:=hDL.out.2.2.2.2.2 hRp
     have hq0:=hDL.out.1
     have hsq1:Hd (Sm (q+1)):=hd_ (hsq.out (q+1) false (by omega) hq1)
     clear hDS hlz hDL
     go_upto_region 22 with fail
     clear hl0 c0 c1 c2 c3
     obtain⟨c0,c1,-,-⟩:=S4.facts 0 rfl
     generalize w4.alloc (Obj.cells #[Value.bool z0.n,Value.slice z0.s.a z0.s.len z0.s.cap] 45)=w5 at *
     have HA:=hd_ (show ∀ W',Ext (w5) W'→Cs W' [(w4.heap.size,0,Value.bool z0.n),(w4.heap.size,1,Value.slice z0.s.a z0.s.len z0.s.cap)] from fun W' hW=>by simp only[cs_cons,cs_nil];exact⟨cell_later hW (c0),cell_later hW (c1),trivial⟩)
     refine wpG_begin (S:=(fun _=>True)) (fun w'=>Cs w' [(w4.heap.size,0,Value.bool z0.n),(w4.heap.size,1,Value.slice z0.s.a z0.s.len z0.s.cap)]) (fun _=>True) 3 3 (by kernel_rfl) (fun W3 hW3 => ?_) (fun W3 hW3 hHeld => ?_)
     ·exact⟨trivial,HA.out _ hW3,trivial⟩
     have hE:=hW3
     refine wpG_takeA (i:=0) (oi:=_) (v:=?_) rfl (by kernel_rfl) (by kernel_rfl) (by kernel_rfl) (by decide) (by decide) (by kernel_rfl) (by kernel_rfl) (fun _ _ _ h=>h) (Or.inl ⟨by rfl,?_⟩) hHeld ?_
     rotate_left
     ·intro w hSw;(try dsimp only at hSw);(try simp only[cs_cons,cs_nil,and_true] at hSw);go_simp;(try with_reducible rfl)
     (try simp only[putR])
     replace hHeld:=hHeld.more 0
     refine wpG_step (i:=1) (o:=_) (by kernel_rfl) rfl (fun K hK => ?_)
     go_simp
     (first
           | (go_at_call 73;((with_reducible refine (of_any 1 _ (by omega)).mono ?_);rintro e w' ⟨z1,rfl,hz1,hx⟩))
           | (go_at_call 98;((with_reducible refine (add_any z0 z1 q 1 _ (hz4.keep hE) hz1 hsq1.out).mono ?_);rintro e w' ⟨z2,rfl,hz2,hx⟩;(obtain⟨q0,q1,q2,q3⟩:=(S4.keep (hE.tr hx)).facts 0 rfl))))
     (try go_wp2_with fail)
     replace hE:=hE.tr hx
     refine hK.out _ _ ⟨?_,fun _ => ?_,fun _ => ?_⟩ (fun hHeld' => ?_)
     ·(try dsimp only)
      all_goals (first | (with_reducible exact trivial) | (with_reducible exact HA.out _ hE))
     ·(try dsimp only)
      all_goals (first | (with_reducible exact trivial) | (with_reducible exact HA.out _ hE))
     ·(try dsimp only)
      all_goals (first | (with_reducible exact trivial) | (with_reducible exact HA.out _ hE))
     clear hHeld
     have hHeld:=hHeld'
     clear hHeld'
     clear hK K
     (try simp only[putR])
     refine wpG_step (i:=2) (o:=_) (by kernel_rfl) rfl (fun K hK => ?_)
     go_simp
     (first
           | (go_at_call 73;((with_reducible refine (of_any 1 _ (by omega)).mono ?_);rintro e w' ⟨z1,rfl,hz1,hx⟩))
           | (go_at_call 98;((with_reducible refine (add_any z0 z1 q 1 _ (hz4.keep hE) hz1 hsq1.out).mono ?_);rintro e w' ⟨z2,rfl,hz2,hx⟩;(obtain⟨q0,q1,q2,q3⟩:=(S4.keep (hE.tr hx)).facts 0 rfl))))
     (try go_wp2_with fail)
     replace hE:=hE.tr hx
     refine hK.out _ _ ⟨?_,fun _ => ?_,fun _ => ?_⟩ (fun hHeld' => ?_)
     ·(try dsimp only)
      all_goals (first | (with_reducible exact trivial) | (with_reducible exact HA.out _ hE))
     ·(try dsimp only)
      all_goals (first | (with_reducible exact trivial) | (with_reducible exact HA.out _ hE))
     ·(try dsimp only)
      all_goals (first | (with_reducible exact trivial) | (with_reducible exact HA.out _ hE))
     clear hHeld
     have hHeld:=hHeld'
     clear hHeld'
     clear hK K
     (try simp only[putR])
     refine wpG_step (i:=3) (o:=_) (by kernel_rfl) rfl (fun K hK => ?_)
     go_simp
     refine hK.out _ _ ⟨?_,notF (by kernel_rfl),notF (by kernel_rfl)⟩ (fun hHeld' => ?_)
     ·(try dsimp only)
      all_goals (first | (with_reducible exact trivial))
     clear hHeld
     have hHeld:=hHeld'
     clear hHeld'
     clear hK K
     (try simp only[putR])
     refine wpG_done (by kernel_rfl) ?_ _
     clear HA hHeld
     have S5:=(S4.keep hE).set2 0 rfl (.bool z2.n) (.slice z2.s.a z2.s.len z2.s.cap)
     have hz5:=hz2.kept ((S4.keep hE).kept2 (U:=3) 0 rfl (by decide) (.bool z2.n) (.slice z2.s.a z2.s.len z2.s.cap))
     have hr5:=(hr4.keep hE).kept ((S4.keep hE).kept2 (U:=3) 0 rfl (by decide) (.bool z2.n) (.slice z2.s.a z2.s.len z2.s.cap))
     have hu5:=(hu4.keep hE).kept ((S4.keep hE).kept2 (U:=3) 0 rfl (by decide) (.bool z2.n) (.slice z2.s.a z2.s.len z2.s.cap))
     dsimp only[List.set] at S5
     clear q0 q1 q2 q3 c0 c1 S4 hr4 hu4 hz4 hz1 hz2
     generalize (w'.setCell ⟨w4.heap.size,0,none⟩ (Value.bool z2.n)).setCell ⟨w4.heap.size,1,none⟩ (Value.slice z2.s.a z2.s.len z2.s.cap)=w6 at *
     obtain⟨c0,c1,-,-⟩:=S5.facts 1 rfl
     obtain⟨c2,c3,-,-⟩:=S5.facts 3 rfl
     go_wp2_with fail
     refine (sub_any yu xr (valL lb) R _ hu5 hr5 hsr.out).mono ?_
     rintro e w7 ⟨z3,rfl,hz3,hx7⟩
     obtain⟨q0,q1,q2,q3⟩:=(S5.keep hx7).facts 1 rfl
     have S7:=(S5.keep hx7).set2 1 rfl (.bool z3.n) (.slice z3.s.a z3.s.len z3.s.cap)
     have hz7:=(hz5.keep hx7).kept ((S5.keep hx7).kept2 (U:=3) 1 rfl (by decide) (.bool z3.n) (.slice z3.s.a z3.s.len z3.s.cap))
     have hr7:=hz3.kept ((S5.keep hx7).kept2 (U:=3) 1 rfl (by decide) (.bool z3.n) (.slice z3.s.a z3.s.len z3.s.cap))
     dsimp only[List.set] at S7
     clear c0 c1 c2 c3
     go_upto_region 24 with fail
     clear q0 q1 q2 q3
     generalize (w7.setCell ⟨w2.heap.size,0,none⟩ (Value.bool z3.n)).setCell ⟨w2.heap.size,1,none⟩ (Value.slice z3.s.a z3.s.len z3.s.cap)=w8 at *
     obtain⟨lz,hlz,-,dz,hvz,-⟩:=isZ_nonneg hz7 ((show 0≤q+1 by omega))
     obtain⟨e0,e1,-,-⟩:=S7.facts 8 rfl
     obtain⟨e2,e3,-,-⟩:=S7.facts 7 rfl
     obtain⟨e4,e5,-,-⟩:=S7.facts 0 rfl
     obtain⟨e6,e7,-,-⟩:=S7.facts 1 rfl
     have hvz':=hd_ hvz
     clear hvz
     have hsz:Hd (Sm (sg ((!ny)) ((q+1)))):=hd_ (hsq.out ((q+1)) ((!ny)) ((show 0≤q+1 by omega)) (hq1))
     clear hsq
     have HS:=hd_ (show ∀ W',Ext (_) W'→Cs W' [(w.heap.size,0,Value.bool true),(w.heap.size+1,0,Value.bool ny),(w4.heap.size,1,Value.slice z2.s.a z2.s.len z2.s.cap),(w2.heap.size,0,Value.bool z3.n),(w2.heap.size,1,Value.slice z3.s.a z3.s.len z3.s.cap)] from fun W' hW=>by simp only[cs_cons,cs_nil];exact⟨cell_later hW (e0),cell_later hW (e2),cell_later hW (e5),cell_later hW (e6),cell_later hW (e7),trivial⟩)
     refine wpG_begin (S:=(fun w'=>Cs w' [(w.heap.size,0,Value.bool true),(w.heap.size+1,0,Value.bool ny),(w4.heap.size,1,Value.slice z2.s.a z2.s.len z2.s.cap),(w2.heap.size,0,Value.bool z3.n),(w2.heap.size,1,Value.slice z3.s.a z3.s.len z3.s.cap)])) (fun _=>True) (fun _=>True) 99 99 (by kernel_rfl) (fun W3 hW3 => ?_) (fun W3 hW3 hHeld => ?_)
     ·exact⟨HS.out _ hW3,trivial,trivial⟩
     have hE:=hW3
     refine wpG_take (i:=0) (oi:=_) (v:=?_) rfl (by kernel_rfl) (by kernel_rfl) (by kernel_rfl) (by decide) (by decide) (fun _ _ _ h=>h) (Or.inl ⟨by rfl,?_⟩) hHeld ?_
     rotate_left
     ·intro w hSw;(try dsimp only at hSw);(try simp only[cs_cons,cs_nil,and_true] at hSw);go_simp;(try with_reducible rfl)
     (try simp only[putR])
     replace hHeld:=hHeld.more 0
     refine wpG_take (i:=1) (oi:=_) (v:=?_) rfl (by kernel_rfl) (by kernel_rfl) (by kernel_rfl) (by decide) (by decide) (fun _ _ _ h=>h) (Or.inl ⟨by rfl,?_⟩) hHeld ?_
     rotate_left
     ·intro w hSw;(try dsimp only at hSw);(try simp only[cs_cons,cs_nil,and_true] at hSw);go_simp;(try with_reducible rfl)
     (try simp only[putR])
     replace hHeld:=hHeld.more 1
     refine wpG_take (i:=2) (oi:=_) (v:=?_) rfl (by kernel_rfl) (by kernel_rfl) (by kernel_rfl) (by decide) (by decide) (fun _ _ _ h=>h) (Or.inl ⟨by rfl,?_⟩) hHeld ?_
     rotate_left
     ·intro w hSw;(try dsimp only at hSw);(try simp only[cs_cons,cs_nil,and_true] at hSw);go_simp;(try with_reducible rfl)
     (try simp only[putR])
     replace hHeld:=hHeld.more 2
     refine wpG_take (i:=3) (oi:=_) (v:=?_) rfl (by kernel_rfl) (by kernel_rfl) (by kernel_rfl) (by decide) (by decide) (fun _ _ _ h=>h) (Or.inl ⟨by rfl,?_⟩) hHeld ?_
     rotate_left
     ·intro w hSw;(try dsimp only at hSw);(try simp only[cs_cons,cs_nil,and_true] at hSw);go_simp;(try with_reducible rfl)
     (try simp only[putR])
     replace hHeld:=hHeld.more 3
     refine wpG_take (i:=4) (oi:=_) (v:=?_) rfl (by kernel_rfl) (by kernel_rfl) (by kernel_rfl) (by decide) (by decide) (fun _ _ _ h=>h) (Or.inl ⟨by rfl,?_⟩) hHeld ?_
     rotate_left
     ·intro w hSw;(try dsimp only at hSw);(try simp only[cs_cons,cs_nil,and_true] at hSw);go_simp;(try with_reducible rfl)
     (try simp only[putR])
     replace hHeld:=hHeld.more 4
     refine wpG_take (i:=5) (oi:=_) (v:=?_) rfl (by kernel_rfl) (by kernel_rfl) (by kernel_rfl) (by decide) (by decide) (fun _ _ _ h=>h) (Or.inl ⟨by rfl,?_⟩) hHeld ?_
     rotate_left
     ·intro w hSw;(try dsimp only at hSw);(try simp only[cs_cons,cs_nil,and_true] at hSw);go_simp;(try with_reducible rfl)
     (try simp only[putR])
     replace hHeld:=hHeld.more 5
     refine wpG_take (i:=6) (oi:=_) (v:=?_) rfl (by kernel_rfl) (by kernel_rfl) (by kernel_rfl) (by decide) (by decide) (fun _ _ _ h=>h) (Or.inl ⟨by rfl,?_⟩) hHeld ?_
     rotate_left
     ·intro w hSw;(try dsimp only at hSw);(try simp only[cs_cons,cs_nil,and_true] at hSw);go_simp;(try with_reducible rfl)
     (try simp only[putR])
     replace hHeld:=hHeld.more 6
     refine wpG_take (i:=8) (oi:=_) (v:=?_) rfl (by kernel_rfl) (by kernel_rfl) (by kernel_rfl) (by decide) (by decide) (fun _ _ _ h=>h) (Or.inl ⟨by rfl,?_⟩) hHeld ?_
     rotate_left
     ·intro w hSw;(try dsimp only at hSw);(try simp only[cs_cons,cs_nil,and_true] at hSw);go_simp;(try with_reducible rfl)
     (try simp only[putR])
     replace hHeld:=hHeld.more 8
     refine wpG_take (i:=9) (oi:=_) (v:=?_) rfl (by kernel_rfl) (by kernel_rfl) (by kernel_rfl) (by decide) (by decide) (fun _ _ _ h=>h) (Or.inl ⟨by rfl,?_⟩) hHeld ?_
     rotate_left
     ·intro w hSw;(try dsimp only at hSw);(try simp only[cs_cons,cs_nil,and_true] at hSw);go_simp;(try with_reducible rfl)
     (try simp only[putR])
     replace hHeld:=hHeld.more 9
     refine wpG_step (i:=7) (o:=_) (by kernel_rfl) rfl (fun K hK => ?_)
     go_simp
     ((go_at_call 87;((with_reducible refine (made_any ((!ny)) z2.s lz _ (hlz.keep hE) dz (by rw[hvz'.out];exact hsz.out)).mono ?_);rintro e w' ⟨zq,rfl,hzq,hx⟩);(obtain⟨q0,q1,q2,q3⟩:=(S7.keep (hE.tr hx)).facts 6 rfl);(obtain⟨q4,q5,q6,q7⟩:=(S7.keep (hE.tr hx)).facts 5 rfl);(obtain⟨q8,q9,q10,q11⟩:=(S7.keep (hE.tr hx)).facts 4 rfl)))
     (try go_wp2_with fail)
     replace hE:=hE.tr hx
     refine hK.out _ _ ⟨?_,fun _ => ?_,fun _ => ?_⟩ (fun hHeld' => ?_)
     ·(try dsimp only)
      all_goals (first | (with_reducible exact trivial) | (with_reducible exact HS.out _ hE))
     ·(try dsimp only)
      all_goals (first | (with_reducible exact trivial) | (with_reducible exact HS.out _ hE))
     ·(try dsimp only)
      all_goals (first | (with_reducible exact trivial) | (with_reducible exact HS.out _ hE))
     clear hHeld
     have hHeld:=hHeld'
     clear hHeld'
     clear hK K
     (try simp only[putR])
     refine wpG_step (i:=10) (o:=_) (by kernel_rfl) rfl (fun K hK => ?_)
     go_simp
     refine hK.out _ _ ⟨?_,fun _ => ?_,fun _ => ?_⟩ (fun hHeld' => ?_)
     ·(try dsimp only)
      all_goals (first | (with_reducible exact trivial) | (with_reducible refine hHeld.s.st2 ?_ _ _;exact (by first | trivial | (simp only[Off,ne_eq,and_true];omega))) | (with_reducible refine hHeld.s.st1 ?_ _;exact (by first | trivial | (simp only[Off,ne_eq,and_true];omega))))
     ·(try dsimp only)
      all_goals (first | (with_reducible exact trivial) | (with_reducible refine hHeld.s.st2 ?_ _ _;exact (by first | trivial | (simp only[Off,ne_eq,and_true];omega))) | (with_reducible refine hHeld.s.st1 ?_ _;exact (by first | trivial | (simp only[Off,ne_eq,and_true];omega))))
     ·(try dsimp only)
      all_goals (first | (with_reducible exact trivial) | (with_reducible refine hHeld.s.st2 ?_ _ _;exact (by first | trivial | (simp only[Off,ne_eq,and_true];omega))) | (with_reducible refine hHeld.s.st1 ?_ _;exact (by first | trivial | (simp only[Off,ne_eq,and_true];omega))))
     clear hHeld
     have hHeld:=hHeld'
     clear hHeld'
     clear hK K
     (try simp only[putR])
     refine wpG_step (i:=11) (o:=_) (by kernel_rfl) rfl (fun K hK => ?_)
     go_simp
     refine hK.out _ _ ⟨?_,fun _ => ?_,fun _ => ?_⟩ (fun hHeld' => ?_)
     ·(try dsimp only)
      all_goals (first | (with_reducible exact trivial) | (with_reducible refine hHeld.s.st2 ?_ _ _;exact (by first | trivial | (simp only[Off,ne_eq,and_true];omega))) | (with_reducible refine hHeld.s.st1 ?_ _;exact (by first | trivial | (simp only[Off,ne_eq,and_true];omega))))
     ·(try dsimp only)
      all_goals (first | (with_reducible exact trivial) | (with_reducible refine hHeld.s.st2 ?_ _ _;exact (by first | trivial | (simp only[Off,ne_eq,and_true];omega))) | (with_reducible refine hHeld.s.st1 ?_ _;exact (by first | trivial | (simp only[Off,ne_eq,and_true];omega))))
     ·(try dsimp only)
      all_goals (first | (with_reducible exact trivial) | (with_reducible refine hHeld.s.st2 ?_ _ _;exact (by first | trivial | (simp only[Off,ne_eq,and_true];omega))) | (with_reducible refine hHeld.s.st1 ?_ _;exact (by first | trivial | (simp only[Off,ne_eq,and_true];omega))))
     clear hHeld
     have hHeld:=hHeld'
     clear hHeld'
     clear hK K
     (try simp only[putR])
     refine wpG_step (i:=12) (o:=_) (by kernel_rfl) rfl (fun K hK => ?_)
     go_simp
     refine hK.out _ _ ⟨?_,fun _ => ?_,fun _ => ?_⟩ (fun hHeld' => ?_)
     ·(try dsimp only)
      all_goals (first | (with_reducible exact trivial) | (with_reducible refine hHeld.s.st2 ?_ _ _;exact (by first | trivial | (simp only[Off,ne_eq,and_true];omega))) | (with_reducible refine hHeld.s.st1 ?_ _;exact (by first | trivial | (simp only[Off,ne_eq,and_true];omega))))
     ·(try dsimp only)
      all_goals (first | (with_reducible exact trivial) | (with_reducible refine hHeld.s.st2 ?_ _ _;exact (by first | trivial | (simp only[Off,ne_eq,and_true];omega))) | (with_reducible refine hHeld.s.st1 ?_ _;exact (by first | trivial | (simp only[Off,ne_eq,and_true];omega))))
     ·(try dsimp only)
      all_goals (first | (with_reducible exact trivial) | (with_reducible refine hHeld.s.st2 ?_ _ _;exact (by first | trivial | (simp only[Off,ne_eq,and_true];omega))) | (with_reducible refine hHeld.s.st1 ?_ _;exact (by first | trivial | (simp only[Off,ne_eq,and_true];omega))))
     clear hHeld
     have hHeld:=hHeld'
     clear hHeld'
     clear hK K
     (try simp only[putR])
     refine wpG_done (by kernel_rfl) ?_ _
     clear HS hHeld
     rw[hvz'.out] at hzq
     have T0:=S7.keep hE
     have T1:=T0.set2 6 rfl (.bool zq.n) (.slice zq.s.a zq.s.len zq.s.cap)
     have T2:=T1.set2 5 rfl (.bool z3.n) (.slice z3.s.a z3.s.len z3.s.cap)
     have T3:=T2.set2 4 rfl (.int .i64 0) (.int .i64 0)
     have k1:=T0.kept2 (U:=3) 6 rfl (by decide) (.bool zq.n) (.slice zq.s.a zq.s.len zq.s.cap)
     have k2:=T1.kept2 (U:=3) 5 rfl (by decide) (.bool z3.n) (.slice z3.s.a z3.s.len z3.s.cap)
     have k3:=T2.kept2 (U:=3) 4 rfl (by decide) (.int .i64 0) (.int .i64 0)
     have hqF:=((hzq.kept k1).kept k2).kept k3
     have hrF:=(((hr7.keep hE).kept k1).kept k2).kept k3
     obtain⟨r0,r1,-,-⟩:=T3.facts 6 rfl
     obtain⟨r2,r3,-,-⟩:=T3.facts 5 rfl
     obtain⟨r4,r5,-,-⟩:=T3.facts 4 rfl
     clear q0 q1 q2 q3 q4 q5 q6 q7 q8 q9 q10 q11 e0 e1 e2 e3 e4 e5 e6 e7
     go_wp2
     refine bodyPost_ret (v:=.tuple #[.agg #[.bool zq.n,.slice zq.s.a zq.s.len zq.s.cap],.agg #[.bool z3.n,.slice z3.s.a z3.s.len z3.s.cap],.agg #[.int .i64 0,.int .i64 0]]) (by simp[results,Try.results86,go_sem,r0,r1,r2,r3,r4,r5]) rfl ⟨zq,z3,rfl,?_,?_,T3.ext⟩
     ·rw[hres.out.1];cases ny<;>exact hqF
     ·rw[hres.out.2];exact hrF
  | k+1,hk,hval =>
   rw[show ((k+1:Nat):Int)-1=(k:Int) by omega]
   obtain⟨ba,oa,rfl,hba,ga⟩:=hopa (by omega)
   have hD:=hd_ S.desc
   have ga:=((S.ext).cell (p:=⟨ba,oa+k,none⟩) hba.lt).trans (ga k hk)
   have fa:=da.at_ k
   have hkl:(k:Int)<la.length:=by omega
   obtain⟨d1,-,d3,-⟩:=S.desc
   simp only at d1 d3
   have hbl:=hba.lt
   obtain⟨lr,hlr,nr,dr,hvr,hlr2⟩:=isZ_nonneg hr hR0
   have hRn:at_ la k+10000*R<10000*valL lb:=by omega
   have hRp:0≤at_ la k+10000*R:=by omega
   have hdr2:Dig (at_ la k::lr):=fun x hx=>by
    rcases List.mem_cons.1 hx with rfl | hx
    ·exact fa
    ·exact dr x hx
   have hv9:=hd_ (show sg false (valL (at_ la k::lr))=at_ la k+10000*R by rw[←hvr];rfl)
   have hs9:=hd_ (show Sm (at_ la k+10000*R) from ((hsB.out.mul bt_10000).sm (by omega)).le (by omega))
   replace hvr:=hd_ hvr
   go_wp2
   have HS:=hd_ (show ∀ W',Ext (wr) W'→Cs W' [(w.heap.size,1,Value.slice (some ⟨ba,oa,none⟩) la.length ca),(ba,oa+k,Value.int .i64 (at_ la k))] from fun W' hW=>by simp only[cs_cons,cs_nil];exact⟨cell_later hW (c1),cell_later hW (ga),trivial⟩)
   have HA:=hd_ (show ∀ W',Ext (wr) W'→Cs W' [(w2.heap.size,1,Value.slice xr.s.a xr.s.len xr.s.cap)] from fun W' hW=>by simp only[cs_cons,cs_nil];exact⟨cell_later hW (c3),trivial⟩)
   refine wpG_begin (S:=(fun w'=>Cs w' [(w.heap.size,1,Value.slice (some ⟨ba,oa,none⟩) la.length ca),(ba,oa+k,Value.int .i64 (at_ la k))])) (fun w'=>Cs w' [(w2.heap.size,1,Value.slice xr.s.a xr.s.len xr.s.cap)]) (fun _=>True) 10 10 (by kernel_rfl) (fun W3 hW3 => ?_) (fun W3 hW3 hHeld => ?_)
   ·exact⟨HS.out _ hW3,HA.out _ hW3,trivial⟩
   have hE:=hW3
   refine wpG_take (i:=0) (oi:=_) (v:=?_) rfl (by kernel_rfl) (by kernel_rfl) (by kernel_rfl) (by decide) (by decide) (fun _ _ _ h=>h) (Or.inl ⟨by rfl,?_⟩) hHeld ?_
   rotate_left
   ·intro w hSw;(try dsimp only at hSw);(try simp only[cs_cons,cs_nil,and_true] at hSw);go_simp;(try with_reducible rfl)
   (try simp only[putR])
   replace hHeld:=hHeld.more 0
   refine wpG_take (i:=1) (oi:=_) (v:=?_) rfl (by kernel_rfl) (by kernel_rfl) (by kernel_rfl) (by decide) (by decide) (fun _ _ _ h=>h) (Or.inl ⟨by rfl,?_⟩) hHeld ?_
   rotate_left
   ·intro w hSw;(try dsimp only at hSw);(try simp only[cs_cons,cs_nil,and_true] at hSw);go_simp;(try with_reducible rfl)
   (try simp only[putR])
   replace hHeld:=hHeld.more 1
   refine wpG_take (i:=2) (oi:=_) (v:=?_) rfl (by kernel_rfl) (by kernel_rfl) (by kernel_rfl) (by decide) (by decide) (fun _ _ _ h=>h) (Or.inl ⟨by rfl,?_⟩) hHeld ?_
   rotate_left
   ·intro w hSw;(try dsimp only at hSw);(try simp only[cs_cons,cs_nil,and_true] at hSw);go_simp;(try with_reducible rfl)
   (try simp only[putR])
   replace hHeld:=hHeld.more 2
   refine wpG_take (i:=3) (oi:=_) (v:=?_) rfl (by kernel_rfl) (by kernel_rfl) (by kernel_rfl) (by decide) (by decide) (fun _ _ _ h=>h) (Or.inl ⟨by rfl,?_⟩) hHeld ?_
   rotate_left
   ·intro w hSw;(try dsimp only at hSw);(try simp only[cs_cons,cs_nil,and_true] at hSw);go_simp;(try with_reducible rfl)
   (try simp only[putR])
   replace hHeld:=hHeld.more 3
   refine wpG_take (i:=4) (oi:=_) (v:=?_) rfl (by kernel_rfl) (by kernel_rfl) (by kernel_rfl) (by decide) (by decide) (fun _ _ _ h=>h) (Or.inl ⟨by rfl,?_⟩) hHeld ?_
   rotate_left
   ·intro w hSw;(try dsimp only at hSw);(try simp only[cs_cons,cs_nil,and_true] at hSw);go_simp;(try with_reducible rfl)
   (try simp only[putR])
   replace hHeld:=hHeld.more 4
   refine wpG_take (i:=6) (oi:=_) (v:=?_) rfl (by kernel_rfl) (by kernel_rfl) (by kernel_rfl) (by decide) (by decide) (fun _ _ _ h=>h) (Or.inl ⟨by rfl,?_⟩) hHeld ?_
   rotate_left
   ·intro w hSw;(try dsimp only at hSw);(try simp only[cs_cons,cs_nil,and_true] at hSw);go_simp;(try with_reducible rfl)
   (try simp only[putR])
   replace hHeld:=hHeld.more 6
   refine wpG_takeA (i:=7) (oi:=_) (v:=?_) rfl (by kernel_rfl) (by kernel_rfl) (by kernel_rfl) (by decide) (by decide) (by kernel_rfl) (by kernel_rfl) (fun _ _ _ h=>h) (Or.inl ⟨by rfl,?_⟩) hHeld ?_
   rotate_left
   ·intro w hSw;(try dsimp only at hSw);(try simp only[cs_cons,cs_nil,and_true] at hSw);go_simp;(try with_reducible rfl)
   (try simp only[putR])
   replace hHeld:=hHeld.more 7
   refine wpG_step (i:=5) (o:=_) (by kernel_rfl) rfl (fun K hK => ?_)
   go_simp
   (replace hE:=hE.al (Obj.cells #[Value.int .i64 (at_ la k)] 3))
   refine hK.out _ _ ⟨?_,fun _ => ?_,fun _ => ?_⟩ (fun hHeld' => ?_)
   ·(try dsimp only)
    all_goals (first | (with_reducible exact trivial) | (with_reducible exact HS.out _ hE) | (with_reducible exact HA.out _ hE))
   ·(try dsimp only)
    all_goals (first | (with_reducible exact trivial) | (with_reducible exact HS.out _ hE) | (with_reducible exact HA.out _ hE))
   ·(try dsimp only)
    all_goals (first | (with_reducible exact trivial) | (with_reducible exact HS.out _ hE) | (with_reducible exact HA.out _ hE))
   clear hHeld
   have hHeld:=hHeld'
   clear hHeld'
   clear hK K
   (try simp only[putR])
   refine wpG_step (i:=8) (o:=_) (by kernel_rfl) rfl (fun K hK => ?_)
   (rw[if_pos (by rfl)];refine op_appN (W3.alloc (Obj.cells #[Value.int .i64 (at_ la k)] 3)) (.tmp 43) (.tmp 45) 43 rfl .i64 8 Try.underlying43 infoI64 W3 ⟨some ⟨W3.heap.size,0,none⟩,1,1⟩ xr.s [at_ la k] lr rfl rfl (Rw.of_own (Own.new rfl rfl) (Nat.le_refl _) (by simp)) (hlr.keep hE) ((Ext.rf _).al _) (by simp;omega) (by simp;omega) ?_;intro s8 w8 hrw8 hx8;(have hrw8:Rw w8 W3.heap.size .i64 s8 (at_ la k::lr):=hrw8);replace hE:=hW3.tr hx8)
   refine hK.out _ _ ⟨?_,fun _ => ?_,fun _ => ?_⟩ (fun hHeld' => ?_)
   ·(try dsimp only)
    all_goals (first | (with_reducible exact trivial) | (with_reducible exact HS.out _ hE) | (with_reducible exact HA.out _ hE))
   ·(try dsimp only)
    all_goals (first | (with_reducible exact trivial) | (with_reducible exact HS.out _ hE) | (with_reducible exact HA.out _ hE))
   ·(try dsimp only)
    all_goals (first | (with_reducible exact trivial) | (with_reducible exact HS.out _ hE) | (with_reducible exact HA.out _ hE))
   clear hHeld
   have hHeld:=hHeld'
   clear hHeld'
   clear hK K
   (try simp only[putR])
   refine wpG_step (i:=9) (o:=_) (by kernel_rfl) rfl (fun K hK => ?_)
   go_simp
   (go_at_call 87;((with_reducible refine (made_av false s8 (at_ la k::lr) _ (hrw8.isL hdr2.fit) hdr2 (by rw[hv9.out];exact hs9.out)).mono ?_);rintro e w' ⟨y9,rfl,hy9,hx,hav9⟩);(obtain⟨q0,q1,q2,q3⟩:=(S.keep (hE.tr hx)).facts 0 rfl))
   (try go_wp2_with fail)
   replace hE:=hE.tr hx
   refine hK.out _ _ ⟨?_,fun _ => ?_,fun _ => ?_⟩ (fun hHeld' => ?_)
   ·(try dsimp only)
    all_goals (first | (with_reducible exact trivial) | (with_reducible exact HS.out _ hE) | (with_reducible exact HA.out _ hE))
   ·(try dsimp only)
    all_goals (first | (with_reducible exact trivial) | (with_reducible exact HS.out _ hE) | (with_reducible exact HA.out _ hE))
   ·(try dsimp only)
    all_goals (first | (with_reducible exact trivial) | (with_reducible exact HS.out _ hE) | (with_reducible exact HA.out _ hE))
   clear hHeld
   have hHeld:=hHeld'
   clear hHeld'
   clear hK K
   (try simp only[putR])
   refine wpG_step (i:=10) (o:=_) (by kernel_rfl) rfl (fun K hK => ?_)
   go_simp
   refine hK.out _ _ ⟨?_,notF (by kernel_rfl),notF (by kernel_rfl)⟩ (fun hHeld' => ?_)
   ·(try dsimp only)
    all_goals (first | (with_reducible exact trivial) | (with_reducible refine hHeld.s.st2 ?_ _ _;exact (by first | trivial | (simp only[Off,ne_eq,and_true];omega))) | (with_reducible refine hHeld.s.st1 ?_ _;exact (by first | trivial | (simp only[Off,ne_eq,and_true];omega))))
   clear hHeld
   have hHeld:=hHeld'
   clear hHeld'
   clear hK K
   (try simp only[putR])
   refine wpG_done (by kernel_rfl) ?_ _
   clear HS HA hHeld
   have hnt9:=hd_ (hav9.nt (n:=w1.heap.size+1) (by have:=hx8.size;have:=hW3.size;have:=S.lt 1 rfl;omega) (Nt.one ((Av.row (W:=W3) (A:=[]) hrw8 (Nat.le_refl _)).nt (by have:=hW3.size;have:=S.lt 1 rfl;omega) (fun _ h=>by cases h))))
   rw[hv9.out] at hy9
   have SA:=(S.keep hE).set2 0 rfl (.bool y9.n) (.slice y9.s.a y9.s.len y9.s.cap)
   replace hy9:=hy9.kept ((S.keep hE).kept2 (U:=3) 0 rfl (by decide) (.bool y9.n) (.slice y9.s.a y9.s.len y9.s.cap))
   have huA:=(hu.keep hE).kept ((S.keep hE).kept2 (U:=3) 0 rfl (by decide) (.bool y9.n) (.slice y9.s.a y9.s.len y9.s.cap))
   generalize (w'.setCell ⟨w2.heap.size,0,none⟩ (Value.bool y9.n)).setCell ⟨w2.heap.size,1,none⟩ (Value.slice y9.s.a y9.s.len y9.s.cap)=wA at *
   dsimp only[List.set] at SA
   clear hE q0 q1 q2 q3 hrw8 hx8 hav9 hlr c0 c1 c2 c3 S hr hu ga hx hW3
   obtain⟨l9,hl9,n9,d9,hv9',-⟩:=isZ_nonneg hy9 hRp
   obtain⟨lu,hlu,nu,du,hvu,-⟩:=isZ_nonneg huA (show 0≤valL lb by omega)
   obtain⟨c4,c5,-,-⟩:=SA.facts 0 rfl
   obtain⟨c6,c7,-,-⟩:=SA.facts 2 rfl
   obtain⟨R',hR'⟩:∃ R',R'=at_ la k+10000*R:=⟨_,rfl⟩
   rw[←hR'] at hy9 hRn hRp hv9'
   replace hR':=hd_ hR'
   replace hs9:=hd_ (show Sm R' by rw[hR'.out];exact hs9.out)
   have hcm:=hd_ (show cmpZ (valL l9) (valL lu)=cmpZ R' (valL lb) by rw[hv9',hvu])
   replace hv9':=hd_ hv9'
   replace hvu:=hd_ hvu
   go_wp2_with fail
   refine (dcmp_any y9.s yu.s l9 lu _ hl9 hlu d9 du n9 nu).mono ?_
   rintro e wB ⟨rfl,hxB⟩
   rw[hcm.out]
   have SB:=SA.keep hxB
   have hyB:=hy9.keep hxB
   have huB:=huA.keep hxB
   clear c4 c5 c6 c7 hl9 hlu SA hy9 huA
   obtain⟨c4,c5,-,-⟩:=SB.facts 0 rfl
   obtain⟨c6,c7,-,-⟩:=SB.facts 2 rfl
   go_upto_if 53 with fail
   go_cut [12] (fun hv wx => ∃ h:Int,hv = .int .i64 h∧wB=wx∧0<h∧h≤10000∧R'<valL lb*h)
   case first =>
    by_cases hlt:R'<valL lb
    ·have hcm:cmpZ R' (valL lb)<0:=by rw[cmpZ_lt hlt];omega
     replace hlt:=hd_ hlt
     go_wp2
     go_meet
     case rel=>exact⟨1,rfl,rfl,by omega,by omega,by rw[Int.mul_one];exact hlt.out⟩
    ·have hcm:¬ cmpZ R' (valL lb)<0:=by
      rcases Int.lt_or_eq_of_le (Int.not_lt.1 hlt) with h | h
      ·rw[cmpZ_gt h];omega
      ·rw[cmpZ_eq h.symm];omega
     replace hlt:=hd_ hlt
     go_wp2
     go_meet
     case rel=>exact⟨10000,rfl,rfl,by omega,by omega,by omega⟩
   case rest =>
    obtain⟨h0,rfl,rfl,hh0,hh1,hhR⟩:=hcut
    replace hhR:=hd_ hhR
    clear c4 c5 c6 c7
    go_wp2
    go_loopw [11,12] (fun lo hi wi => ∃ l h:Int,lo = .int .i64 l∧hi = .int .i64 h∧0≤l∧l<h∧h≤10000∧valL lb*l≤R'∧R'<valL lb*h∧Ext wB wi) (fun lo hi _=>(intOf hi-intOf lo).toNat)
    case atStart=>exact⟨0,h0,rfl,rfl,by omega,hh0,hh1,by omega,hhR.out,Ext.rf _⟩
    case round =>
     clear hhR hh0 hh1
     obtain⟨l,h,rfl,rfl,hl0,hlh,hh1,hbl1,hbh1,hxi⟩:=hrel
     have SI:=SB.keep hxi
     have hyI:=hyB.keep hxi
     have huI:=huB.keep hxi
     obtain⟨c4,c5,q6,q7⟩:=SI.facts 0 rfl
     obtain⟨c6,c7,-,-⟩:=SI.facts 2 rfl
     by_cases hgo:1<h-l
     ·have hm1:l<(l+h) / 2:=by omega
      have hm2:(l+h) / 2<h:=by omega
      have hmm:=hd_ (half_step hbl1 hbh1 hl0 hh1 hm1 hm2 hB0)
      obtain⟨m,hm⟩:∃ m,m=(l+h) / 2:=⟨_,rfl⟩
      have hsm1:=hd_ (show Sm (valL lb*m) from ((hsB.out.mul bt_10000).sm (by omega)).le (by rw[hm];have:=hmm.out;omega))
      have hsm2:=hd_ (show Sm (valL lb*m-R') from ((hsB.out.mul bt_10000).sm (by omega)).le (by rw[hm];have:=hmm.out;omega))
      have HB:=hd_ hbl1
      have HH:=hd_ hbh1
      clear hbl1 hbh1
      go_wp2
      rw[←hm]
      rw[←hm] at hm1 hm2
      replace hm:=hd_ hm
      clear hmm
      have HS:=hd_ (show ∀ W',Ext (wr) W'→Cs W' [(w1.heap.size,0,Value.bool yu.n),(w1.heap.size,1,Value.slice yu.s.a yu.s.len yu.s.cap),(w2.heap.size,0,Value.bool y9.n),(w2.heap.size,1,Value.slice y9.s.a y9.s.len y9.s.cap)] from fun W' hW=>by simp only[cs_cons,cs_nil];exact⟨cell_later hW (c6),cell_later hW (c7),cell_later hW (c4),cell_later hW (c5),trivial⟩)
      refine wpG_begin (S:=(fun w'=>Cs w' [(w1.heap.size,0,Value.bool yu.n),(w1.heap.size,1,Value.slice yu.s.a yu.s.len yu.s.cap),(w2.heap.size,0,Value.bool y9.n),(w2.heap.size,1,Value.slice y9.s.a y9.s.len y9.s.cap)])) (fun _=>True) (fun _=>True) 99 99 (by kernel_rfl) (fun W3 hW3 => ?_) (fun W3 hW3 hHeld => ?_)
      ·exact⟨HS.out _ hW3,trivial,trivial⟩
      have hE:=hW3
      refine wpG_take (i:=0) (oi:=_) (v:=?_) rfl (by kernel_rfl) (by kernel_rfl) (by kernel_rfl) (by decide) (by decide) (fun _ _ _ h=>h) (Or.inl ⟨by rfl,?_⟩) hHeld ?_
      rotate_left
      ·intro w hSw;(try dsimp only at hSw);(try simp only[cs_cons,cs_nil,and_true] at hSw);go_simp;(try with_reducible rfl)
      (try simp only[putR])
      replace hHeld:=hHeld.more 0
      refine wpG_take (i:=1) (oi:=_) (v:=?_) rfl (by kernel_rfl) (by kernel_rfl) (by kernel_rfl) (by decide) (by decide) (fun _ _ _ h=>h) (Or.inl ⟨by rfl,?_⟩) hHeld ?_
      rotate_left
      ·intro w hSw;(try dsimp only at hSw);(try simp only[cs_cons,cs_nil,and_true] at hSw);go_simp;(try with_reducible rfl)
      (try simp only[putR])
      replace hHeld:=hHeld.more 1
      refine wpG_take (i:=4) (oi:=_) (v:=?_) rfl (by kernel_rfl) (by kernel_rfl) (by kernel_rfl) (by decide) (by decide) (fun _ _ _ h=>h) (Or.inl ⟨by rfl,?_⟩) hHeld ?_
      rotate_left
      ·intro w hSw;(try dsimp only at hSw);(try simp only[cs_cons,cs_nil,and_true] at hSw);go_simp;(try with_reducible rfl)
      (try simp only[putR])
      replace hHeld:=hHeld.more 4
      refine wpG_step (i:=2) (o:=_) (by kernel_rfl) rfl (fun K hK => ?_)
      go_simp
      (first
             | (go_at_call 73;((with_reducible refine (of_any m _ (by omega)).mono ?_);rintro e w' ⟨z1,rfl,hz1,hx⟩))
             | (go_at_call 52;((with_reducible refine (mul_any yu z1 (valL lb) m _ (huI.keep hE) hz1 hsm1.out).mono ?_);rintro e w' ⟨z2,rfl,hz2,hx⟩))
             | (go_at_call 100;((with_reducible refine (cmp_any z2 y9 (valL lb*m) R' _ hz2 (hyI.keep hE) hsm2.out).mono ?_);rintro e w' ⟨rfl,hx⟩)))
      (try go_wp2_with fail)
      replace hE:=hE.tr hx
      refine hK.out _ _ ⟨?_,fun _ => ?_,fun _ => ?_⟩ (fun hHeld' => ?_)
      ·(try dsimp only)
       all_goals (first | (with_reducible exact trivial) | (with_reducible exact HS.out _ hE))
      ·(try dsimp only)
       all_goals (first | (with_reducible exact trivial) | (with_reducible exact HS.out _ hE))
      ·(try dsimp only)
       all_goals (first | (with_reducible exact trivial) | (with_reducible exact HS.out _ hE))
      clear hHeld
      have hHeld:=hHeld'
      clear hHeld'
      clear hK K
      (try simp only[putR])
      refine wpG_step (i:=3) (o:=_) (by kernel_rfl) rfl (fun K hK => ?_)
      go_simp
      (first
             | (go_at_call 73;((with_reducible refine (of_any m _ (by omega)).mono ?_);rintro e w' ⟨z1,rfl,hz1,hx⟩))
             | (go_at_call 52;((with_reducible refine (mul_any yu z1 (valL lb) m _ (huI.keep hE) hz1 hsm1.out).mono ?_);rintro e w' ⟨z2,rfl,hz2,hx⟩))
             | (go_at_call 100;((with_reducible refine (cmp_any z2 y9 (valL lb*m) R' _ hz2 (hyI.keep hE) hsm2.out).mono ?_);rintro e w' ⟨rfl,hx⟩)))
      (try go_wp2_with fail)
      replace hE:=hE.tr hx
      refine hK.out _ _ ⟨?_,fun _ => ?_,fun _ => ?_⟩ (fun hHeld' => ?_)
      ·(try dsimp only)
       all_goals (first | (with_reducible exact trivial) | (with_reducible exact HS.out _ hE))
      ·(try dsimp only)
       all_goals (first | (with_reducible exact trivial) | (with_reducible exact HS.out _ hE))
      ·(try dsimp only)
       all_goals (first | (with_reducible exact trivial) | (with_reducible exact HS.out _ hE))
      clear hHeld
      have hHeld:=hHeld'
      clear hHeld'
      clear hK K
      (try simp only[putR])
      refine wpG_step (i:=5) (o:=_) (by kernel_rfl) rfl (fun K hK => ?_)
      go_simp
      (first
             | (go_at_call 73;((with_reducible refine (of_any m _ (by omega)).mono ?_);rintro e w' ⟨z1,rfl,hz1,hx⟩))
             | (go_at_call 52;((with_reducible refine (mul_any yu z1 (valL lb) m _ (huI.keep hE) hz1 hsm1.out).mono ?_);rintro e w' ⟨z2,rfl,hz2,hx⟩))
             | (go_at_call 100;((with_reducible refine (cmp_any z2 y9 (valL lb*m) R' _ hz2 (hyI.keep hE) hsm2.out).mono ?_);rintro e w' ⟨rfl,hx⟩)))
      (try go_wp2_with fail)
      replace hE:=hE.tr hx
      refine hK.out _ _ ⟨?_,fun _ => ?_,fun _ => ?_⟩ (fun hHeld' => ?_)
      ·(try dsimp only)
       all_goals (first | (with_reducible exact trivial) | (with_reducible exact HS.out _ hE))
      ·(try dsimp only)
       all_goals (first | (with_reducible exact trivial) | (with_reducible exact HS.out _ hE))
      ·(try dsimp only)
       all_goals (first | (with_reducible exact trivial) | (with_reducible exact HS.out _ hE))
      clear hHeld
      have hHeld:=hHeld'
      clear hHeld'
      clear hK K
      (try simp only[putR])
      refine wpG_take (i:=6) (oi:=_) (v:=?_) rfl (by kernel_rfl) (by kernel_rfl) (by kernel_rfl) (by decide) (by decide) (fun _ _ _ h=>h) (Or.inl ⟨by rfl,?_⟩) hHeld ?_
      rotate_left
      ·intro w hSw;(try dsimp only at hSw);(try simp only[cs_cons,cs_nil,and_true] at hSw);go_simp;(try with_reducible rfl)
      (try simp only[putR])
      replace hHeld:=hHeld.more 6
      refine wpG_done (by kernel_rfl) ?_ _
      clear HS hHeld
      clear c4 c5 c6 c7 q6 q7
      by_cases hle:valL lb*m≤R'
      ·have hcm:cmpZ (valL lb*m) R'≤0:=by
        rcases Int.lt_or_eq_of_le hle with h | h
        ·rw[cmpZ_lt h];omega
        ·rw[cmpZ_eq h];omega
       replace hle:=hd_ hle
       go_wp2
       go_roundw
       case rel=>exact⟨m,h,rfl,rfl,by omega,hm2,hh1,hle.out,HH.out,hxi.tr hE⟩
       case measure=>first | (simp[intOf];done) | (simp[intOf];omega)
      ·have hcm:¬ cmpZ (valL lb*m) R'≤0:=by rw[cmpZ_gt (by omega)];omega
       replace hle:=hd_ hle
       go_wp2
       go_roundw
       case rel=>exact⟨l,m,rfl,rfl,hl0,hm1,by omega,HB.out,by have:=hle.out;omega,hxi.tr hE⟩
       case measure=>first | (simp[intOf];done) | (simp[intOf];omega)
     ·have hrs:=rest_step hbl1 hbh1 (by omega) hB0
      have hmm:=hd_ (half_step' hl0 (show l≤10000 by omega) hB0)
      have hsm1:=hd_ (show Sm (valL lb*l) from ((hsB.out.mul bt_10000).sm (by omega)).le (by have:=hmm.out;omega))
      have hsm2:=hd_ (show Sm (R'-valL lb*l) from ((hsB.out.mul bt_10000).sm (by omega)).le (by omega))
      have hl9:l≤9999:=by
       rcases Int.lt_or_le l 10000 with h | h
       ·omega
       ·obtain rfl:l=10000:=by omega
        omega
      have hqk:k<o.length:=by have:=hol.out;omega
      have hqb:=SI.box 1 rfl
      have g1:=Own.cell (k:=.i64) hqb hqk
      have g2:=Own.frozen (k:=.i64) hqb k
      have SJ:=SI.set1 1 rfl k (.int .i64 l)
      have eq1:(List.map (Value.int IntKind.i64) o).toArray.setIfInBounds k (.int .i64 l)=(List.map (Value.int IntKind.i64) (o.set k l)).toArray:=by simp[List.map_set]
      rw[eq1] at SJ
      dsimp only[List.set] at SJ
      have hyJ:=IsZ.store hyI hnt9.out k (.int .i64 l)
      have huJ:=IsZ.store huI hntu.out k (.int .i64 l)
      obtain⟨c8,c9,-,-⟩:=SJ.facts 0 rfl
      obtain⟨ca,cb',-,-⟩:=SJ.facts 2 rfl
      replace hrs:=hd_ hrs
      have HB:=hd_ hbl1
      clear hbl1 hbh1 hmm eq1 SI hyI huI c4 c5 c6 c7 q6 q7
      go_upto_region 19 with fail
      clear g1 g2 hqb
      obtain⟨wJ,hwJ⟩:∃ wJ,wJ=wr.setCell ⟨w1.heap.size+1,k,none⟩ (Value.int IntKind.i64 l):=⟨_,rfl⟩
      rw[←hwJ] at SJ hyJ huJ c8 c9 ca cb' ⊢
      clear hwJ
      have HS:=hd_ (show ∀ W',Ext (wJ) W'→Cs W' [(w1.heap.size,0,Value.bool yu.n),(w1.heap.size,1,Value.slice yu.s.a yu.s.len yu.s.cap)] from fun W' hW=>by simp only[cs_cons,cs_nil];exact⟨cell_later hW (ca),cell_later hW (cb'),trivial⟩)
      have HA:=hd_ (show ∀ W',Ext (wJ) W'→Cs W' [(w2.heap.size,0,Value.bool y9.n),(w2.heap.size,1,Value.slice y9.s.a y9.s.len y9.s.cap)] from fun W' hW=>by simp only[cs_cons,cs_nil];exact⟨cell_later hW (c8),cell_later hW (c9),trivial⟩)
      refine wpG_begin (S:=(fun w'=>Cs w' [(w1.heap.size,0,Value.bool yu.n),(w1.heap.size,1,Value.slice yu.s.a yu.s.len yu.s.cap)])) (fun w'=>Cs w' [(w2.heap.size,0,Value.bool y9.n),(w2.heap.size,1,Value.slice y9.s.a y9.s.len y9.s.cap)]) (fun _=>True) 6 6 (by kernel_rfl) (fun W3 hW3 => ?_) (fun W3 hW3 hHeld => ?_)
      ·exact⟨HS.out _ hW3,HA.out _ hW3,trivial⟩
      have hE:=hW3
      refine wpG_takeA (i:=0) (oi:=_) (v:=?_) rfl (by kernel_rfl) (by kernel_rfl) (by kernel_rfl) (by decide) (by decide) (by kernel_rfl) (by kernel_rfl) (fun _ _ _ h=>h) (Or.inl ⟨by rfl,?_⟩) hHeld ?_
      rotate_left
      ·intro w hSw;(try dsimp only at hSw);(try simp only[cs_cons,cs_nil,and_true] at hSw);go_simp;(try with_reducible rfl)
      (try simp only[putR])
      replace hHeld:=hHeld.more 0
      refine wpG_take (i:=1) (oi:=_) (v:=?_) rfl (by kernel_rfl) (by kernel_rfl) (by kernel_rfl) (by decide) (by decide) (fun _ _ _ h=>h) (Or.inl ⟨by rfl,?_⟩) hHeld ?_
      rotate_left
      ·intro w hSw;(try dsimp only at hSw);(try simp only[cs_cons,cs_nil,and_true] at hSw);go_simp;(try with_reducible rfl)
      (try simp only[putR])
      replace hHeld:=hHeld.more 1
      refine wpG_take (i:=2) (oi:=_) (v:=?_) rfl (by kernel_rfl) (by kernel_rfl) (by kernel_rfl) (by decide) (by decide) (fun _ _ _ h=>h) (Or.inl ⟨by rfl,?_⟩) hHeld ?_
      rotate_left
      ·intro w hSw;(try dsimp only at hSw);(try simp only[cs_cons,cs_nil,and_true] at hSw);go_simp;(try with_reducible rfl)
      (try simp only[putR])
      replace hHeld:=hHeld.more 2
      refine wpG_step (i:=3) (o:=_) (by kernel_rfl) rfl (fun K hK => ?_)
      go_simp
      (first
             | (go_at_call 73;((with_reducible refine (of_any l _ (by omega)).mono ?_);rintro e w' ⟨z1,rfl,hz1,hx⟩))
             | (go_at_call 52;((with_reducible refine (mul_any yu z1 (valL lb) l _ (huJ.keep hE) hz1 hsm1.out).mono ?_);rintro e w' ⟨z2,rfl,hz2,hx⟩))
             | (go_at_call 101;((with_reducible refine (sub_any y9 z2 R' (valL lb*l) _ (hyJ.keep hE) hz2 hsm2.out).mono ?_);rintro e w' ⟨z3,rfl,hz3,hx⟩;(obtain⟨q0,q1,q2,q3⟩:=(SJ.keep (hE.tr hx)).facts 0 rfl))))
      (try go_wp2_with fail)
      replace hE:=hE.tr hx
      refine hK.out _ _ ⟨?_,fun _ => ?_,fun _ => ?_⟩ (fun hHeld' => ?_)
      ·(try dsimp only)
       all_goals (first | (with_reducible exact trivial) | (with_reducible exact HS.out _ hE) | (with_reducible exact HA.out _ hE))
      ·(try dsimp only)
       all_goals (first | (with_reducible exact trivial) | (with_reducible exact HS.out _ hE) | (with_reducible exact HA.out _ hE))
      ·(try dsimp only)
       all_goals (first | (with_reducible exact trivial) | (with_reducible exact HS.out _ hE) | (with_reducible exact HA.out _ hE))
      clear hHeld
      have hHeld:=hHeld'
      clear hHeld'
      clear hK K
      (try simp only[putR])
      refine wpG_step (i:=4) (o:=_) (by kernel_rfl) rfl (fun K hK => ?_)
      go_simp
      (first
             | (go_at_call 73;((with_reducible refine (of_any l _ (by omega)).mono ?_);rintro e w' ⟨z1,rfl,hz1,hx⟩))
             | (go_at_call 52;((with_reducible refine (mul_any yu z1 (valL lb) l _ (huJ.keep hE) hz1 hsm1.out).mono ?_);rintro e w' ⟨z2,rfl,hz2,hx⟩))
             | (go_at_call 101;((with_reducible refine (sub_any y9 z2 R' (valL lb*l) _ (hyJ.keep hE) hz2 hsm2.out).mono ?_);rintro e w' ⟨z3,rfl,hz3,hx⟩;(obtain⟨q0,q1,q2,q3⟩:=(SJ.keep (hE.tr hx)).facts 0 rfl))))
      (try go_wp2_with fail)
      replace hE:=hE.tr hx
      refine hK.out _ _ ⟨?_,fun _ => ?_,fun _ => ?_⟩ (fun hHeld' => ?_)
      ·(try dsimp only)
       all_goals (first | (with_reducible exact trivial) | (with_reducible exact HS.out _ hE) | (with_reducible exact HA.out _ hE))
      ·(try dsimp only)
       all_goals (first | (with_reducible exact trivial) | (with_reducible exact HS.out _ hE) | (with_reducible exact HA.out _ hE))
      ·(try dsimp only)
       all_goals (first | (with_reducible exact trivial) | (with_reducible exact HS.out _ hE) | (with_reducible exact HA.out _ hE))
      clear hHeld
      have hHeld:=hHeld'
      clear hHeld'
      clear hK K
      (try simp only[putR])
      refine wpG_step (i:=5) (o:=_) (by kernel_rfl) rfl (fun K hK => ?_)
      go_simp
      (first
             | (go_at_call 73;((with_reducible refine (of_any l _ (by omega)).mono ?_);rintro e w' ⟨z1,rfl,hz1,hx⟩))
             | (go_at_call 52;((with_reducible refine (mul_any yu z1 (valL lb) l _ (huJ.keep hE) hz1 hsm1.out).mono ?_);rintro e w' ⟨z2,rfl,hz2,hx⟩))
             | (go_at_call 101;((with_reducible refine (sub_any y9 z2 R' (valL lb*l) _ (hyJ.keep hE) hz2 hsm2.out).mono ?_);rintro e w' ⟨z3,rfl,hz3,hx⟩;(obtain⟨q0,q1,q2,q3⟩:=(SJ.keep (hE.tr hx)).facts 0 rfl))))
      (try go_wp2_with fail)
      replace hE:=hE.tr hx
      refine hK.out _ _ ⟨?_,fun _ => ?_,fun _ => ?_⟩ (fun hHeld' => ?_)
      ·(try dsimp only)
       all_goals (first | (with_reducible exact trivial) | (with_reducible exact HS.out _ hE) | (with_reducible exact HA.out _ hE))
      ·(try dsimp only)
       all_goals (first | (with_reducible exact trivial) | (with_reducible exact HS.out _ hE) | (with_reducible exact HA.out _ hE))
      ·(try dsimp only)
       all_goals (first | (with_reducible exact trivial) | (with_reducible exact HS.out _ hE) | (with_reducible exact HA.out _ hE))
      clear hHeld
      have hHeld:=hHeld'
      clear hHeld'
      clear hK K
      (try simp only[putR])
      refine wpG_step (i:=6) (o:=_) (by kernel_rfl) rfl (fun K hK => ?_)
      go_simp
      refine hK.out _ _ ⟨?_,notF (by kernel_rfl),notF (by kernel_rfl)⟩ (fun hHeld' => ?_)
      ·(try dsimp only)
       all_goals (first | (with_reducible exact trivial) | (with_reducible refine hHeld.s.st2 ?_ _ _;exact (by first | trivial | (simp only[Off,ne_eq,and_true];omega))) | (with_reducible refine hHeld.s.st1 ?_ _;exact (by first | trivial | (simp only[Off,ne_eq,and_true];omega))))
      clear hHeld
      have hHeld:=hHeld'
      clear hHeld'
      clear hK K
      (try simp only[putR])
      refine wpG_done (by kernel_rfl) ?_ _
      clear HS HA hHeld
      have SK:=(SJ.keep hE).set2 0 rfl (.bool z3.n) (.slice z3.s.a z3.s.len z3.s.cap)
      have hzK:=hz3.kept ((SJ.keep hE).kept2 (U:=3) 0 rfl (by decide) (.bool z3.n) (.slice z3.s.a z3.s.len z3.s.cap))
      have huK:=(huJ.keep hE).kept ((SJ.keep hE).kept2 (U:=3) 0 rfl (by decide) (.bool z3.n) (.slice z3.s.a z3.s.len z3.s.cap))
      dsimp only[List.set] at SK
      clear q0 q1 q2 q3 c8 c9 ca cb'
      go_wp2
      go_roundw
      case rel =>
       refine⟨k,z3,o.set k l,R'-valL lb*l,rfl,by omega,SK,hzK,huK,by rw[List.length_set];exact hol.out,hdo.set k (by omega),hrs.out.1,hrs.out.2,?_⟩
       rw[valL_drop hk,hval.out,valL_drop (l:=o.set k l) (by rw[List.length_set];exact hqk),at_set_eq hqk,List.drop_set_of_lt (by omega)]
       have e1:=hR'.out
       rw[e1,Int.mul_add (valL lb) l,Int.mul_left_comm (valL lb) 10000]
       omega
      case measure=>first | (simp[intOf];done) | (simp[intOf];omega)
end Go.Proofs.Ytdjbfgfbpimakaa.Z4
