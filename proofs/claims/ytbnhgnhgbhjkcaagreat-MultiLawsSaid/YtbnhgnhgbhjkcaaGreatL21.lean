/- Lemmas. -/
import Derived.Test.YtbnhgnhgbhjkcaaGreatL20
namespace Go.Proofs.YtbnhgnhgbhjkcaaGreat.M
open Go.RowKit
inductive CC where
 |skip
 |ops (ap:List (Nat×Nat)) (l:List COp)
 |seq (a b:CC)
 |cond (x:Opd) (a b:CC)
 |block (id:Nat) (a:CC)
 |loop (a:CC)
 |exit (id:Nat)
 |ret
 |stuck
inductive AExit where
 |normal
 |exit (id:Nat)
 |ret
def Sub (OT:List TypeId) (s t:St):Prop:=∀(C:Ctx) (a:Act) (w:World),C.OT=OT→Is C s a w→Is C t a w
theorem Sub.rf {OT:List TypeId} (s:St):Sub OT s s:=fun _ _ _ _ h=>h
theorem Sub.tr {OT:List TypeId}{s t u:St} (h:Sub OT s t) (k:Sub OT t u):Sub OT s u:=fun C a w e hs=>k C a w e (h C a w e hs)
def cw (OT:List TypeId) (G:FuncId→List D→D→Prop):CC→(AExit→St→Prop)→St→Prop
 |.skip,Q,s=>Q .normal s
 |.ops ap l,Q,s=>eW ap s.r=true∧bN G l (Q .normal) s
 |.seq a b,Q,s=>cw OT G a (fun e t=>match e with
  |.normal => ∃u,Sub OT t u∧cw OT G b Q u
  |e=>Q e t) s
 |.cond x a b,Q,s=>match x.ev s.r with
  |.p (.bool c)=>(c=true→cw OT G a Q s)∧(c=false→cw OT G b Q s)
  |_=>False
 |.block id a,Q,s=>cw OT G a (fun e t=>match e with
  |.exit j=>if j=id then Q .normal t else Q (.exit j) t
  |e=>Q e t) s
 |.loop a,Q,s => ∀R:St→Prop,(∀t,cw OT G a (fun e t=>match e with
  |.normal => ∃u,Sub OT t u∧R u
  |e=>Q e t) t→R t)→∃u,Sub OT s u∧R u
 |.exit id,Q,s=>Q (.exit id) s
 |.ret,Q,s=>Q .ret s
 |.stuck,_,_=>False
structure Hint where
 id:Nat
 ord:List Nat
 am:List Nat
 ap:List (Nat×Nat)
def iz (P:Program) (nt:Nat) (OT:List TypeId) (ops:Array Oper):List Nat→Option (List (Nat×COp))
 |[]=>some []
 |i::l=>match ops[i]? with
  |some o=>match cop P nt OT ops o,iz P nt OT ops l with
   |some c,some m=>some ((i,c)::m)
   |_,_=>none
  |none=>none
def comp (P:Program) (nt:Nat) (OT:List TypeId) (H:List Hint):Code→Option CC
 |.skip=>some .skip
 |.region id ops draw=>if draw then
   match H.find? (·.id == id) with
   |some h=>match iz P nt OT ops h.ord with
    |some l=>if qv ops h.am h.ap l then some (.ops h.ap (l.map (·.2))) else some .stuck
    |none=>some .stuck
   |none=>some .stuck
  else match iz P nt OT ops (List.range ops.size) with
   |some l=>some (.ops [] (l.map (·.2)))
   |none=>some .stuck
 |.seq a b=>match comp P nt OT H a,comp P nt OT H b with
  |some x,some y=>some (.seq x y)
  |_,_=>none
 |.cond c a b=>match comp P nt OT H a,comp P nt OT H b with
  |some x,some y=>some (.cond (opd P none c) x y)
  |_,_=>none
 |.block id a=>(comp P nt OT H a).map (.block id)
 |.loop a=>(comp P nt OT H a).map .loop
 |.exit id=>some (.exit id)
 |.ret=>some .ret
 |_=>some .stuck
section
variable {C:Ctx}{s:St}{a:Act}{w:World}
def Qm (C:Ctx) (Q:AExit→St→Prop):Exit→Act→World→Prop
 |.normal,a,w => ∃t,Is C t a w∧Q .normal t
 |.exit id,a,w => ∃t,Is C t a w∧Q (.exit id) t
 |.ret,a,w => ∃t,Is C t a w∧Q .ret t
 |_,_,_=>False
theorem nc {P:Program}{nt:Nat}{OT:List TypeId}{ops:Array Oper}:∀{l:List Nat}{m:List (Nat×COp)},iz P nt OT ops l=some m→m.map (·.1)=l∧∀x∈m,∃o,ops[x.1]? = some o∧cop P nt OT ops o=some x.2
 |[],m,h=>by simp only[iz,Option.some.injEq] at h;subst h;exact⟨rfl,by simp⟩
 |i::l,m,h=>by
  simp only[iz] at h;split at h
  case h_2=>cases h
  rename_i o ho;split at h
  case h_2=>cases h
  rename_i c m' h1 h2;simp only[Option.some.injEq] at h;subst h;obtain⟨g1,g2⟩:=nc h2;refine⟨by simp[g1],fun x hx => ?_⟩;rcases List.mem_cons.1 hx with rfl | hx
  ·exact⟨o,ho,h1⟩
  ·exact g2 x hx
theorem rp {ops:Array Oper}{Q:Exit→Act→World→Prop}{K:St→Prop} (hC:C.Ok) (hQ:∀t a' w',Is C t a' w'→K t→Q .normal a' w'):∀(m:List (Nat×COp)) (s:St) (a:Act) (w:World),
  (∀x∈m,∃o,ops[x.1]? = some o∧cop C.P C.nt C.OT ops o=some x.2)→Is C s a w→bN (ConX C.P C.A) (m.map (·.2)) K s→wpOps C.P ops Q (m.map (·.1)) a w
 |[],s,a,w,_,his,hK=>hQ s a w his hK
 |x::m,s,a,w,hm,his,hK=>by
  obtain⟨o,ho,hc⟩:=hm x (by simp);rw[List.map_cons,wpOps_cons];exact sv hC ho hc his (fun t a' w' ht hk=>rp hC hQ m t a' w' (fun y hy=>hm y (by simp[hy])) ht hk) hK
theorem Is.later (h:Is C s a w){w':World} (he:Ext w w'):Is C s a w':=⟨h.1.elim fun loc hr=>⟨loc,hr.later he⟩,h.2⟩
theorem nd (hC:C.Ok) (hm:C.P.follows .mixedOrders=true) (H:List Hint):∀(c:Code) (cc:CC) (Q:AExit→St→Prop) (s:St) (a:Act) (w:World),comp C.P C.nt C.OT H c=some cc→cw C.OT (ConX C.P C.A) cc Q s→Is C s a w→c.wp C.P (Qm C Q) a w:=by
 intro c;induction c with
 |skip=>intro cc Q s a w h1 h2 h3;simp only[comp,Option.some.injEq] at h1;subst h1;exact wp_skip ⟨s,h3,h2⟩
 |region id ops draw =>
  intro cc Q s a w h1 h2 h3;simp only[comp] at h1;cases draw with
  |true =>
   simp only[if_true] at h1;split at h1
   case h_2=>cases h1;exact h2.elim
   rename_i h _;split at h1
   case h_2=>cases h1;exact h2.elim
   rename_i l hl;split at h1
   case isFalse=>cases h1;exact h2.elim
   rename_i hok;simp only[Option.some.injEq] at h1;subst h1;obtain⟨hap,hcw⟩:=h2;simp only[qv,Bool.and_eq_true,beq_iff_eq,List.all_eq_true,decide_eq_true_eq] at hok;obtain⟨⟨⟨⟨hlen,hevery⟩,hall⟩,hanc⟩,hpairs⟩:=hok;obtain⟨g1,g2⟩:=nc hl;obtain⟨p1,p2⟩:=qw hpairs;refine wp_region_any hm ?_;have hw:Is C s a { w with drawn:=w.drawn+1 }:=h3.later (Below.drew (Below.refl _ _));have hfull:∀i,i<ops.size→i∈l.map (·.1):=by
    intro i hi;have:=hevery i (List.mem_range.2 hi);simpa using this
   have hfree:ApI (fun t => ∃c∈l.map (·.2),c.alc=true∧c.dst=some t) h.ap s.r:=by
    refine⟨hap,fun p hp ⟨c,hc,hca,hct⟩ j o he => ?_⟩;have hk5:∀c∈l.map (·.2),c.op.kind≠5:=fun c hc=>by
     obtain⟨x,hx,rfl⟩:=List.mem_map.1 hc;have hne:h.ap.isEmpty=false:=by cases hq:h.ap with
      |nil=>rw[hq] at hp;cases hp
      |cons=>rfl
     have:=(hall x hx).2;simp only[eA,hne,Bool.false_or,Bool.and_eq_true,bne_iff_ne,ne_eq] at this;exact this.1
    have hm:=pR _ s hk5 hcw c hc hca _ hct;obtain⟨⟨loc,hR⟩,-⟩:=h3;have h5:=hR.tmps p.1;rw[he] at h5;generalize a.tmps.getD p.1 undef=vv at h5;cases h5 with
    |ptr L id i off h1 h2=>rw[hR.dom _ hm] at h1;cases h1
   have:=yW (Q:=Qm C Q) (K:=Q .normal) (ap:=h.ap) hC hanc (fun t a' w' ht hk=>⟨t,ht,hk⟩) l.length l (Array.replicate ops.size false) s a _ rfl (by simp) (fun i hi=>by
     simp only[Array.getD_eq_getD_getElem?,Array.getElem?_replicate,hi,if_true,Option.getD_some,true_iff];exact hfull i hi) p1 (fun x hx=>⟨p2 x hx,(hall x hx).1,⟨(hall x hx).2,fun ha t ht=>⟨x.2,List.mem_map.2 ⟨x,hx,rfl⟩,ha,ht⟩⟩,g2 x hx⟩) (fun j hj hlj=>by simp[hj] at hlj) hw hfree hcw
   rwa[hlen] at this
  |false =>
   simp only[Bool.false_eq_true,if_false] at h1;split at h1
   case h_2=>cases h1;exact h2.elim
   rename_i l hl;simp only[Option.some.injEq] at h1;subst h1;obtain⟨hap,hcw⟩:=h2;obtain⟨g1,g2⟩:=nc hl;refine wp_region ?_;rw[←g1];exact rp hC (fun t a' w' ht hk=>⟨t,ht,hk⟩) l s a w g2 h3 hcw
 |seq x y ihx ihy =>
  intro cc Q s a w h1 h2 h3;simp only[comp] at h1;split at h1
  case h_2=>cases h1
  rename_i cx cy hx hy;simp only[Option.some.injEq] at h1;subst h1;refine wp_seq (wp_mono (ihx cx _ s a w hx h2 h3) ?_);intro e a' w' hq;cases e with
  |normal =>
   obtain⟨t,ht,u,hsub,hu⟩:=hq;exact ihy cy Q u a' w' hy hu (hsub C a' w' rfl ht)
  |exit id=>exact hq
  |ret=>exact hq
  |_=>exact hq.elim
 |cond o x y ihx ihy =>
  intro cc Q s a w h1 h2 h3;simp only[comp] at h1;split at h1
  case h_2=>cases h1
  rename_i cx cy hx hy;simp only[Option.some.injEq] at h1;subst h1;simp only[cw] at h2;split at h2
  case h_2=>exact h2.elim
  rename_i b hb;obtain⟨loc,hr⟩:=h3.1;have hv:=hr.opd (P:=C.P) none o;rw[hb] at hv;have hv:=hv.inv;generalize hov:a.eval o=v at hv;cases hv;cases b with
  |true=>exact wp_cond_true hov (ihx cx Q s a w hx (h2.1 rfl) h3)
  |false=>exact wp_cond_false hov (ihy cy Q s a w hy (h2.2 rfl) h3)
 |block id x ih =>
  intro cc Q s a w h1 h2 h3;simp only[comp,Option.map_eq_some_iff] at h1;obtain⟨cx,hx,rfl⟩:=h1;refine wp_block (wp_mono (ih cx _ s a w hx h2 h3) ?_);intro e a' w' hq;cases e with
  |normal=>exact hq
  |exit j =>
   obtain⟨t,ht,hq⟩:=hq;simp only[Exit.inBlock];by_cases hj:j=id
   ·rw[if_pos hj];simp only[hj,if_true] at hq;exact⟨t,ht,hq⟩
   ·rw[if_neg hj];simp only[hj,if_false] at hq;exact⟨t,ht,hq⟩
  |ret=>exact hq
  |_=>exact hq.elim
 |loop x ih =>
  intro cc Q s a w h1 h2 h3;simp only[comp,Option.map_eq_some_iff] at h1;obtain⟨cx,hx,rfl⟩:=h1;intro b k cs;have key:=h2 (fun t => ∀(a:Act) (w:World),Is C t a w→∃e a' w',Qm C Q e a' w'∧Arrives C.P (lone (b.at a (.code x::.inLoop x::k)) cs w) b k cs e a' w') (fun t ht a w hI=>by
   obtain⟨e,a₁,w₁,hq,harr⟩:=ih cx _ t a w hx ht hI b (.inLoop x::k) cs;cases e with
   |normal =>
    obtain⟨t',ht',u,hsub,hu⟩:=hq;obtain⟨e₂,a₂,w₂,hq₂,harr₂⟩:=hu a₁ w₁ (hsub C a₁ w₁ rfl ht');exact⟨e₂,a₂,w₂,hq₂,.of_steps (Steps.trans harr (.one step_inLoop)) harr₂⟩
   |exit id=>exact⟨.exit id,a₁,w₁,hq,.pass (x:=.inLoop x) rfl (fun _ _ => .inl (by simp)) harr⟩
   |ret=>exact⟨.ret,a₁,w₁,hq,.pass (x:=.inLoop x) rfl (fun _ _ => .inl (by simp)) harr⟩
   |_=>exact hq.elim)
  obtain⟨u,hsub,hu⟩:=key;obtain⟨e,a',w',hq,harr⟩:=hu a w (hsub C a w rfl h3);exact⟨e,a',w',hq,.of_steps (.one step_loop) harr⟩
 |exit id=>intro cc Q s a w h1 h2 h3;simp only[comp,Option.some.injEq] at h1;subst h1;exact wp_exit ⟨s,h3,h2⟩
 |ret=>intro cc Q s a w h1 h2 h3;simp only[comp,Option.some.injEq] at h1;subst h1;exact wp_ret ⟨s,h3,h2⟩
 |_ =>
  intro cc Q s a w h1 h2;simp only[comp,Option.some.injEq] at h1;subst h1;exact h2.elim
end
end Go.Proofs.YtbnhgnhgbhjkcaaGreat.M
namespace Go.Proofs.YtbnhgnhgbhjkcaaGreat.Z4
open Go.RowKit
set_option maxRecDepth 100000
set_option maxHeartbeats 1000000
theorem rB {j:Nat} (h:j≤4):(10:Int)^j≤10000:=by
 have h1:(10:Nat)^j≤10^4:=Nat.pow_le_pow_right (by omega) h;have e:(10:Int)^j=((10^j:Nat):Int):=by rw[Int.natCast_pow];rfl
 rw[e];simp only[Nat.reducePow] at h1;omega
theorem rC {A R n V p:Int}{k:Nat} (h:A=R*10^k+n) (hR:k≠4→R=0):A*p+V=R*(p*10000)+(V+n*p):=by
 by_cases e:k=4
 ·subst e;rw[h];grind
 ·rw[hR e] at h ⊢;rw[h];grind
theorem zread_any (t:List UInt8) (w:World) (hs:t.length≤4294967296) (hd:∀j,j<(body t).length→48≤byt (body t) j∧byt (body t) j≤57) (hsm:Sm (ef t)) :
  Calls Tryz.prog 65 #[.string (bs t)] w (RetZ w (ef t)):=by
 obtain⟨q,hq⟩:∃q,q=body t:=⟨_,rfl⟩
 have hql:q.length≤t.length:=by rw[hq,hP];omega
 rw[←hq] at hd;replace hd:=hd_ hd;replace hsm:=hd_ hsm;have HV:Hd (ef t=sg (aG t) (aJ q)):=hd_ (by rw[hq];rfl);cases hn:aG t
 ·rw[ib hn] at hq;subst hq;rw[hn] at HV;by_cases hl:0<q.length
  ·have hb:=mE hn hl;clear hn;go_enter Tryz.func65,Tryz.ntmps65;go_wp2;go_loopw [4,5] (fun ov i wr => ∃(m:Nat) (iv:Int) (so:SV) (o:List Int),ov = .slice so.a so.len so.cap∧i = .int .i64 iv∧iv+4*m=q.length∧-4≤iv∧Rw wr (w.heap.size+1) .i64 so o∧o.length=m∧Dig o ∧
     aJ q=aJ (q.take iv.toNat)*10000^m+valL o∧Ext (w.alloc (Obj.cells #[Value.bool false,Value.slice none 0 0] 48)) wr) (fun _ i _=>(intOf i+4).toNat)
   case atStart=>exact⟨0,q.length,⟨none,0,0⟩,[],rfl,rfl,by omega,by omega,Rw.nil_ _ _ _,rfl,(fun x hx=>by cases hx),by simp[valL],(Ext.rf _)⟩
   case round =>
    obtain⟨m,iv,so,o,rfl,rfl,him,hiv,hown,hol,hdo,hval,hx⟩:=hrel;have hsl:=hown.len;obtain⟨oa,on,oc⟩:=so;simp only at hsl;subst hsl;have holb:o.length≤q.length+4:=by omega
    replace hol:=hd_ hol;replace hval:=hd_ hval;replace him:=hd_ him;by_cases hi:0<iv
    ·obtain⟨ii,rfl⟩:=Int.eq_ofNat_of_zero_le (Int.le_of_lt hi);have hii:0<ii:=by omega
     have hiq:ii≤q.length:=by have:=him.out;omega
     go_wp2;go_loop [6,7] (fun n j => ∃(nv jv:Int),n = .int .i64 nv∧j = .int .i64 jv∧(ii:Int)-4≤jv∧jv≤ii∧0≤nv∧nv<10^(jv.toNat-(ii-4))∧aJ (q.take jv.toNat)=aJ (q.take (ii-4))*10^(jv.toNat-(ii-4))+nv) (fun _ j=>(ii-intOf j).toNat)
     case atStart=>exact⟨0,(ii:Int)-4,rfl,rfl,by omega,by omega,by omega,by rw[show ((ii:Int)-4).toNat-(ii-4)=0 by omega];simp,by rw[show ((ii:Int)-4).toNat=ii-4 by omega];simp⟩
     case round =>
      obtain⟨nv,jv,rfl,rfl,hj1,hj2,hn1,hn2,hnv⟩:=hrel;have hn9:=(kG (j:=jv.toNat-(ii-4)) (by omega)).2;have hn9':nv<1000000000:=by omega
      replace hn2:=hd_ hn2;replace hnv:=hd_ hnv;clear hn9;by_cases hj:jv<ii
      ·by_cases hj0:0≤jv
       ·obtain⟨jj,rfl⟩:=Int.eq_ofNat_of_zero_le hj0;have hjq:jj<q.length:=by omega
        have hdj:=hd.out jj hjq;go_wp2;go_round
        case rel =>
         refine⟨_,(jj:Int)+1,rfl,by go_num,by omega,by omega,by omega,?_,?_⟩
         ·have h2:=hn2.out;rw[show ((jj:Int)+1).toNat-(ii-4)=(jj-(ii-4))+1 by omega,Int.pow_succ];rw[show (jj:Int).toNat-(ii-4)=jj-(ii-4) by omega] at h2;generalize (10:Int)^(jj-(ii-4))=p at *;omega
         ·have h2:=hnv.out;rw[show ((jj:Int)+1).toNat=jj+1 by omega,kF hjq,show jj+1-(ii-4)=(jj-(ii-4))+1 by omega,Int.pow_succ];rw[show (jj:Int).toNat=jj by omega] at h2;rw[h2];grind
        case measure=>first | (simp[intOf];done) | (simp[intOf];omega)
       ·have hz:Hd (jv.toNat-(ii-4)=(jv+1).toNat-(ii-4)∧jv.toNat=(jv+1).toNat):=hd_ (by omega);go_wp2;go_round
        case rel=>exact⟨nv,jv+1,rfl,by go_num,by omega,by omega,hn1,by rw[←hz.out.1];exact hn2.out,by rw[←hz.out.1,←hz.out.2];exact hnv.out⟩
        case measure=>first | (simp[intOf];done) | (simp[intOf];omega)
      ·obtain rfl:jv=ii:=by omega
       have hn4:nv≤9999:=by
        have h1:=hn2.out;have h2:=rB (j:=(ii:Int).toNat-(ii-4)) (by omega);omega
       go_wp2_with ((refine eB _ rfl _ _ 46 rfl .i64 8 Tryz.underlying46 qm (w.alloc (Obj.cells #[Value.bool false,Value.slice none 0 0] 48)) ⟨oa,o.length,oc⟩ o _ rfl rfl (by simpa using hown) hx (by omega) (by omega) ?_);intro s5 w5 hrw5 hx5 hk5;rw[World.size_alloc] at hrw5);go_roundw
       case rel =>
        refine⟨m+1,(ii:Int)-4,s5,o++[nv],rfl,rfl,by have:=him.out;omega,by omega,hrw5,by simp[hol.out],hdo.snoc (by omega),?_,hx5⟩;have h1:=hval.out;have h2:=hnv.out;rw[valL_snoc,hol.out,Int.pow_succ,h1,show ((ii:Int)-4).toNat=ii-4 by omega];refine rC h2 (fun hk => ?_);rw[show ii-4=0 by omega];rfl
       case measure=>first | (simp[intOf];done) | (simp[intOf];omega)
    ·have hv:Hd (valL o=aJ q):=hd_ (by have:=hval.out;rw[show iv.toNat=0 by omega] at this;simp[aJ] at this ⊢;omega);clear him;go_wp2_with fail;refine (made_any _ ⟨oa,o.length,oc⟩ o _ (hown.isL hdo.fit) hdo (by rw[hv.out,←HV.out];exact hsm.out)).mono ?_;rintro e w2 ⟨y,rfl,hy,hx2⟩;rw[hv.out,←HV.out] at hy;have k0:w2.cell? ⟨w.heap.size,0,none⟩=some (Value.bool false):=cell_later hx2 (cell_later hx (by simp));have k1:w2.cell? ⟨w.heap.size,1,none⟩=some (Value.slice none 0 0):=cell_later hx2 (cell_later hx (by simp));have hsz:=hx.size;have hsz2:=hx2.size;simp only[World.size_alloc] at hsz;have f0:∀i,w2.frozen? ⟨w.heap.size,i,none⟩=false:=fun i=>(hx2.frozen (p:=⟨w.heap.size,i,none⟩) (by show w.heap.size<_;omega)).trans ((hx.frozen (p:=⟨w.heap.size,i,none⟩) (by simp)).trans (by simp))
     go_wp2;refine bodyPost_ret (v:=.agg #[.bool y.n,.slice y.s.a y.s.len y.s.cap]) (by simp[results,Tryz.results65,go_sem,k0,k1]) rfl ⟨y,rfl,?_,?_⟩
     ·exact hy.kept ((bC.rf _ _).st2 (T':=48) (((Ty.new' rfl).keep hx).keep hx2) (by decide) _ _)
     ·exact ((((Ext.rf w).al _).tr hx).tr hx2).st2 (Nat.le_refl _) _ _
  ·clear hn;go_enter Tryz.func65,Tryz.ntmps65;go_wp2;go_loopw [4,5] (fun ov i wr => ∃(m:Nat) (iv:Int) (so:SV) (o:List Int),ov = .slice so.a so.len so.cap∧i = .int .i64 iv∧iv=0∧Rw wr (w.heap.size+1) .i64 so o∧o.length=m∧Dig o ∧
     aJ q=aJ (q.take iv.toNat)*10000^m+valL o∧Ext (w.alloc (Obj.cells #[Value.bool false,Value.slice none 0 0] 48)) wr) (fun _ i _=>(intOf i+4).toNat)
   case atStart=>exact⟨0,q.length,⟨none,0,0⟩,[],rfl,rfl,by omega,Rw.nil_ _ _ _,rfl,(fun x hx=>by cases hx),by simp[valL],(Ext.rf _)⟩
   case round =>
    obtain⟨m,iv,so,o,rfl,rfl,hiv,hown,hol,hdo,hval,hx⟩:=hrel;have hsl:=hown.len;obtain⟨oa,on,oc⟩:=so;simp only at hsl;subst hsl;replace hol:=hd_ hol;replace hval:=hd_ hval;have him:=hd_ hiv;have hi:¬ 0<iv:=by omega
    clear hiv;have hv:Hd (valL o=aJ q):=hd_ (by have:=hval.out;rw[show iv.toNat=0 by omega] at this;simp[aJ] at this ⊢;omega);clear him;go_wp2_with fail;refine (made_any _ ⟨oa,o.length,oc⟩ o _ (hown.isL hdo.fit) hdo (by rw[hv.out,←HV.out];exact hsm.out)).mono ?_;rintro e w2 ⟨y,rfl,hy,hx2⟩;rw[hv.out,←HV.out] at hy;have k0:w2.cell? ⟨w.heap.size,0,none⟩=some (Value.bool false):=cell_later hx2 (cell_later hx (by simp));have k1:w2.cell? ⟨w.heap.size,1,none⟩=some (Value.slice none 0 0):=cell_later hx2 (cell_later hx (by simp));have hsz:=hx.size;have hsz2:=hx2.size;simp only[World.size_alloc] at hsz;have f0:∀i,w2.frozen? ⟨w.heap.size,i,none⟩=false:=fun i=>(hx2.frozen (p:=⟨w.heap.size,i,none⟩) (by show w.heap.size<_;omega)).trans ((hx.frozen (p:=⟨w.heap.size,i,none⟩) (by simp)).trans (by simp))
    go_wp2;refine bodyPost_ret (v:=.agg #[.bool y.n,.slice y.s.a y.s.len y.s.cap]) (by simp[results,Tryz.results65,go_sem,k0,k1]) rfl ⟨y,rfl,?_,?_⟩
    ·exact hy.kept ((bC.rf _ _).st2 (T':=48) (((Ty.new' rfl).keep hx).keep hx2) (by decide) _ _)
    ·exact ((((Ext.rf w).al _).tr hx).tr hx2).st2 (Nat.le_refl _) _ _
 ·obtain⟨hl,hb⟩:=mD hn;rw[i9 hn] at hq;have hql2:q.length+1=t.length:=by rw[hq];simp;omega
  have hqe:Hd (t.tail=q):=hd_ hq.symm;have hlq:Hd (((t.length-1:Nat):Int)=q.length):=hd_ (by omega);clear hq;rw[hn] at HV;clear hn;go_enter Tryz.func65,Tryz.ntmps65;go_wp2;rw[hqe.out,hlq.out];go_loopw [4,5] (fun ov i wr => ∃(m:Nat) (iv:Int) (so:SV) (o:List Int),ov = .slice so.a so.len so.cap∧i = .int .i64 iv∧iv+4*m=q.length∧-4≤iv∧Rw wr (w.heap.size+1) .i64 so o∧o.length=m∧Dig o ∧
    aJ q=aJ (q.take iv.toNat)*10000^m+valL o∧Ext (w.alloc (Obj.cells #[Value.bool false,Value.slice none 0 0] 48)) wr) (fun _ i _=>(intOf i+4).toNat)
  case atStart=>exact⟨0,q.length,⟨none,0,0⟩,[],rfl,rfl,by omega,by omega,Rw.nil_ _ _ _,rfl,(fun x hx=>by cases hx),by simp[valL],(Ext.rf _)⟩
  case round =>
   obtain⟨m,iv,so,o,rfl,rfl,him,hiv,hown,hol,hdo,hval,hx⟩:=hrel;have hsl:=hown.len;obtain⟨oa,on,oc⟩:=so;simp only at hsl;subst hsl;have holb:o.length≤q.length+4:=by omega
   replace hol:=hd_ hol;replace hval:=hd_ hval;replace him:=hd_ him;by_cases hi:0<iv
   ·obtain⟨ii,rfl⟩:=Int.eq_ofNat_of_zero_le (Int.le_of_lt hi);have hii:0<ii:=by omega
    have hiq:ii≤q.length:=by have:=him.out;omega
    go_wp2;go_loop [6,7] (fun n j => ∃(nv jv:Int),n = .int .i64 nv∧j = .int .i64 jv∧(ii:Int)-4≤jv∧jv≤ii∧0≤nv∧nv<10^(jv.toNat-(ii-4))∧aJ (q.take jv.toNat)=aJ (q.take (ii-4))*10^(jv.toNat-(ii-4))+nv) (fun _ j=>(ii-intOf j).toNat)
    case atStart=>exact⟨0,(ii:Int)-4,rfl,rfl,by omega,by omega,by omega,by rw[show ((ii:Int)-4).toNat-(ii-4)=0 by omega];simp,by rw[show ((ii:Int)-4).toNat=ii-4 by omega];simp⟩
    case round =>
     obtain⟨nv,jv,rfl,rfl,hj1,hj2,hn1,hn2,hnv⟩:=hrel;have hn9:=(kG (j:=jv.toNat-(ii-4)) (by omega)).2;have hn9':nv<1000000000:=by omega
     replace hn2:=hd_ hn2;replace hnv:=hd_ hnv;clear hn9;by_cases hj:jv<ii
     ·by_cases hj0:0≤jv
      ·obtain⟨jj,rfl⟩:=Int.eq_ofNat_of_zero_le hj0;have hjq:jj<q.length:=by omega
       have hdj:=hd.out jj hjq;go_wp2;go_round
       case rel =>
        refine⟨_,(jj:Int)+1,rfl,by go_num,by omega,by omega,by omega,?_,?_⟩
        ·have h2:=hn2.out;rw[show ((jj:Int)+1).toNat-(ii-4)=(jj-(ii-4))+1 by omega,Int.pow_succ];rw[show (jj:Int).toNat-(ii-4)=jj-(ii-4) by omega] at h2;generalize (10:Int)^(jj-(ii-4))=p at *;omega
        ·have h2:=hnv.out;rw[show ((jj:Int)+1).toNat=jj+1 by omega,kF hjq,show jj+1-(ii-4)=(jj-(ii-4))+1 by omega,Int.pow_succ];rw[show (jj:Int).toNat=jj by omega] at h2;rw[h2];grind
       case measure=>first | (simp[intOf];done) | (simp[intOf];omega)
      ·have hz:Hd (jv.toNat-(ii-4)=(jv+1).toNat-(ii-4)∧jv.toNat=(jv+1).toNat):=hd_ (by omega);go_wp2;go_round
       case rel=>exact⟨nv,jv+1,rfl,by go_num,by omega,by omega,hn1,by rw[←hz.out.1];exact hn2.out,by rw[←hz.out.1,←hz.out.2];exact hnv.out⟩
       case measure=>first | (simp[intOf];done) | (simp[intOf];omega)
     ·obtain rfl:jv=ii:=by omega
      have hn4:nv≤9999:=by
       have h1:=hn2.out;have h2:=rB (j:=(ii:Int).toNat-(ii-4)) (by omega);omega
      go_wp2_with ((refine eB _ rfl _ _ 46 rfl .i64 8 Tryz.underlying46 qm (w.alloc (Obj.cells #[Value.bool false,Value.slice none 0 0] 48)) ⟨oa,o.length,oc⟩ o _ rfl rfl (by simpa using hown) hx (by omega) (by omega) ?_);intro s5 w5 hrw5 hx5 hk5;rw[World.size_alloc] at hrw5);go_roundw
      case rel =>
       refine⟨m+1,(ii:Int)-4,s5,o++[nv],rfl,rfl,by have:=him.out;omega,by omega,hrw5,by simp[hol.out],hdo.snoc (by omega),?_,hx5⟩;have h1:=hval.out;have h2:=hnv.out;rw[valL_snoc,hol.out,Int.pow_succ,h1,show ((ii:Int)-4).toNat=ii-4 by omega];refine rC h2 (fun hk => ?_);rw[show ii-4=0 by omega];rfl
      case measure=>first | (simp[intOf];done) | (simp[intOf];omega)
   ·have hv:Hd (valL o=aJ q):=hd_ (by have:=hval.out;rw[show iv.toNat=0 by omega] at this;simp[aJ] at this ⊢;omega);clear him;go_wp2_with fail;refine (made_any _ ⟨oa,o.length,oc⟩ o _ (hown.isL hdo.fit) hdo (by rw[hv.out,←HV.out];exact hsm.out)).mono ?_;rintro e w2 ⟨y,rfl,hy,hx2⟩;rw[hv.out,←HV.out] at hy;have k0:w2.cell? ⟨w.heap.size,0,none⟩=some (Value.bool false):=cell_later hx2 (cell_later hx (by simp));have k1:w2.cell? ⟨w.heap.size,1,none⟩=some (Value.slice none 0 0):=cell_later hx2 (cell_later hx (by simp));have hsz:=hx.size;have hsz2:=hx2.size;simp only[World.size_alloc] at hsz;have f0:∀i,w2.frozen? ⟨w.heap.size,i,none⟩=false:=fun i=>(hx2.frozen (p:=⟨w.heap.size,i,none⟩) (by show w.heap.size<_;omega)).trans ((hx.frozen (p:=⟨w.heap.size,i,none⟩) (by simp)).trans (by simp))
    go_wp2;refine bodyPost_ret (v:=.agg #[.bool y.n,.slice y.s.a y.s.len y.s.cap]) (by simp[results,Tryz.results65,go_sem,k0,k1]) rfl ⟨y,rfl,?_,?_⟩
    ·exact hy.kept ((bC.rf _ _).st2 (T':=48) (((Ty.new' rfl).keep hx).keep hx2) (by decide) _ _)
    ·exact ((((Ext.rf w).al _).tr hx).tr hx2).st2 (Nat.le_refl _) _ _
end Go.Proofs.YtbnhgnhgbhjkcaaGreat.Z4
namespace Go.Proofs.YtbnhgnhgbhjkcaaGreat.M
open Go.RowKit
def ck (P:Program):List ResultVar→Option (List (Nat×Option (Bool×Nat)))
 |[]=>some []
 |.tmp t::l=>(ck P l).map ((t,none)::·)
 |.cell a T::l=>match de P T with
  |some (ag,sz)=>if ag||sz == 1 then (ck P l).map ((a,some (ag,sz))::·) else none
  |none=>none
def af (s:St):Nat×Option (Bool×Nat)→Option AV
 |(t,none)=>some (s.r t)
 |(t,some (ag,sz))=>match s.r t with
  |.ptr i 0 0=>match s.m i with
   |some ⟨_,osz,.box v,_⟩=>v.get 0 sz osz ag
   |_=>none
  |_=>none
def ah (s:St):List (Nat×Option (Bool×Nat))→Option (List D)
 |[]=>some []
 |x::l=>match (match af s x with | some v=>v.toD true s.m 20 | none=>none),ah s l with
  |some d,some ds=>some (d::ds)
  |_,_=>none
def ai (s:St) (rs:List (Nat×Option (Bool×Nat))):Option D:=match ah s rs with
 |some [d]=>some d
 |some ds=>some (.tup ds)
 |none=>none
def bx (ds:List D):St:=⟨fun t=>match ds[t]? with
 |some d => .p d
 |none => .und,fun _=>none⟩
section
variable {C:Ctx}{s:St}{a:Act}{w:World}
def dQ (tmps:Array Value):ResultVar→Sem Value
 |.tmp t=>pure (tmps.getD t undef)
 |.cell a t=>do loadVar t (← asAddr (tmps.getD a undef))
theorem mJ (fn:Func) (tmps:Array Value):results fn tmps=(fn.results.mapM (dQ tmps) >>= fun vs=>pure (if h:vs.size=1 then vs[0] else .tuple vs)):=rfl
theorem mK {loc:a8} (h:Rel C.w0 C.base C.nt loc s a w) (x:ResultVar) (l:List ResultVar) (rs:List (Nat×Option (Bool×Nat))) (h1:ck C.P (x::l)=some rs) :
  ∃y rs',rs=y::rs'∧ck C.P l=some rs'∧∀(M':Mem) u,(∀i o,M' i=some o→s.m i=some o)→af ⟨s.r,M'⟩ y=some u→∃v,(dQ a.tmps x).run C.P w = .ok v w∧RV w (NB C.base s.m loc w) loc v u:=by
 cases x with
 |tmp t =>
  simp only[ck,Option.map_eq_some_iff] at h1;obtain⟨rs',h1,rfl⟩:=h1;refine⟨_,rs',rfl,h1,fun M' u hM hu => ?_⟩;simp only[af,Option.some.injEq] at hu;subst hu;exact⟨_,by simp[dQ],h.tmps t⟩
 |cell t T =>
  simp only[ck] at h1;split at h1
  case h_2=>cases h1
  rename_i ag sz hT;split at h1
  case isFalse=>cases h1
  rename_i hs;simp only[Option.map_eq_some_iff] at h1;obtain⟨rs',h1,rfl⟩:=h1;refine⟨_,rs',rfl,h1,fun M' u hM hu => ?_⟩;simp only[af] at hu;split at hu
  case h_2=>cases hu
  rename_i i hp;split at hu
  case h_2=>cases hu
  rename_i T' osz v frz hm;have hrv:=h.tmps t;rw[hp] at hrv;generalize hq:a.tmps.getD t undef=q at hrv;cases hrv with
  |ptr L _ _ _ hL hn =>
  obtain⟨L',hL',hok⟩:=h.objs i _ (hM _ _ hm);rw[hL] at hL';cases hL';obtain⟨c,fr,k1,k2,k3,-⟩:=hok.at_ hn;obtain⟨m1,m2,m3,m4⟩:=k3;obtain⟨x,hx1,hx2⟩:=qk (P:=C.P) (T':=T) k1 m1 m2 m3 m4 hu (dW hT) (fun e=>by simpa[e] using hs);refine⟨x,?_,hx2⟩;have:(Instr.loadAt T (.pointer (some ⟨L.b,L.o+0,none⟩))).run C.P w=(loadVar T ⟨L.b,L.o+0,none⟩).run C.P w:=by simp[Instr.loadAt,Instr.sureAddr]
  rw[this] at hx1;simp only[Nat.zero_mul,Nat.add_zero] at hq hx1;simp[dQ,hq,asAddr,hx1]
theorem mL {loc:a8}{M':Mem} (hM:∀i o,M' i=some o→s.m i=some o) (h0:C.base.L0=none∨M' aS=none) (h:Rel C.w0 C.base C.nt loc s a w):∀(l:List ResultVar) (rs:List (Nat×Option (Bool×Nat))) (ds:List D),ck C.P l=some rs→ah ⟨s.r,M'⟩ rs=some ds →
  ∃vs:List Value,(l.mapM (dQ a.tmps)).run C.P w = .ok vs w∧vs.length=ds.length∧∀(i:Nat) (d:D),ds[i]? = some d→V w (fun b=>b<w.heap.size∧¬ C.base.own b) (vs.getD i undef) d
 |[],rs,ds,h1,h2=>by
  simp only[ck,Option.some.injEq] at h1;subst h1;simp only[ah,Option.some.injEq] at h2;subst h2;exact⟨[],by simp,rfl,fun i d hd=>by simp at hd⟩
 |x::l,rs,ds,h1,h2=>by
  obtain⟨y,rs',rfl,hl,hrun0⟩:=mK h x l rs h1;have hrun:=fun u=>hrun0 M' u hM
  simp only[ah] at h2;split at h2
  case h_2=>cases h2
  rename_i d ds' g1 g2;simp only[Option.some.injEq] at h2;subst h2;split at g1
  case h_2=>cases g1
  rename_i u hu;obtain⟨v,hv1,hv2⟩:=hrun u hu;obtain⟨vs,q1,q2,q3⟩:=mL hM h0 h l rs' ds' hl g2;refine⟨v::vs,by simp[List.mapM_cons,hv1,q1],by simp[q2],fun i e he => ?_⟩
  match i,he with
  |0,he =>
   simp at he;subst he;exact sQ (any:=true) (N':=fun b=>b<w.heap.size∧¬ C.base.own b) h hM (fun b hb=>⟨hb.1,hb.2.1⟩) (fun i o L ho' _ hL hn=>⟨h.obj_lt (hM _ _ ho') hL hn,fun hb=>by
    have ho:=hM _ _ ho';obtain⟨L',hL',hok⟩:=h.objs i o ho;rw[hL] at hL';cases hL';obtain⟨c,fr,k1,k2,k3,k4,k5⟩:=hok.at_ hn;cases hf:o.frz with
    |false =>
     have hlo:=h.low _ hb;rcases (k4 hf).1 with hge | ⟨L',hL',hbb⟩
     ·omega
     ·rcases h0 with h0 | h0
      ·rw[h0] at hL';cases hL'
      ·obtain⟨y1,_,y3,o',y4,y5⟩:=h.keepL L' hL';have:=h.inj i aS o o' L L' ho y4 hf hL y1 hn y3 hbb.symm;subst this;rw[h0] at ho';cases ho'
    |true=>exact (k5 hf).2.1 hb⟩) 20 u v d g1 hv2
  |i+1,he=>simpa using q3 i e (by simpa using he)
theorem ze {P:Program}{A OT:List TypeId}{f:FuncId}{fn:Func}{code:Code}{H:List Hint}{cc:CC}{rs:List (Nat×Option (Bool×Nat))}{ds:List D}{d:D}
  (hf:P.funcs[f]? = some fn) (hb:fn.body=some code) (hm:P.follows .mixedOrders=true) (hc:comp P fn.ntmps OT H code=some cc) (hr:ck P fn.results.toList=some rs) (hA:OT.all (fun T => !A.contains T)=true) (hn:ds.length≤fn.ntmps)
  (hcw:cw OT (ConX P A) cc (fun e s=>(match e with | .exit _=>False | _=>True)∧ai s rs=some d) (bx ds)):Con P (A++dF OT) f ds d:=by
 intro base w vs h1 h2 h3 h4;have hbody:=nd (C:=⟨P,A,OT,fn.ntmps,w,⟨base,none⟩⟩) ⟨fun b hb c T fr hc hT=>h2 b hb c T fr hc (List.mem_append_left _ hT),fun T hT=>by
  rw[List.all_eq_true] at hA;have:=hA T hT;simpa using this,fun b hb c T fr hc hT=>h2 b hb c T fr hc (List.mem_append_right _ hT)⟩ hm H code cc _ (bx ds) { tmps:=vs++Array.replicate (fn.ntmps-vs.size) undef,defers:=[] } w hc hcw ⟨⟨fun _=>none,ExtL.rf _ w,rfl,by simp;omega,h1,fun _ _=>rfl,fun t => ?_,fun id o ho=>by simp[bx] at ho,fun id _ o _ _ _ ho=>by simp[bx] at ho,dm.none_ rfl _ _⟩,fun id o ho=>by simp[bx] at ho⟩
 ·refine calls_of_wp hf hb (wp_mono hbody ?_);intro e a' w' hq;have fin:(∃t,Is ⟨P,A,OT,fn.ntmps,w,⟨base,none⟩⟩ t a' w'∧ai t rs=some d)→a'.defers=[]∧∃v,(results fn a'.tmps).run P w' = .ok v w'∧∃v',Ending.returned v=Ending.returned v'∧V w' (fun b=>b<w'.heap.size∧¬ base b) v' d∧Ext w w':=by
   rintro⟨t,ht,hres⟩;obtain⟨loc,hrel⟩:=ht.1;refine⟨hrel.defers,?_⟩;have key:∀ds',ah t rs=some ds'→∃vs:List Value,(fn.results.mapM (dQ a'.tmps)).run P w' = .ok vs.toArray w'∧vs.length=ds'.length∧∀(i:Nat) (d:D),ds'[i]? = some d→V w' (fun b=>b<w'.heap.size∧¬ base b) (vs.getD i undef) d:=by
    intro ds' hds;obtain⟨vs,q1,q2,q3⟩:=mL (M':=t.m) (fun _ _ h=>h) (.inl rfl) hrel _ _ _ hr hds;refine⟨vs,?_,q2,q3⟩;rw[Array.mapM_eq_mapM_toList];simp only at q1;simp[q1]
   have hresults:∀vs:List Value,(fn.results.mapM (dQ a'.tmps)).run P w' = .ok vs.toArray w'→(results fn a'.tmps).run P w' = .ok (if h:vs.toArray.size=1 then vs.toArray[0] else .tuple vs.toArray) w':=by
    intro vs hv;rw[mJ];simp only[Sem.run_bind,hv,Result.andThen];rfl
   unfold ai at hres;split at hres
   ·rename_i d' hd';simp only[Option.some.injEq] at hres;subst hres;obtain⟨vs,q1,q2,q3⟩:=key _ hd'
    match vs,q2 with
    |[v],_ =>
     refine⟨v,by rw[hresults _ q1];simp,v,rfl,?_,hrel.ext.ext rfl⟩;have:=q3 0 d' rfl;simpa using this
   ·rename_i ds' hne hd';simp only[Option.some.injEq] at hres;subst hres;obtain⟨vs,q1,q2,q3⟩:=key _ hd';have hne1:vs.length≠1:=by
     intro h1;rw[q2] at h1
     match ds',h1 with
     |[d'],_=>exact hne d' rfl
    refine⟨.tuple vs.toArray,by rw[hresults _ q1,dif_neg (by simpa using hne1)],_,rfl,.tup _ _ (by simpa using q2) (fun i e he=>by simpa using q3 i e he),hrel.ext.ext rfl⟩
   ·cases hres
  cases e with
  |normal=>obtain⟨t,ht,-,hres⟩:=hq;exact fin ⟨t,ht,hres⟩
  |ret=>obtain⟨t,ht,-,hres⟩:=hq;exact fin ⟨t,ht,hres⟩
  |exit id=>obtain⟨t,ht,hbad,hres⟩:=hq;exact hbad.elim
  |_=>exact hq.elim
 ·by_cases ht:t<vs.size
  ·have hd:∃d,ds[t]? = some d:=⟨ds[t]'(by omega),by simp⟩
   obtain⟨d',hd⟩:=hd;have hr':(bx ds).r t = .p d':=by simp[bx,hd]
   rw[hr'];have hg:(vs++Array.replicate (fn.ntmps-vs.size) undef).getD t undef=vs.getD t undef:=by
    simp only[Array.getD_eq_getD_getElem?];rw[Array.getElem?_append_left ht]
   simp only[hg];exact .p _ _ ((h4 t d' hd).mono (fun _ _=>rfl) fun b hb=>⟨hb.1,hb.2,by rintro⟨id,o,L,ho,_⟩;simp[bx] at ho⟩)
  ·have hr':(bx ds).r t = .und:=by
    have:ds[t]? = none:=List.getElem?_eq_none (by omega);simp[bx,this]
   rw[hr'];exact .und _
def aA (P:Program) (f:FuncId) (OT:List TypeId) (cc:CC) (rs:List (Nat×Option (Bool×Nat))) (nt:Nat):Prop:=
 ∃fn H,P.funcs[f]? = some fn∧fn.body.isSome=true∧P.follows .mixedOrders=true∧comp P fn.ntmps OT H (fn.body.getD .skip)=some cc∧ck P fn.results.toList=some rs∧fn.ntmps=nt
theorem fk{P:Program}{f:FuncId}{OT:List TypeId}{cc:CC}{rs:List (Nat×Option (Bool×Nat))}{nt:Nat}(fn:Func)(H:List Hint)(a:P.funcs[f]? = some fn)(b:fn.body.isSome=true:=by kernel_rfl)(c:P.follows .mixedOrders=true:=by kernel_rfl)(d:comp P fn.ntmps OT H (fn.body.getD .skip)=some cc:=by kernel_rfl)(e:ck P fn.results.toList=some rs:=by kernel_rfl)(g:fn.ntmps=nt:=by kernel_rfl):aA P f OT cc rs nt:=⟨fn,H,a,b,c,d,e,g⟩
def ae (d:D) (rs:List (Nat×Option (Bool×Nat))):AExit→St→Prop
 |.exit _,_=>False
 |_,s=>ai s rs=some d
theorem aA.conW {P:Program}{A OT:List TypeId}{f:FuncId}{cc:CC}{rs:List (Nat×Option (Bool×Nat))}{nt:Nat}{ds:List D}{d:D} (h:aA P f OT cc rs nt) (hA:OT.all (fun T => !A.contains T)=true) (hn:ds.length≤nt)
  (hcw:cw OT (ConX P A) cc (ae d rs) (bx ds)):Con P (A++dF OT) f ds d:=by
 obtain⟨fn,H,h1,h2,h3,h4,h5,rfl⟩:=h;obtain⟨code,hcode⟩:=Option.isSome_iff_exists.1 h2;rw[hcode] at h4;have hE:ae d rs=fun e s=>(match e with | .exit _=>False | _=>True)∧ai s rs=some d:=by
  funext e s
  cases e<;>simp[ae]
 rw[hE] at hcw;exact ze h1 hcode h3 h4 h5 hA hn hcw
theorem iq {A OT:List TypeId} (hA:OT.all (fun T => !A.contains T&&(decide (T<70000000)||decide (80000000≤T)))=true):OT.all (fun T => !A.contains T)=true∧dF OT=[]:=by
 simp only[List.all_eq_true,Bool.and_eq_true,Bool.or_eq_true,decide_eq_true_eq] at hA;refine⟨List.all_eq_true.2 fun T hT=>(hA T hT).1,?_⟩;unfold dF;rw[List.filterMap_eq_nil_iff];intro T hT;have:=(hA T hT).2;exact if_neg fun h=>by
  rcases this with e | e
  ·exact absurd h.1 (Nat.not_le.2 e)
  ·exact absurd h.2 (Nat.not_lt.2 e)
theorem aA.con {P:Program}{A OT:List TypeId}{f:FuncId}{cc:CC}{rs:List (Nat×Option (Bool×Nat))}{nt:Nat}{ds:List D}{d:D} (h:aA P f OT cc rs nt) (hA:OT.all (fun T => !A.contains T&&(decide (T<70000000)||decide (80000000≤T)))=true) (hn:ds.length≤nt)
  (hcw:cw OT (ConX P A) cc (ae d rs) (bx ds)):Con P A f ds d:=by
 have:=h.conW (iq hA).1 hn hcw
 rwa[(iq hA).2,List.append_nil] at this
end
end Go.Proofs.YtbnhgnhgbhjkcaaGreat.M
