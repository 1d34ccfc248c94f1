/- Lemmas. -/
import Derived.Test.YtdchbabgopglcaaC17
import Derived.ChangeArms
import Derived.OpenShut
set_option linter.unusedVariables false
namespace Go.Proofs.Ytdchbabgopglcaa.Z4
open Go.RowKit
set_option maxRecDepth 100000
set_option maxHeartbeats 1000000
theorem ny {j:Nat} (h:j≤4):(10:Int)^j≤10000:=by
 have h1:(10:Nat)^j≤10^4:=Nat.pow_le_pow_right (by omega) h;have e:(10:Int)^j=((10^j:Nat):Int):=by rw[Int.natCast_pow];rfl
 rw[e];simp only[Nat.reducePow] at h1;omega
theorem nz {A R n V p:Int}{k:Nat} (h:A=R*10^k+n) (hR:k≠4→R=0):A*p+V=R*(p*10000)+(V+n*p):=by
 by_cases e:k=4
 ·subst e;rw[h];grind
 ·rw[hR e] at h ⊢;rw[h];grind
theorem zread_any (t:List UInt8) (w:World) (hs:t.length≤4294967296) (hd:∀j,j<(body t).length→48≤byt (body t) j∧byt (body t) j≤57) (hsm:Sm (dz t)) :
  Calls Try.prog 39 #[.string (bs t)] w (RetZ w (dz t)):=by
 obtain⟨q,hq⟩:∃q,q=body t:=⟨_,rfl⟩
 have hql:q.length≤t.length:=by rw[hq,fL];omega
 rw[←hq] at hd;replace hd:=hd_ hd;replace hsm:=hd_ hsm;have HV:Hd (dz t=sg (aH t) (aG q)):=hd_ (by rw[hq];rfl);cases hn:aH t
 ·rw[gV hn] at hq;subst hq;rw[hn] at HV;by_cases hl:0<q.length
  ·have hb:=kU hn hl;clear hn;go_enter Try.func39,Try.ntmps39;go_wp2;go_loopw [4,5] (fun ov i wr => ∃(m:Nat) (iv:Int) (so:SV) (o:List Int),ov = .slice so.a so.len so.cap∧i = .int .i64 iv∧iv+4*m=q.length∧-4≤iv∧Rw wr (w.heap.size+1) .i64 so o∧o.length=m∧Dig o ∧
     aG q=aG (q.take iv.toNat)*10000^m+valL o∧Ext (w.alloc (Obj.cells #[Value.bool false,Value.slice none 0 0] 68)) wr) (fun _ i _=>(intOf i+4).toNat)
   case atStart=>exact⟨0,q.length,⟨none,0,0⟩,[],rfl,rfl,by omega,by omega,Rw.nil_ _ _ _,rfl,(fun x hx=>by cases hx),by simp[valL],(Ext.rf _)⟩
   case round =>
    obtain⟨m,iv,so,o,rfl,rfl,him,hiv,hown,hol,hdo,hval,hx⟩:=hrel;have hsl:=hown.len;obtain⟨oa,on,oc⟩:=so;simp only at hsl;subst hsl;have holb:o.length≤q.length+4:=by omega
    replace hol:=hd_ hol;replace hval:=hd_ hval;replace him:=hd_ him;by_cases hi:0<iv
    ·obtain⟨ii,rfl⟩:=Int.eq_ofNat_of_zero_le (Int.le_of_lt hi);have hii:0<ii:=by omega
     have hiq:ii≤q.length:=by have:=him.out;omega
     go_wp2;go_loop [6,7] (fun n j => ∃(nv jv:Int),n = .int .i64 nv∧j = .int .i64 jv∧(ii:Int)-4≤jv∧jv≤ii∧0≤nv∧nv<10^(jv.toNat-(ii-4))∧aG (q.take jv.toNat)=aG (q.take (ii-4))*10^(jv.toNat-(ii-4))+nv) (fun _ j=>(ii-intOf j).toNat)
     case atStart=>exact⟨0,(ii:Int)-4,rfl,rfl,by omega,by omega,by omega,by rw[show ((ii:Int)-4).toNat-(ii-4)=0 by omega];simp,by rw[show ((ii:Int)-4).toNat=ii-4 by omega];simp⟩
     case round =>
      obtain⟨nv,jv,rfl,rfl,hj1,hj2,hn1,hn2,hnv⟩:=hrel;have hn9:=(jI (j:=jv.toNat-(ii-4)) (by omega)).2;have hn9':nv<1000000000:=by omega
      replace hn2:=hd_ hn2;replace hnv:=hd_ hnv;clear hn9;by_cases hj:jv<ii
      ·by_cases hj0:0≤jv
       ·obtain⟨jj,rfl⟩:=Int.eq_ofNat_of_zero_le hj0;have hjq:jj<q.length:=by omega
        have hdj:=hd.out jj hjq;go_wp2;go_round
        case rel =>
         refine⟨_,(jj:Int)+1,rfl,by go_num,by omega,by omega,by omega,?_,?_⟩
         ·have h2:=hn2.out;rw[show ((jj:Int)+1).toNat-(ii-4)=(jj-(ii-4))+1 by omega,Int.pow_succ];rw[show (jj:Int).toNat-(ii-4)=jj-(ii-4) by omega] at h2;generalize (10:Int)^(jj-(ii-4))=p at *;omega
         ·have h2:=hnv.out;rw[show ((jj:Int)+1).toNat=jj+1 by omega,jH hjq,show jj+1-(ii-4)=(jj-(ii-4))+1 by omega,Int.pow_succ];rw[show (jj:Int).toNat=jj by omega] at h2;rw[h2];grind
        case measure=>first | (simp[intOf];done) | (simp[intOf];omega)
       ·have hz:Hd (jv.toNat-(ii-4)=(jv+1).toNat-(ii-4)∧jv.toNat=(jv+1).toNat):=hd_ (by omega);go_wp2;go_round
        case rel=>exact⟨nv,jv+1,rfl,by go_num,by omega,by omega,hn1,by rw[←hz.out.1];exact hn2.out,by rw[←hz.out.1,←hz.out.2];exact hnv.out⟩
        case measure=>first | (simp[intOf];done) | (simp[intOf];omega)
      ·obtain rfl:jv=ii:=by omega
       have hn4:nv≤9999:=by
        have h1:=hn2.out;have h2:=ny (j:=(ii:Int).toNat-(ii-4)) (by omega);omega
       go_wp2_with ((refine dO _ rfl _ _ 30 rfl .i64 8 Try.underlying30 ou (w.alloc (Obj.cells #[Value.bool false,Value.slice none 0 0] 68)) ⟨oa,o.length,oc⟩ o _ rfl rfl (by simpa using hown) hx (by omega) (by omega) ?_);intro s5 w5 hrw5 hx5 hk5;rw[World.size_alloc] at hrw5);go_roundw
       case rel =>
        refine⟨m+1,(ii:Int)-4,s5,o++[nv],rfl,rfl,by have:=him.out;omega,by omega,hrw5,by simp[hol.out],hdo.snoc (by omega),?_,hx5⟩;have h1:=hval.out;have h2:=hnv.out;rw[valL_snoc,hol.out,Int.pow_succ,h1,show ((ii:Int)-4).toNat=ii-4 by omega];refine nz h2 (fun hk => ?_);rw[show ii-4=0 by omega];rfl
       case measure=>first | (simp[intOf];done) | (simp[intOf];omega)
    ·have hv:Hd (valL o=aG q):=hd_ (by have:=hval.out;rw[show iv.toNat=0 by omega] at this;simp[aG] at this ⊢;omega);clear him;go_wp2_with fail;refine (made_any _ ⟨oa,o.length,oc⟩ o _ (hown.isL hdo.fit) hdo (by rw[hv.out,←HV.out];exact hsm.out)).mono ?_;rintro e w2 ⟨y,rfl,hy,hx2⟩;rw[hv.out,←HV.out] at hy;have k0:w2.cell? ⟨w.heap.size,0,none⟩=some (Value.bool false):=cell_later hx2 (cell_later hx (by simp));have k1:w2.cell? ⟨w.heap.size,1,none⟩=some (Value.slice none 0 0):=cell_later hx2 (cell_later hx (by simp));have hsz:=hx.size;have hsz2:=hx2.size;simp only[World.size_alloc] at hsz;have f0:∀i,w2.frozen? ⟨w.heap.size,i,none⟩=false:=fun i=>(hx2.frozen (p:=⟨w.heap.size,i,none⟩) (by show w.heap.size<_;omega)).trans ((hx.frozen (p:=⟨w.heap.size,i,none⟩) (by simp)).trans (by simp))
     go_wp2;refine bodyPost_ret (v:=.agg #[.bool y.n,.slice y.s.a y.s.len y.s.cap]) (by simp[results,Try.results39,go_sem,k0,k1]) rfl ⟨y,rfl,?_,?_⟩
     ·exact hy.kept ((aZ.rf _ _).st2 (T':=68) (((Ty.new' rfl).keep hx).keep hx2) (by decide) _ _)
     ·exact ((((Ext.rf w).al _).tr hx).tr hx2).st2 (Nat.le_refl _) _ _
  ·clear hn;go_enter Try.func39,Try.ntmps39;go_wp2;go_loopw [4,5] (fun ov i wr => ∃(m:Nat) (iv:Int) (so:SV) (o:List Int),ov = .slice so.a so.len so.cap∧i = .int .i64 iv∧iv=0∧Rw wr (w.heap.size+1) .i64 so o∧o.length=m∧Dig o ∧
     aG q=aG (q.take iv.toNat)*10000^m+valL o∧Ext (w.alloc (Obj.cells #[Value.bool false,Value.slice none 0 0] 68)) wr) (fun _ i _=>(intOf i+4).toNat)
   case atStart=>exact⟨0,q.length,⟨none,0,0⟩,[],rfl,rfl,by omega,Rw.nil_ _ _ _,rfl,(fun x hx=>by cases hx),by simp[valL],(Ext.rf _)⟩
   case round =>
    obtain⟨m,iv,so,o,rfl,rfl,hiv,hown,hol,hdo,hval,hx⟩:=hrel;have hsl:=hown.len;obtain⟨oa,on,oc⟩:=so;simp only at hsl;subst hsl;replace hol:=hd_ hol;replace hval:=hd_ hval;have him:=hd_ hiv;have hi:¬ 0<iv:=by omega
    clear hiv;have hv:Hd (valL o=aG q):=hd_ (by have:=hval.out;rw[show iv.toNat=0 by omega] at this;simp[aG] at this ⊢;omega);clear him;go_wp2_with fail;refine (made_any _ ⟨oa,o.length,oc⟩ o _ (hown.isL hdo.fit) hdo (by rw[hv.out,←HV.out];exact hsm.out)).mono ?_;rintro e w2 ⟨y,rfl,hy,hx2⟩;rw[hv.out,←HV.out] at hy;have k0:w2.cell? ⟨w.heap.size,0,none⟩=some (Value.bool false):=cell_later hx2 (cell_later hx (by simp));have k1:w2.cell? ⟨w.heap.size,1,none⟩=some (Value.slice none 0 0):=cell_later hx2 (cell_later hx (by simp));have hsz:=hx.size;have hsz2:=hx2.size;simp only[World.size_alloc] at hsz;have f0:∀i,w2.frozen? ⟨w.heap.size,i,none⟩=false:=fun i=>(hx2.frozen (p:=⟨w.heap.size,i,none⟩) (by show w.heap.size<_;omega)).trans ((hx.frozen (p:=⟨w.heap.size,i,none⟩) (by simp)).trans (by simp))
    go_wp2;refine bodyPost_ret (v:=.agg #[.bool y.n,.slice y.s.a y.s.len y.s.cap]) (by simp[results,Try.results39,go_sem,k0,k1]) rfl ⟨y,rfl,?_,?_⟩
    ·exact hy.kept ((aZ.rf _ _).st2 (T':=68) (((Ty.new' rfl).keep hx).keep hx2) (by decide) _ _)
    ·exact ((((Ext.rf w).al _).tr hx).tr hx2).st2 (Nat.le_refl _) _ _
 ·obtain⟨hl,hb⟩:=kT hn;rw[iX hn] at hq;have hql2:q.length+1=t.length:=by rw[hq];simp;omega
  have hqe:Hd (t.tail=q):=hd_ hq.symm;have hlq:Hd (((t.length-1:Nat):Int)=q.length):=hd_ (by omega);clear hq;rw[hn] at HV;clear hn;go_enter Try.func39,Try.ntmps39;go_wp2;rw[hqe.out,hlq.out];go_loopw [4,5] (fun ov i wr => ∃(m:Nat) (iv:Int) (so:SV) (o:List Int),ov = .slice so.a so.len so.cap∧i = .int .i64 iv∧iv+4*m=q.length∧-4≤iv∧Rw wr (w.heap.size+1) .i64 so o∧o.length=m∧Dig o ∧
    aG q=aG (q.take iv.toNat)*10000^m+valL o∧Ext (w.alloc (Obj.cells #[Value.bool false,Value.slice none 0 0] 68)) wr) (fun _ i _=>(intOf i+4).toNat)
  case atStart=>exact⟨0,q.length,⟨none,0,0⟩,[],rfl,rfl,by omega,by omega,Rw.nil_ _ _ _,rfl,(fun x hx=>by cases hx),by simp[valL],(Ext.rf _)⟩
  case round =>
   obtain⟨m,iv,so,o,rfl,rfl,him,hiv,hown,hol,hdo,hval,hx⟩:=hrel;have hsl:=hown.len;obtain⟨oa,on,oc⟩:=so;simp only at hsl;subst hsl;have holb:o.length≤q.length+4:=by omega
   replace hol:=hd_ hol;replace hval:=hd_ hval;replace him:=hd_ him;by_cases hi:0<iv
   ·obtain⟨ii,rfl⟩:=Int.eq_ofNat_of_zero_le (Int.le_of_lt hi);have hii:0<ii:=by omega
    have hiq:ii≤q.length:=by have:=him.out;omega
    go_wp2;go_loop [6,7] (fun n j => ∃(nv jv:Int),n = .int .i64 nv∧j = .int .i64 jv∧(ii:Int)-4≤jv∧jv≤ii∧0≤nv∧nv<10^(jv.toNat-(ii-4))∧aG (q.take jv.toNat)=aG (q.take (ii-4))*10^(jv.toNat-(ii-4))+nv) (fun _ j=>(ii-intOf j).toNat)
    case atStart=>exact⟨0,(ii:Int)-4,rfl,rfl,by omega,by omega,by omega,by rw[show ((ii:Int)-4).toNat-(ii-4)=0 by omega];simp,by rw[show ((ii:Int)-4).toNat=ii-4 by omega];simp⟩
    case round =>
     obtain⟨nv,jv,rfl,rfl,hj1,hj2,hn1,hn2,hnv⟩:=hrel;have hn9:=(jI (j:=jv.toNat-(ii-4)) (by omega)).2;have hn9':nv<1000000000:=by omega
     replace hn2:=hd_ hn2;replace hnv:=hd_ hnv;clear hn9;by_cases hj:jv<ii
     ·by_cases hj0:0≤jv
      ·obtain⟨jj,rfl⟩:=Int.eq_ofNat_of_zero_le hj0;have hjq:jj<q.length:=by omega
       have hdj:=hd.out jj hjq;go_wp2;go_round
       case rel =>
        refine⟨_,(jj:Int)+1,rfl,by go_num,by omega,by omega,by omega,?_,?_⟩
        ·have h2:=hn2.out;rw[show ((jj:Int)+1).toNat-(ii-4)=(jj-(ii-4))+1 by omega,Int.pow_succ];rw[show (jj:Int).toNat-(ii-4)=jj-(ii-4) by omega] at h2;generalize (10:Int)^(jj-(ii-4))=p at *;omega
        ·have h2:=hnv.out;rw[show ((jj:Int)+1).toNat=jj+1 by omega,jH hjq,show jj+1-(ii-4)=(jj-(ii-4))+1 by omega,Int.pow_succ];rw[show (jj:Int).toNat=jj by omega] at h2;rw[h2];grind
       case measure=>first | (simp[intOf];done) | (simp[intOf];omega)
      ·have hz:Hd (jv.toNat-(ii-4)=(jv+1).toNat-(ii-4)∧jv.toNat=(jv+1).toNat):=hd_ (by omega);go_wp2;go_round
       case rel=>exact⟨nv,jv+1,rfl,by go_num,by omega,by omega,hn1,by rw[←hz.out.1];exact hn2.out,by rw[←hz.out.1,←hz.out.2];exact hnv.out⟩
       case measure=>first | (simp[intOf];done) | (simp[intOf];omega)
     ·obtain rfl:jv=ii:=by omega
      have hn4:nv≤9999:=by
       have h1:=hn2.out;have h2:=ny (j:=(ii:Int).toNat-(ii-4)) (by omega);omega
      go_wp2_with ((refine dO _ rfl _ _ 30 rfl .i64 8 Try.underlying30 ou (w.alloc (Obj.cells #[Value.bool false,Value.slice none 0 0] 68)) ⟨oa,o.length,oc⟩ o _ rfl rfl (by simpa using hown) hx (by omega) (by omega) ?_);intro s5 w5 hrw5 hx5 hk5;rw[World.size_alloc] at hrw5);go_roundw
      case rel =>
       refine⟨m+1,(ii:Int)-4,s5,o++[nv],rfl,rfl,by have:=him.out;omega,by omega,hrw5,by simp[hol.out],hdo.snoc (by omega),?_,hx5⟩;have h1:=hval.out;have h2:=hnv.out;rw[valL_snoc,hol.out,Int.pow_succ,h1,show ((ii:Int)-4).toNat=ii-4 by omega];refine nz h2 (fun hk => ?_);rw[show ii-4=0 by omega];rfl
      case measure=>first | (simp[intOf];done) | (simp[intOf];omega)
   ·have hv:Hd (valL o=aG q):=hd_ (by have:=hval.out;rw[show iv.toNat=0 by omega] at this;simp[aG] at this ⊢;omega);clear him;go_wp2_with fail;refine (made_any _ ⟨oa,o.length,oc⟩ o _ (hown.isL hdo.fit) hdo (by rw[hv.out,←HV.out];exact hsm.out)).mono ?_;rintro e w2 ⟨y,rfl,hy,hx2⟩;rw[hv.out,←HV.out] at hy;have k0:w2.cell? ⟨w.heap.size,0,none⟩=some (Value.bool false):=cell_later hx2 (cell_later hx (by simp));have k1:w2.cell? ⟨w.heap.size,1,none⟩=some (Value.slice none 0 0):=cell_later hx2 (cell_later hx (by simp));have hsz:=hx.size;have hsz2:=hx2.size;simp only[World.size_alloc] at hsz;have f0:∀i,w2.frozen? ⟨w.heap.size,i,none⟩=false:=fun i=>(hx2.frozen (p:=⟨w.heap.size,i,none⟩) (by show w.heap.size<_;omega)).trans ((hx.frozen (p:=⟨w.heap.size,i,none⟩) (by simp)).trans (by simp))
    go_wp2;refine bodyPost_ret (v:=.agg #[.bool y.n,.slice y.s.a y.s.len y.s.cap]) (by simp[results,Try.results39,go_sem,k0,k1]) rfl ⟨y,rfl,?_,?_⟩
    ·exact hy.kept ((aZ.rf _ _).st2 (T':=68) (((Ty.new' rfl).keep hx).keep hx2) (by decide) _ _)
    ·exact ((((Ext.rf w).al _).tr hx).tr hx2).st2 (Nat.le_refl _) _ _
end Go.Proofs.Ytdchbabgopglcaa.Z4
namespace Go.Proofs.Ytdchbabgopglcaa.M
open Go.RowKit
def dh (P:Program):List ResultVar→Option (List (Nat×Option (Bool×Nat)))
 |[]=>some []
 |.tmp t::l=>(dh P l).map ((t,none)::·)
 |.cell a T::l=>match cP P T with
  |some (ag,sz)=>if ag||sz == 1 then (dh P l).map ((a,some (ag,sz))::·) else none
  |none=>none
def ah (s:St):Nat×Option (Bool×Nat)→Option AV
 |(t,none)=>some (s.r t)
 |(t,some (ag,sz))=>match s.r t with
  |.ptr i 0 0=>match s.m i with
   |some ⟨_,osz,.box v,_⟩=>v.get 0 sz osz ag
   |_=>none
  |_=>none
def ae (s:St):List (Nat×Option (Bool×Nat))→Option (List D)
 |[]=>some []
 |x::l=>match (match ah s x with | some v=>v.toD true s.m 20 | none=>none),ae s l with
  |some d,some ds=>some (d::ds)
  |_,_=>none
def af (s:St) (rs:List (Nat×Option (Bool×Nat))):Option D:=match ae s rs with
 |some [d]=>some d
 |some ds=>some (.tup ds)
 |none=>none
def ce (ds:List D):St:=⟨fun t=>match ds[t]? with
 |some d => .p d
 |none => .und,fun _=>none⟩
section
variable {C:Ctx}{s:St}{a:Act}{w:World}
def ek (tmps:Array Value):ResultVar→Sem Value
 |.tmp t=>pure (tmps.getD t undef)
 |.cell a t=>do loadVar t (← asAddr (tmps.getD a undef))
theorem rh (fn:Func) (tmps:Array Value):results fn tmps=(fn.results.mapM (ek tmps) >>= fun vs=>pure (if h:vs.size=1 then vs[0] else .tuple vs)):=rfl
theorem ri {loc:aU} (h:Rel C.w0 C.base C.nt loc s a w) (x:ResultVar) (l:List ResultVar) (rs:List (Nat×Option (Bool×Nat))) (h1:dh C.P (x::l)=some rs) :
  ∃y rs',rs=y::rs'∧dh C.P l=some rs'∧∀(M':Mem) u,(∀i o,M' i=some o→s.m i=some o)→ah ⟨s.r,M'⟩ y=some u→∃v,(ek a.tmps x).run C.P w = .ok v w∧RV w (NB C.base s.m loc w) loc v u:=by
 cases x with
 |tmp t =>
  simp only[dh,Option.map_eq_some_iff] at h1;obtain⟨rs',h1,rfl⟩:=h1;refine⟨_,rs',rfl,h1,fun M' u hM hu => ?_⟩;simp only[ah,Option.some.injEq] at hu;subst hu;exact⟨_,by simp[ek],h.tmps t⟩
 |cell t T =>
  simp only[dh] at h1;split at h1
  case h_2=>cases h1
  rename_i ag sz hT;split at h1
  case isFalse=>cases h1
  rename_i hs;simp only[Option.map_eq_some_iff] at h1;obtain⟨rs',h1,rfl⟩:=h1;refine⟨_,rs',rfl,h1,fun M' u hM hu => ?_⟩;simp only[ah] at hu;split at hu
  case h_2=>cases hu
  rename_i i hp;split at hu
  case h_2=>cases hu
  rename_i T' osz v frz hm;have hrv:=h.tmps t;rw[hp] at hrv;generalize hq:a.tmps.getD t undef=q at hrv;cases hrv with
  |ptr L _ _ _ hL hn =>
  obtain⟨L',hL',hok⟩:=h.objs i _ (hM _ _ hm);rw[hL] at hL';cases hL';obtain⟨c,fr,k1,k2,k3,-⟩:=hok.at_ hn;obtain⟨m1,m2,m3,m4⟩:=k3;obtain⟨x,hx1,hx2⟩:=pP (P:=C.P) (T':=T) k1 m1 m2 m3 m4 hu (dv hT) (fun e=>by simpa[e] using hs);refine⟨x,?_,hx2⟩;have:(Instr.loadAt T (.pointer (some ⟨L.b,L.o+0,none⟩))).run C.P w=(loadVar T ⟨L.b,L.o+0,none⟩).run C.P w:=by simp[Instr.loadAt,Instr.sureAddr]
  rw[this] at hx1;simp only[Nat.zero_mul,Nat.add_zero] at hq hx1;simp[ek,hq,asAddr,hx1]
theorem mA {loc:aU}{M':Mem} (hM:∀i o,M' i=some o→s.m i=some o) (h0:C.base.L0=none∨M' aQ=none) (h:Rel C.w0 C.base C.nt loc s a w):∀(l:List ResultVar) (rs:List (Nat×Option (Bool×Nat))) (ds:List D),dh C.P l=some rs→ae ⟨s.r,M'⟩ rs=some ds →
  ∃vs:List Value,(l.mapM (ek a.tmps)).run C.P w = .ok vs w∧vs.length=ds.length∧∀(i:Nat) (d:D),ds[i]? = some d→V w (fun b=>b<w.heap.size∧¬ C.base.own b) (vs.getD i undef) d
 |[],rs,ds,h1,h2=>by
  simp only[dh,Option.some.injEq] at h1;subst h1;simp only[ae,Option.some.injEq] at h2;subst h2;exact⟨[],by simp,rfl,fun i d hd=>by simp at hd⟩
 |x::l,rs,ds,h1,h2=>by
  obtain⟨y,rs',rfl,hl,hrun0⟩:=ri h x l rs h1;have hrun:=fun u=>hrun0 M' u hM
  simp only[ae] at h2;split at h2
  case h_2=>cases h2
  rename_i d ds' g1 g2;simp only[Option.some.injEq] at h2;subst h2;split at g1
  case h_2=>cases g1
  rename_i u hu;obtain⟨v,hv1,hv2⟩:=hrun u hu;obtain⟨vs,q1,q2,q3⟩:=mA hM h0 h l rs' ds' hl g2;refine⟨v::vs,by simp[List.mapM_cons,hv1,q1],by simp[q2],fun i e he => ?_⟩
  match i,he with
  |0,he =>
   simp at he;subst he;exact oN (any:=true) (N':=fun b=>b<w.heap.size∧¬ C.base.own b) h hM (fun b hb=>⟨hb.1,hb.2.1⟩) (fun i o L ho' _ hL hn=>⟨h.obj_lt (hM _ _ ho') hL hn,fun hb=>by
    have ho:=hM _ _ ho';obtain⟨L',hL',hok⟩:=h.objs i o ho;rw[hL] at hL';cases hL';obtain⟨c,fr,k1,k2,k3,k4,k5⟩:=hok.at_ hn;cases hf:o.frz with
    |false =>
     have hlo:=h.low _ hb;rcases (k4 hf).1 with hge | ⟨L',hL',hbb⟩
     ·omega
     ·rcases h0 with h0 | h0
      ·rw[h0] at hL';cases hL'
      ·obtain⟨y1,_,y3,o',y4,y5⟩:=h.keepL L' hL';have:=h.inj i aQ o o' L L' ho y4 hf hL y1 hn y3 hbb.symm;subst this;rw[h0] at ho';cases ho'
    |true=>exact (k5 hf).2.1 hb⟩) 20 u v d g1 hv2
  |i+1,he=>simpa using q3 i e (by simpa using he)
theorem RQ {P:Program}{A OT:List TypeId}{f:FuncId}{fn:Func}{code:Code}{H:List Hint}{cc:CC}{rs:List (Nat×Option (Bool×Nat))}{ds:List D}{d:D}
  (hf:P.funcs[f]? = some fn) (hb:fn.body=some code) (hm:P.follows .mixedOrders=true) (hc:bW P fn.ntmps OT H code=some cc) (hr:dh P fn.results.toList=some rs) (hA:OT.all (fun T => !A.contains T)=true) (hn:ds.length≤fn.ntmps)
  (hcw:cw OT (ConX P A) cc (fun e s=>(match e with | .exit _=>False | _=>True)∧af s rs=some d) (ce ds)):Con P (A++dg OT) f ds d:=by
 intro base w vs h1 h2 h3 h4;have hbody:=nZ (C:=⟨P,A,OT,fn.ntmps,w,⟨base,none⟩⟩) ⟨fun b hb c T fr hc hT=>h2 b hb c T fr hc (List.mem_append_left _ hT),fun T hT=>by
  rw[List.all_eq_true] at hA;have:=hA T hT;simpa using this,fun b hb c T fr hc hT=>h2 b hb c T fr hc (List.mem_append_right _ hT)⟩ hm H code cc _ (ce ds) { tmps:=vs++Array.replicate (fn.ntmps-vs.size) undef,defers:=[] } w hc hcw ⟨⟨fun _=>none,ExtL.rf _ w,rfl,by simp;omega,h1,fun _ _=>rfl,fun t => ?_,fun id o ho=>by simp[ce] at ho,fun id _ o _ _ _ ho=>by simp[ce] at ho,dc.none_ rfl _ _⟩,fun id o ho=>by simp[ce] at ho⟩
 ·refine calls_of_wp hf hb (wp_mono hbody ?_);intro e a' w' hq;have fin:(∃t,Is ⟨P,A,OT,fn.ntmps,w,⟨base,none⟩⟩ t a' w'∧af t rs=some d)→a'.defers=[]∧∃v,(results fn a'.tmps).run P w' = .ok v w'∧∃v',Ending.returned v=Ending.returned v'∧V w' (fun b=>b<w'.heap.size∧¬ base b) v' d∧Ext w w':=by
   rintro⟨t,ht,hres⟩;obtain⟨loc,hrel⟩:=ht.1;refine⟨hrel.defers,?_⟩;have key:∀ds',ae t rs=some ds'→∃vs:List Value,(fn.results.mapM (ek a'.tmps)).run P w' = .ok vs.toArray w'∧vs.length=ds'.length∧∀(i:Nat) (d:D),ds'[i]? = some d→V w' (fun b=>b<w'.heap.size∧¬ base b) (vs.getD i undef) d:=by
    intro ds' hds;obtain⟨vs,q1,q2,q3⟩:=mA (M':=t.m) (fun _ _ h=>h) (.inl rfl) hrel _ _ _ hr hds;refine⟨vs,?_,q2,q3⟩;rw[Array.mapM_eq_mapM_toList];simp only at q1;simp[q1]
   have hresults:∀vs:List Value,(fn.results.mapM (ek a'.tmps)).run P w' = .ok vs.toArray w'→(results fn a'.tmps).run P w' = .ok (if h:vs.toArray.size=1 then vs.toArray[0] else .tuple vs.toArray) w':=by
    intro vs hv;rw[rh];simp only[Sem.run_bind,hv,Result.andThen];rfl
   unfold af at hres;split at hres
   ·rename_i d' hd';simp only[Option.some.injEq] at hres;subst hres;obtain⟨vs,q1,q2,q3⟩:=key _ hd'
    match vs,q2 with
    |[v],_ =>
     refine⟨v,by rw[hresults _ q1];simp,v,rfl,?_,hrel.ext.ext rfl⟩;have:=q3 0 d' rfl;simpa using this
   ·rename_i ds' hne hd';simp only[Option.some.injEq] at hres;subst hres;obtain⟨vs,q1,q2,q3⟩:=key _ hd';have hne1:vs.length≠1:=by
     intro h1;rw[q2] at h1
     match ds',h1 with
     |[d'],_=>exact hne d' rfl
    refine⟨.tuple vs.toArray,by rw[hresults _ q1,dif_neg (by simpa using hne1)],_,rfl,.tup _ _ (by simpa using q2) (fun i e he=>by simpa using q3 i e he),hrel.ext.ext rfl⟩
   ·cases hres
  cases e with
  |normal=>obtain⟨t,ht,-,hres⟩:=hq;exact fin ⟨t,ht,hres⟩
  |ret=>obtain⟨t,ht,-,hres⟩:=hq;exact fin ⟨t,ht,hres⟩
  |exit id=>obtain⟨t,ht,hbad,hres⟩:=hq;exact hbad.elim
  |_=>exact hq.elim
 ·by_cases ht:t<vs.size
  ·have hd:∃d,ds[t]? = some d:=⟨ds[t]'(by omega),by simp⟩
   obtain⟨d',hd⟩:=hd;have hr':(ce ds).r t = .p d':=by simp[ce,hd]
   rw[hr'];have hg:(vs++Array.replicate (fn.ntmps-vs.size) undef).getD t undef=vs.getD t undef:=by
    simp only[Array.getD_eq_getD_getElem?];rw[Array.getElem?_append_left ht]
   simp only[hg];exact .p _ _ ((h4 t d' hd).mono (fun _ _=>rfl) fun b hb=>⟨hb.1,hb.2,by rintro⟨id,o,L,ho,_⟩;simp[ce] at ho⟩)
  ·have hr':(ce ds).r t = .und:=by
    have:ds[t]? = none:=List.getElem?_eq_none (by omega);simp[ce,this]
   rw[hr'];exact .und _
def aI (P:Program) (f:FuncId) (OT:List TypeId) (cc:CC) (rs:List (Nat×Option (Bool×Nat))) (nt:Nat):Prop:=
 ∃fn H,P.funcs[f]? = some fn∧fn.body.isSome=true∧P.follows .mixedOrders=true∧bW P fn.ntmps OT H (fn.body.getD .skip)=some cc∧dh P fn.results.toList=some rs∧fn.ntmps=nt
theorem fk{P:Program}{f:FuncId}{OT:List TypeId}{cc:CC}{rs:List (Nat×Option (Bool×Nat))}{nt:Nat}(fn:Func)(H:List Hint)(a:P.funcs[f]? = some fn)(b:fn.body.isSome=true:=by kernel_rfl)(c:P.follows .mixedOrders=true:=by kernel_rfl)(d:bW P fn.ntmps OT H (fn.body.getD .skip)=some cc:=by kernel_rfl)(e:dh P fn.results.toList=some rs:=by kernel_rfl)(g:fn.ntmps=nt:=by kernel_rfl):aI P f OT cc rs nt:=⟨fn,H,a,b,c,d,e,g⟩
def ac (d:D) (rs:List (Nat×Option (Bool×Nat))):AExit→St→Prop
 |.exit _,_=>False
 |_,s=>af s rs=some d
theorem aI.conW {P:Program}{A OT:List TypeId}{f:FuncId}{cc:CC}{rs:List (Nat×Option (Bool×Nat))}{nt:Nat}{ds:List D}{d:D} (h:aI P f OT cc rs nt) (hA:OT.all (fun T => !A.contains T)=true) (hn:ds.length≤nt)
  (hcw:cw OT (ConX P A) cc (ac d rs) (ce ds)):Con P (A++dg OT) f ds d:=by
 obtain⟨fn,H,h1,h2,h3,h4,h5,rfl⟩:=h;obtain⟨code,hcode⟩:=Option.isSome_iff_exists.1 h2;rw[hcode] at h4;have hE:ac d rs=fun e s=>(match e with | .exit _=>False | _=>True)∧af s rs=some d:=by
  funext e s
  cases e<;>simp[ac]
 rw[hE] at hcw;exact RQ h1 hcode h3 h4 h5 hA hn hcw
theorem kr {A OT:List TypeId} (hA:OT.all (fun T => !A.contains T&&(decide (T<70000000)||decide (80000000≤T)))=true):OT.all (fun T => !A.contains T)=true∧dg OT=[]:=by
 simp only[List.all_eq_true,Bool.and_eq_true,Bool.or_eq_true,decide_eq_true_eq] at hA;refine⟨List.all_eq_true.2 fun T hT=>(hA T hT).1,?_⟩;unfold dg;rw[List.filterMap_eq_nil_iff];intro T hT;have:=(hA T hT).2;exact if_neg fun h=>by
  rcases this with e | e
  ·exact absurd h.1 (Nat.not_le.2 e)
  ·exact absurd h.2 (Nat.not_lt.2 e)
theorem aI.con {P:Program}{A OT:List TypeId}{f:FuncId}{cc:CC}{rs:List (Nat×Option (Bool×Nat))}{nt:Nat}{ds:List D}{d:D} (h:aI P f OT cc rs nt) (hA:OT.all (fun T => !A.contains T&&(decide (T<70000000)||decide (80000000≤T)))=true) (hn:ds.length≤nt)
  (hcw:cw OT (ConX P A) cc (ac d rs) (ce ds)):Con P A f ds d:=by
 have:=h.conW (kr hA).1 hn hcw
 rwa[(kr hA).2,List.append_nil] at this
end
def av:List (Nat×AV)→Nat→AV
 |[],_ => .und
 |(i,v)::l,t=>if t=i then v else av l t
def az:List (Nat×AObj)→Mem
 |[],_=>none
 |(i,v)::l,t=>if t=i then some v else az l t
def eL (t:Nat) (v:AV):List (Nat×AV)→List (Nat×AV)
 |[]=>[(t,v)]
 |(i,u)::l=>if i=t then (t,v)::l else (i,u)::eL t v l
def di (t:Nat) (v:AObj):List (Nat×AObj)→List (Nat×AObj)
 |[]=>[(t,v)]
 |(i,u)::l=>if i=t then (t,v)::l else (i,u)::di t v l
def sel (r:Nat→AV):List Nat→List (Nat×AV)
 |[]=>[]
 |t::l=>(t,r t)::sel r l
theorem fF (t:Nat):av [] t = .und:=rfl
theorem dw (i:Nat) (v:AV) (l:List (Nat×AV)) (t:Nat):av ((i,v)::l) t=if t=i then v else av l t:=rfl
theorem jb (t:Nat):az [] t=none:=rfl
theorem en (i:Nat) (v:AObj) (l:List (Nat×AObj)) (t:Nat):az ((i,v)::l) t=if t=i then some v else az l t:=rfl
theorem mU (t:Nat) (v:AV):eL t v []=[(t,v)]:=rfl
theorem mV (t:Nat) (v:AV) (i:Nat) (u:AV) (l:List (Nat×AV)):eL t v ((i,u)::l)=if i=t then (t,v)::l else (i,u)::eL t v l:=rfl
theorem mW (t:Nat) (v:AObj):di t v []=[(t,v)]:=rfl
theorem mX (t:Nat) (v:AObj) (i:Nat) (u:AObj) (l:List (Nat×AObj)):di t v ((i,u)::l)=if i=t then (t,v)::l else (i,u)::di t v l:=rfl
theorem rL (r:Nat→AV):sel r []=[]:=rfl
theorem mY (r:Nat→AV) (t:Nat) (l:List Nat):sel r (t::l)=(t,r t)::sel r l:=rfl
theorem jc (t:Nat) (v:AV):∀(l:List (Nat×AV)),upd (av l) t v=av (eL t v l)
 |[]=>by funext j;simp only[upd,mU,dw,fF]
 |(i,u)::l=>by
  funext j
  have ih:=congrFun (jc t v l) j;simp only[upd] at ih;simp only[upd,mV,dw];by_cases hit:i=t
  ·subst hit;rw[if_pos rfl,dw];split
   ·rfl
   ·rfl
  ·rw[if_neg hit,dw,←ih];by_cases hj:j=t
   ·subst hj;rw[if_pos rfl,if_neg (fun e=>hit e.symm),if_pos rfl]
   ·rw[if_neg hj,if_neg hj]
theorem eM (t:Nat) (v:AObj):∀(l:List (Nat×AObj)),upd (az l) t (some v)=az (di t v l)
 |[]=>by funext j;simp only[upd,mW,en,jb]
 |(i,u)::l=>by
  funext j
  have ih:=congrFun (eM t v l) j;simp only[upd] at ih;simp only[upd,mX,en];by_cases hit:i=t
  ·subst hit;rw[if_pos rfl,en];split
   ·rfl
   ·rfl
  ·rw[if_neg hit,en,←ih];by_cases hj:j=t
   ·subst hj;rw[if_pos rfl,if_neg (fun e=>hit e.symm),if_pos rfl]
   ·rw[if_neg hj,if_neg hj]
theorem jd {r:Nat→AV}:∀(ts:List Nat) (t:Nat),av (sel r ts) t = .und∨av (sel r ts) t=r t
 |[],_ => .inl rfl
 |i::ts,t=>by
  rw[mY,dw];split
  ·rename_i e;subst e;exact .inr rfl
  ·exact jd ts t
section
variable {s t:St}{r:Nat→AV}{m:Mem}{OT:List TypeId}
theorem Sub.und {r':Nat→AV} (h:∀t,r' t = .und∨r' t=r t):Sub OT ⟨r,m⟩ ⟨r',m⟩:=by
 rintro C a w-⟨⟨loc,hr⟩,h2⟩;refine⟨⟨loc,hr.ext,hr.defers,hr.size,hr.low,hr.dom,fun t => ?_,hr.objs,hr.inj,hr.keepL⟩,h2⟩;rcases h t with e | e<;>simp only[e]
 ·exact .und _
 ·exact hr.tmps t
theorem Sub.nil {T sz:Nat} (i id:Nat) (hi:r i = .nils T sz) (hm:m id=none) (hT:T∈OT):Sub OT ⟨r,m⟩ ⟨upd r i (.slice id 0 0),upd m id (some ⟨T,sz,.row [],false⟩)⟩:=by
 rintro C a w rfl ⟨⟨loc,hr⟩,h2⟩;have h':=hr.allocNil hm T sz;refine⟨⟨_,h'.ext,h'.defers,h'.size,h'.low,h'.dom,fun t => ?_,h'.objs,h'.inj,h'.keepL⟩,fun j o ho => ?_⟩
 ·by_cases e:t=i
  ·subst e;have hv:RV w (NB C.base m loc w) loc (a.tmps.getD t undef) (r t):=hr.tmps t;rw[hi] at hv;simp only[aD];generalize a.tmps.getD t undef=v at hv;cases hv with
   |nils=>exact .sliceEmp _ id 0 none (aD _ _ _)
  ·simp only[aA _ _ e];exact h'.tmps t
 ·by_cases e:j=id
  ·subst e;simp only[aD,Option.some.injEq] at ho;subst ho;exact hT
  ·simp only[aA _ _ e] at ho;exact h2 j o ho
theorem keep (ts:List Nat){R:St→Prop} (h:R ⟨av (sel r ts),m⟩):∃u,Sub OT ⟨r,m⟩ u∧R u:=⟨_,Sub.und (jd ts),h⟩
theorem bh (a:D):ce [a]=⟨av [(0,.p a)],az []⟩:=by
 unfold ce;congr 1;funext t
 match t with
 |0=>rfl
 |t+1=>simp[dw,fF]
theorem aw (a b:D):ce [a,b]=⟨av [(0,.p a),(1,.p b)],az []⟩:=by
 unfold ce;congr 1;funext t
 match t with
 |0 | 1=>rfl
 |t+2=>simp[dw,fF]
theorem dj (a b c:D):ce [a,b,c]=⟨av [(0,.p a),(1,.p b),(2,.p c)],az []⟩:=by
 unfold ce;congr 1;funext t
 match t with
 |0 | 1 | 2=>rfl
 |t+3=>simp[dw,fF]
theorem rM (b:Bool):D.cells (.bool b)=[.bool b]:=rfl
theorem rN (b:Bool):D.one (.bool b)=true:=rfl
theorem rO (b:Bool):D.isAgg (.bool b)=false:=rfl
theorem rP (k:IntKind) (n:Int):D.cells (.int k n)=[.int k n]:=rfl
theorem rQ (k:IntKind) (n:Int):D.one (.int k n)=true:=rfl
theorem rR (k:IntKind) (n:Int):D.isAgg (.int k n)=false:=rfl
theorem rS (s:List UInt8):D.cells (.str s)=[.str s]:=rfl
theorem rT (s:List UInt8):D.one (.str s)=true:=rfl
theorem rU (s:List UInt8):D.isAgg (.str s)=false:=rfl
theorem rV (T:TypeId) (sz:Nat) (l:List D):D.cells (.list T sz l)=[.list T sz l]:=rfl
theorem rW (T:TypeId) (sz:Nat) (l:List D):D.one (.list T sz l)=true:=rfl
theorem rX (T:TypeId) (sz:Nat) (l:List D):D.isAgg (.list T sz l)=false:=rfl
theorem rY :D.cells .nilp=[.nilp]:=rfl
theorem rZ :D.one .nilp=true:=rfl
theorem r4 :D.isAgg .nilp=false:=rfl
theorem r5 (d:D):D.cells (.ref d)=[.ref d]:=rfl
theorem r6 (d:D):D.one (.ref d)=true:=rfl
theorem r7 (d:D):D.isAgg (.ref d)=false:=rfl
theorem r8 (f:Fn) (x y:List D):D.cells (.fn f x y)=[.fn f x y]:=rfl
theorem r9 (f:Fn) (x y:List D):D.one (.fn f x y)=true:=rfl
theorem sd (f:Fn) (x y:List D):D.isAgg (.fn f x y)=false:=rfl
theorem se (l:List D):D.cells (.agg l)=l:=rfl
theorem sf (l:List D):D.one (.agg l)=false:=rfl
theorem si (l:List D):D.isAgg (.agg l)=true:=rfl
theorem sj (d:D):AV.cells (.p d)=d.cells.map AV.p:=rfl
theorem sk (d:D):AV.one (.p d)=d.one:=rfl
theorem sq (d:D):AV.isAgg (.p d)=some d.isAgg:=rfl
theorem ss (l:List AV):AV.cells (.agg l)=l:=rfl
theorem su (l:List AV):AV.isAgg (.agg l)=some true:=rfl
theorem sw (l:List AV):AV.one (.agg l)=false:=rfl
theorem sy (i o n:Nat):AV.cells (.slice i o n)=[.slice i o n]:=rfl
theorem sA (i o n:Nat):AV.one (.slice i o n)=true:=rfl
theorem sB (i o n:Nat):AV.isAgg (.slice i o n)=some false:=rfl
theorem sC (i j o:Nat):AV.cells (.ptr i j o)=[.ptr i j o]:=rfl
theorem sD (i j o:Nat):AV.one (.ptr i j o)=true:=rfl
theorem sE (i j o:Nat):AV.isAgg (.ptr i j o)=some false:=rfl
theorem sF (T:TypeId) (sz:Nat):AV.cells (.nils T sz)=[.nils T sz]:=rfl
theorem sG (T:TypeId) (sz:Nat):AV.one (.nils T sz)=true:=rfl
theorem sH (T:TypeId) (sz:Nat):AV.isAgg (.nils T sz)=some false:=rfl
theorem mZ:ce []=⟨av [],az []⟩:=rfl
theorem kB (G:FuncId→List D→D→Prop) (K:St→Prop):∀(l l':List COp) (s:St),bl G (l++l') K s=bl G l (bl G l' K) s
 |[],_,_=>rfl
 |c::l,l',s=>by
  have:(fun t=>bl G (l++l') K t)=bl G l (bl G l' K):=funext fun t=>kB G K l l' t
  show bF G c (fun t=>bl G (l++l') K t) s=bF G c (bl G l (bl G l' K)) s
  rw[this]
theorem fG {OT:List TypeId}{G:FuncId→List D→D→Prop}:∀{cc:CC}{Q Q':AExit→St→Prop}{s:St},(∀e t,Q e t→Q' e t)→cw OT G cc Q s→cw OT G cc Q' s
 |.skip,_,_,_,h,k=>h _ _ k
 |.ops _ l,_,_,_,h,k=>⟨k.1,rt l _ k.2 fun _ ht=>h _ _ ht⟩
 |.seq a b,Q,Q',s,h,k=>by
  refine fG (cc:=a) (fun e t ht => ?_) k;cases e with
  |normal=>obtain⟨u,h1,h2⟩:=ht;exact⟨u,h1,fG h h2⟩
  |exit id=>exact h _ _ ht
  |ret=>exact h _ _ ht
 |.cond x a b,Q,Q',s,h,k=>by
  simp only[cw] at k ⊢;split at k
  ·exact⟨fun e=>fG h (k.1 e),fun e=>fG h (k.2 e)⟩
  ·exact k.elim
 |.block id a,Q,Q',s,h,k=>by
  refine fG (cc:=a) (fun e t ht => ?_) k;cases e with
  |normal=>exact h _ _ ht
  |exit j =>
   simp only at ht ⊢;split
   ·rw[if_pos ‹_›] at ht;exact h _ _ ht
   ·rw[if_neg ‹_›] at ht;exact h _ _ ht
  |ret=>exact h _ _ ht
 |.loop a,Q,Q',s,h,k=>fun R hR=>k R fun t ht=>hR t (fG (fun e u hu=>by
  cases e with
  |normal=>exact hu
  |exit id=>exact h _ _ hu
  |ret=>exact h _ _ hu) ht)
 |.exit id,_,_,_,h,k=>h _ _ k
 |.ret,_,_,_,h,k=>h _ _ k
 |.stuck,_,_,_,_,k=>k.elim
theorem aY {G:FuncId→List D→D→Prop}{a:CC}{Q:AExit→St→Prop}{s:St}{ι:Type} (p:ι→Prop) (I:ι→St) (μ:ι→Nat) (i0:ι) (h0:p i0) (hs:Sub OT s (I i0))
  (round:∀i,p i→cw OT G a (fun e t=>match e with
   |.normal => ∃j,p j∧Sub OT t (I j)∧μ j<μ i
   |e=>Q e t) (I i)):cw OT G (.loop a) Q s:=fun R hR=>by
 have key:∀n i,μ i=n→p i→R (I i):=by
  intro n;induction n using Nat.strongRecOn with
  |_ n ih =>
   intro i hn hp;refine hR _ (fG ?_ (round i hp));intro e t h;cases e with
   |normal =>
    obtain⟨j,h1,h2,h3⟩:=h;exact⟨_,h2,ih _ (hn ▸ h3) j rfl h1⟩
   |exit id=>exact h
   |ret=>exact h
 exact⟨_,hs,key _ i0 rfl h0⟩
theorem sI (l:List Int) (i:Nat):(l.map (D.int .i64)).getD i default=D.int .i64 (l.getD i 0):=by
 rw[List.getD_eq_getElem?_getD,List.getD_eq_getElem?_getD,List.getElem?_map];cases l[i]?<;>rfl
theorem sJ (l:List Int) (i:Nat) (x:Int):(l.map (D.int .i64)).set i (D.int .i64 x)=(l.set i x).map (D.int .i64):=List.map_set.symm
theorem sK (n:Nat) (x:Int):List.replicate n (D.int .i64 x)=(List.replicate n x).map (D.int .i64):=List.map_replicate.symm
theorem sL (l:List Int) (n:Nat):(l.map (D.int .i64)).take n=(l.take n).map (D.int .i64):=List.map_take.symm
theorem sM (l:List Int) (n:Nat):(l.map (D.int .i64)).drop n=(l.drop n).map (D.int .i64):=List.map_drop.symm
theorem sN (l m:List Int):l.map (D.int .i64)++m.map (D.int .i64)=(l++m).map (D.int .i64):=List.map_append.symm
theorem sO:((0:Nat):Int)=0:=rfl
theorem sP (n:Nat):((n:Int)+1).toNat=n+1:=by omega
theorem sQ (n:Nat):((n+1:Nat):Int)=(n:Int)+1:=rfl
end
def CV (w:World) (N:Nat→Prop) (cs:List Value) (l:List D):Prop:=cs.length=l.length∧(∀d∈l,d.one=true)∧∀i d,l[i]? = some d→V w N (cs.getD i undef) d
def a7 (P:Program) (t:TypeId):Bool:=match P.underlying t with
 |some (.struct _)=>true
 |_=>false
inductive TyC (P:Program):TypeId→List D→Prop where
 |bool (t:TypeId) (b:Bool):P.underlying t=some .bool→TyC P t [.bool b]
 |int (t:TypeId) (k:IntKind) (n:Int):P.underlying t=some (.int k)→(Lit.int k n).wf=true→TyC P t [.int k n]
 |str (t:TypeId) (s:List UInt8):P.underlying t=some .string→s.length≤maxLen→TyC P t [.str s]
 |slice (t e:TypeId) (l:List D):P.underlying t=some (.slice e)→l.length≤maxLen→(∀d∈l,TyC P e d.cells)→(∀d∈l,d.cells.length=P.cellsOf e∧(∀q∈d.cells,q.one=true)∧d.isAgg=a7 P e)→TyC P t [.list (e+1000000) (P.cellsOf e) l]
 |struct (t:TypeId) (fs:Array Field) (l:List D):P.underlying t=some (.struct fs)→l.length=P.cellsOf t→(∀f∈fs.toList,TyC P f.type ((l.drop f.offset).take (P.cellsOf f.type)))→TyC P t l
def fB (P:Program):Nat→List Field→Nat→Bool
 |o,[],e=>o == e
 |o,f::fs,e=>f.offset == o&&fB P (o+P.cellsOf f.type) fs e
theorem rj {P:Program}:∀{fs:List Field}{o e:Nat},fB P o fs e=true→o≤e
 |[],o,e,h=>by simp[fB] at h;omega
 |f::fs,o,e,h=>by
  simp only[fB,Bool.and_eq_true] at h;have:=rj h.2;omega
def ku (P:Program) (S:List TypeId):Bool:=S.all fun t=>decide (0<P.cellsOf t)&&match P.underlying t with
 |some .bool=>true
 |some (.int _)=>true
 |some .string=>true
 |some (.slice e)=>S.contains e
 |some (.struct fs)=>fs.toList.all (fun f=>S.contains f.type)&&fB P 0 fs.toList (P.cellsOf t)
 |_=>false
theorem CV.append {w:World}{N:Nat→Prop}{cs ds:List Value}{l m:List D} (h:CV w N cs l) (k:CV w N ds m):CV w N (cs++ds) (l++m):=by
 refine⟨by simp[h.1,k.1],fun d hd => ?_,fun i d hd => ?_⟩
 ·rcases List.mem_append.1 hd with hd | hd
  ·exact h.2.1 d hd
  ·exact k.2.1 d hd
 ·have hl:=h.1;rcases Nat.lt_or_ge i l.length with hi | hi
  ·rw[List.getElem?_append_left hi] at hd;have:=h.2.2 i d hd;rw[List.getD_eq_getElem?_getD,List.getElem?_append_left (by omega),←List.getD_eq_getElem?_getD];exact this
  ·rw[List.getElem?_append_right hi] at hd;have:=k.2.2 _ d hd;rw[List.getD_eq_getElem?_getD,List.getElem?_append_right (by omega),hl,←List.getD_eq_getElem?_getD];exact this
section
variable {H:Type}{enc:TypeId×Value→H}{P:Program}{w:World}{spare:Nat→Bool}{held:Bool}{N:Nat→Prop}
theorem RT {a:Addr}{n:Nat}{cs:List Value} (h:w.cells? 0 a n=some cs):cs.length=n∧∀i,i<n→w.cell? (a.add i)=some (cs.getD i undef):=by
 unfold World.cells? at h;rw[if_pos (Nat.zero_le _)] at h;have hl:=mapM_some_length h;rw[List.length_range] at hl;refine⟨hl,fun i hi => ?_⟩;have:=mapM_some_get h i i (by simp[hi]);rw[this];simp[show i<cs.length by omega]
theorem RU {a:Addr}{v:Value} (h:w.cell? (a.add 0)=some v):∃b o,a=⟨b,o,none⟩:=by
 obtain⟨b,o,s⟩:=a;cases s with
 |none=>exact⟨b,o,rfl⟩
 |some x =>
  exfalso
  unfold Addr.add World.cell? at h;rw[if_pos rfl] at h;split at h
  ·simp at h
  ·cases h
theorem RW {a:Addr}:(a.add 0)=a:=by unfold Addr.add;rw[if_pos rfl]
theorem rk {b o:Nat}{v:Value} (h:w.cell? ⟨b,o,none⟩=some v):∃c T fr,w.heap[b]? = some (.cells c T fr)∧o<c.size∧c.getD o undef=v:=by
 unfold World.cell? at h;split at h
 ·rename_i c T fr hb;simp only[Option.isSome_none,Bool.false_eq_true,if_false] at h;obtain⟨h1,h2⟩:=Array.getElem?_eq_some_iff.1 h;exact⟨c,T,fr,hb,h1,by simp[h1,h2]⟩
 ·cases h
end
end Go.Proofs.Ytdchbabgopglcaa.M
