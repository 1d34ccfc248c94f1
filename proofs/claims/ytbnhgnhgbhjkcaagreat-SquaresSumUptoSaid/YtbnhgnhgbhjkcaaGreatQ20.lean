/- Lemmas. -/
import Derived.Test.YtbnhgnhgbhjkcaaGreatQ19
import Derived.ChangeArms
import Derived.OpenShut
set_option linter.unusedVariables false
namespace Go.Proofs.YtbnhgnhgbhjkcaaGreat.Z4
set_option linter.unusedSimpArgs false
set_option maxRecDepth 100000
set_option maxHeartbeats 1000000
open Go.RowKit
theorem rV {j:Nat} (h:j≤4):(10:Int)^j≤10000:=by
 have h1:(10:Nat)^j≤10^4:=z9j (by omega) h;have e:(10:Int)^j=((10^j:Nat):Int):=by rw[Int.natCast_pow];rfl
 rw[e];simp only[Nat.reducePow] at h1;omega
theorem rW {A R n V p:Int}{k:Nat} (h:A=R*10^k+n) (hR:k≠4→R=0):A*p+V=R*(p*10000)+(V+n*p):=by
 by_cases e:k=4
 ·subst e;rw[h];grind
 ·rw[hR e] at h ⊢;rw[h];grind
theorem zread_any (t:List UInt8) (w:World) (hs:t.length≤4294967296) (hd:∀j,j<(body t).length→48≤byt (body t) j∧byt (body t) j≤57) (hsm:Sm (el t)) :
  Calls Tryz.prog 65 #[.string (bs t)] w (RetZ w (el t)):=by
 obtain⟨q,hq⟩:∃q,q=body t:=⟨_,rfl⟩
 have hql:q.length≤t.length:=by rw[hq,gW];omega
 rw[←hq] at hd;replace hd:=hd_ hd;replace hsm:=hd_ hsm;have HV:Hd (el t=sg (aK t) (aJ q)):=hd_ (by rw[hq];rfl);cases hn:aK t
 ·rw[iZ hn] at hq;subst hq;rw[hn] at HV;by_cases hl:0<q.length
  ·have hb:=mP hn hl;clear hn;go_enter Tryz.func65,Tryz.ntmps65;go_wp2;go_loopw [4,5] (fun ov i wr => ∃(m:Nat) (iv:Int) (so:SV) (o:List Int),ov = .slice so.a so.len so.cap∧i = .int .i64 iv∧iv+4*m=q.length∧-4≤iv∧Rw wr (w.heap.size+1) .i64 so o∧o.length=m∧Dig o ∧
     aJ q=aJ (q.take iv.toNat)*10000^m+valL o∧Ext (w.alloc (Obj.cells #[Value.bool false,Value.slice none 0 0] 48)) wr) (fun _ i _=>(intOf i+4).toNat)
   case atStart=>exact⟨0,q.length,⟨none,0,0⟩,[],rfl,rfl,by omega,by omega,Rw.nil_ _ _ _,rfl,(fun x hx=>by cases hx),by simp[valL],(Ext.rf _)⟩
   case round =>
    obtain⟨m,iv,so,o,rfl,rfl,him,hiv,hown,hol,hdo,hval,hx⟩:=hrel;have hsl:=hown.len;obtain⟨oa,on,oc⟩:=so;simp only at hsl;subst hsl;have holb:o.length≤q.length+4:=by omega
    replace hol:=hd_ hol;replace hval:=hd_ hval;replace him:=hd_ him;by_cases hi:0<iv
    ·obtain⟨ii,rfl⟩:=z9W (Int.le_of_lt hi);have hii:0<ii:=by omega
     have hiq:ii≤q.length:=by have:=him.out;omega
     go_wp2;go_loop [6,7] (fun n j => ∃(nv jv:Int),n = .int .i64 nv∧j = .int .i64 jv∧(ii:Int)-4≤jv∧jv≤ii∧0≤nv∧nv<10^(jv.toNat-(ii-4))∧aJ (q.take jv.toNat)=aJ (q.take (ii-4))*10^(jv.toNat-(ii-4))+nv) (fun _ j=>(ii-intOf j).toNat)
     case atStart=>exact⟨0,(ii:Int)-4,rfl,rfl,by omega,by omega,by omega,by rw[show ((ii:Int)-4).toNat-(ii-4)=0 by omega];simp,by rw[show ((ii:Int)-4).toNat=ii-4 by omega];simp⟩
     case round =>
      obtain⟨nv,jv,rfl,rfl,hj1,hj2,hn1,hn2,hnv⟩:=hrel;have hn9:=(kO (j:=jv.toNat-(ii-4)) (by omega)).2;have hn9':nv<1000000000:=by omega
      replace hn2:=hd_ hn2;replace hnv:=hd_ hnv;clear hn9;by_cases hj:jv<ii
      ·by_cases hj0:0≤jv
       ·obtain⟨jj,rfl⟩:=z9W hj0;have hjq:jj<q.length:=by omega
        have hdj:=hd.out jj hjq;go_wp2;go_round
        case rel =>
         refine⟨_,(jj:Int)+1,rfl,by go_num,by omega,by omega,by omega,?_,?_⟩
         ·have h2:=hn2.out;rw[show ((jj:Int)+1).toNat-(ii-4)=(jj-(ii-4))+1 by omega,z9H];rw[show (jj:Int).toNat-(ii-4)=jj-(ii-4) by omega] at h2;generalize (10:Int)^(jj-(ii-4))=p at *;omega
         ·have h2:=hnv.out;rw[show ((jj:Int)+1).toNat=jj+1 by omega,kN hjq,show jj+1-(ii-4)=(jj-(ii-4))+1 by omega,z9H];rw[show (jj:Int).toNat=jj by omega] at h2;rw[h2];grind
        case measure=>first | (simp[intOf];done) | (simp[intOf];omega)
       ·have hz:Hd (jv.toNat-(ii-4)=(jv+1).toNat-(ii-4)∧jv.toNat=(jv+1).toNat):=hd_ (by omega);go_wp2;go_round
        case rel=>exact⟨nv,jv+1,rfl,by go_num,by omega,by omega,hn1,by rw[←hz.out.1];exact hn2.out,by rw[←hz.out.1,←hz.out.2];exact hnv.out⟩
        case measure=>first | (simp[intOf];done) | (simp[intOf];omega)
      ·obtain rfl:jv=ii:=by omega
       have hn4:nv≤9999:=by
        have h1:=hn2.out;have h2:=rV (j:=(ii:Int).toNat-(ii-4)) (by omega);omega
       go_wp2_with ((refine eA _ rfl _ _ 46 rfl .i64 8 Tryz.underlying46 qF (w.alloc (Obj.cells #[Value.bool false,Value.slice none 0 0] 48)) ⟨oa,o.length,oc⟩ o _ rfl rfl (by simpa using hown) hx (by omega) (by omega) ?_);intro s5 w5 hrw5 hx5 hk5;rw[World.size_alloc] at hrw5);go_roundw
       case rel =>
        refine⟨m+1,(ii:Int)-4,s5,o++[nv],rfl,rfl,by have:=him.out;omega,by omega,hrw5,by simp[hol.out],hdo.snoc (by omega),?_,hx5⟩;have h1:=hval.out;have h2:=hnv.out;rw[valL_snoc,hol.out,z9H,h1,show ((ii:Int)-4).toNat=ii-4 by omega];refine rW h2 (fun hk => ?_);rw[show ii-4=0 by omega];rfl
       case measure=>first | (simp[intOf];done) | (simp[intOf];omega)
    ·have hv:Hd (valL o=aJ q):=hd_ (by have:=hval.out;rw[show iv.toNat=0 by omega] at this;simp[aJ] at this ⊢;omega);clear him;go_wp2_with fail;refine (made_any _ ⟨oa,o.length,oc⟩ o _ (hown.isL hdo.fit) hdo (by rw[hv.out,←HV.out];exact hsm.out)).mono ?_;rintro e w2 ⟨y,rfl,hy,hx2⟩;rw[hv.out,←HV.out] at hy;have k0:w2.cell? ⟨w.heap.size,0,none⟩=some (Value.bool false):=cell_later hx2 (cell_later hx (by simp));have k1:w2.cell? ⟨w.heap.size,1,none⟩=some (Value.slice none 0 0):=cell_later hx2 (cell_later hx (by simp));have hsz:=hx.size;have hsz2:=hx2.size;simp only[World.size_alloc] at hsz;have f0:∀i,w2.frozen? ⟨w.heap.size,i,none⟩=false:=fun i=>(hx2.frozen (p:=⟨w.heap.size,i,none⟩) (by show w.heap.size<_;omega)).trans ((hx.frozen (p:=⟨w.heap.size,i,none⟩) (by simp)).trans (by simp))
     go_wp2;refine bodyPost_ret (v:=.agg #[.bool y.n,.slice y.s.a y.s.len y.s.cap]) (by simp[results,Tryz.results65,go_sem,k0,k1]) rfl ⟨y,rfl,?_,?_⟩
     ·exact hy.kept ((bn.rf _ _).st2 (T':=48) (((Ty.new' rfl).keep hx).keep hx2) (by decide) _ _)
     ·exact ((((Ext.rf w).al _).tr hx).tr hx2).st2 (z95 _) _ _
  ·clear hn;go_enter Tryz.func65,Tryz.ntmps65;go_wp2;go_loopw [4,5] (fun ov i wr => ∃(m:Nat) (iv:Int) (so:SV) (o:List Int),ov = .slice so.a so.len so.cap∧i = .int .i64 iv∧iv=0∧Rw wr (w.heap.size+1) .i64 so o∧o.length=m∧Dig o ∧
     aJ q=aJ (q.take iv.toNat)*10000^m+valL o∧Ext (w.alloc (Obj.cells #[Value.bool false,Value.slice none 0 0] 48)) wr) (fun _ i _=>(intOf i+4).toNat)
   case atStart=>exact⟨0,q.length,⟨none,0,0⟩,[],rfl,rfl,by omega,Rw.nil_ _ _ _,rfl,(fun x hx=>by cases hx),by simp[valL],(Ext.rf _)⟩
   case round =>
    obtain⟨m,iv,so,o,rfl,rfl,hiv,hown,hol,hdo,hval,hx⟩:=hrel;have hsl:=hown.len;obtain⟨oa,on,oc⟩:=so;simp only at hsl;subst hsl;replace hol:=hd_ hol;replace hval:=hd_ hval;have him:=hd_ hiv;have hi:¬ 0<iv:=by omega
    clear hiv;have hv:Hd (valL o=aJ q):=hd_ (by have:=hval.out;rw[show iv.toNat=0 by omega] at this;simp[aJ] at this ⊢;omega);clear him;go_wp2_with fail;refine (made_any _ ⟨oa,o.length,oc⟩ o _ (hown.isL hdo.fit) hdo (by rw[hv.out,←HV.out];exact hsm.out)).mono ?_;rintro e w2 ⟨y,rfl,hy,hx2⟩;rw[hv.out,←HV.out] at hy;have k0:w2.cell? ⟨w.heap.size,0,none⟩=some (Value.bool false):=cell_later hx2 (cell_later hx (by simp));have k1:w2.cell? ⟨w.heap.size,1,none⟩=some (Value.slice none 0 0):=cell_later hx2 (cell_later hx (by simp));have hsz:=hx.size;have hsz2:=hx2.size;simp only[World.size_alloc] at hsz;have f0:∀i,w2.frozen? ⟨w.heap.size,i,none⟩=false:=fun i=>(hx2.frozen (p:=⟨w.heap.size,i,none⟩) (by show w.heap.size<_;omega)).trans ((hx.frozen (p:=⟨w.heap.size,i,none⟩) (by simp)).trans (by simp))
    go_wp2;refine bodyPost_ret (v:=.agg #[.bool y.n,.slice y.s.a y.s.len y.s.cap]) (by simp[results,Tryz.results65,go_sem,k0,k1]) rfl ⟨y,rfl,?_,?_⟩
    ·exact hy.kept ((bn.rf _ _).st2 (T':=48) (((Ty.new' rfl).keep hx).keep hx2) (by decide) _ _)
    ·exact ((((Ext.rf w).al _).tr hx).tr hx2).st2 (z95 _) _ _
 ·obtain⟨hl,hb⟩:=mO hn;rw[jV hn] at hq;have hql2:q.length+1=t.length:=by rw[hq];simp;omega
  have hqe:Hd (t.tail=q):=hd_ hq.symm;have hlq:Hd (((t.length-1:Nat):Int)=q.length):=hd_ (by omega);clear hq;rw[hn] at HV;clear hn;go_enter Tryz.func65,Tryz.ntmps65;go_wp2;rw[hqe.out,hlq.out];go_loopw [4,5] (fun ov i wr => ∃(m:Nat) (iv:Int) (so:SV) (o:List Int),ov = .slice so.a so.len so.cap∧i = .int .i64 iv∧iv+4*m=q.length∧-4≤iv∧Rw wr (w.heap.size+1) .i64 so o∧o.length=m∧Dig o ∧
    aJ q=aJ (q.take iv.toNat)*10000^m+valL o∧Ext (w.alloc (Obj.cells #[Value.bool false,Value.slice none 0 0] 48)) wr) (fun _ i _=>(intOf i+4).toNat)
  case atStart=>exact⟨0,q.length,⟨none,0,0⟩,[],rfl,rfl,by omega,by omega,Rw.nil_ _ _ _,rfl,(fun x hx=>by cases hx),by simp[valL],(Ext.rf _)⟩
  case round =>
   obtain⟨m,iv,so,o,rfl,rfl,him,hiv,hown,hol,hdo,hval,hx⟩:=hrel;have hsl:=hown.len;obtain⟨oa,on,oc⟩:=so;simp only at hsl;subst hsl;have holb:o.length≤q.length+4:=by omega
   replace hol:=hd_ hol;replace hval:=hd_ hval;replace him:=hd_ him;by_cases hi:0<iv
   ·obtain⟨ii,rfl⟩:=z9W (Int.le_of_lt hi);have hii:0<ii:=by omega
    have hiq:ii≤q.length:=by have:=him.out;omega
    go_wp2;go_loop [6,7] (fun n j => ∃(nv jv:Int),n = .int .i64 nv∧j = .int .i64 jv∧(ii:Int)-4≤jv∧jv≤ii∧0≤nv∧nv<10^(jv.toNat-(ii-4))∧aJ (q.take jv.toNat)=aJ (q.take (ii-4))*10^(jv.toNat-(ii-4))+nv) (fun _ j=>(ii-intOf j).toNat)
    case atStart=>exact⟨0,(ii:Int)-4,rfl,rfl,by omega,by omega,by omega,by rw[show ((ii:Int)-4).toNat-(ii-4)=0 by omega];simp,by rw[show ((ii:Int)-4).toNat=ii-4 by omega];simp⟩
    case round =>
     obtain⟨nv,jv,rfl,rfl,hj1,hj2,hn1,hn2,hnv⟩:=hrel;have hn9:=(kO (j:=jv.toNat-(ii-4)) (by omega)).2;have hn9':nv<1000000000:=by omega
     replace hn2:=hd_ hn2;replace hnv:=hd_ hnv;clear hn9;by_cases hj:jv<ii
     ·by_cases hj0:0≤jv
      ·obtain⟨jj,rfl⟩:=z9W hj0;have hjq:jj<q.length:=by omega
       have hdj:=hd.out jj hjq;go_wp2;go_round
       case rel =>
        refine⟨_,(jj:Int)+1,rfl,by go_num,by omega,by omega,by omega,?_,?_⟩
        ·have h2:=hn2.out;rw[show ((jj:Int)+1).toNat-(ii-4)=(jj-(ii-4))+1 by omega,z9H];rw[show (jj:Int).toNat-(ii-4)=jj-(ii-4) by omega] at h2;generalize (10:Int)^(jj-(ii-4))=p at *;omega
        ·have h2:=hnv.out;rw[show ((jj:Int)+1).toNat=jj+1 by omega,kN hjq,show jj+1-(ii-4)=(jj-(ii-4))+1 by omega,z9H];rw[show (jj:Int).toNat=jj by omega] at h2;rw[h2];grind
       case measure=>first | (simp[intOf];done) | (simp[intOf];omega)
      ·have hz:Hd (jv.toNat-(ii-4)=(jv+1).toNat-(ii-4)∧jv.toNat=(jv+1).toNat):=hd_ (by omega);go_wp2;go_round
       case rel=>exact⟨nv,jv+1,rfl,by go_num,by omega,by omega,hn1,by rw[←hz.out.1];exact hn2.out,by rw[←hz.out.1,←hz.out.2];exact hnv.out⟩
       case measure=>first | (simp[intOf];done) | (simp[intOf];omega)
     ·obtain rfl:jv=ii:=by omega
      have hn4:nv≤9999:=by
       have h1:=hn2.out;have h2:=rV (j:=(ii:Int).toNat-(ii-4)) (by omega);omega
      go_wp2_with ((refine eA _ rfl _ _ 46 rfl .i64 8 Tryz.underlying46 qF (w.alloc (Obj.cells #[Value.bool false,Value.slice none 0 0] 48)) ⟨oa,o.length,oc⟩ o _ rfl rfl (by simpa using hown) hx (by omega) (by omega) ?_);intro s5 w5 hrw5 hx5 hk5;rw[World.size_alloc] at hrw5);go_roundw
      case rel =>
       refine⟨m+1,(ii:Int)-4,s5,o++[nv],rfl,rfl,by have:=him.out;omega,by omega,hrw5,by simp[hol.out],hdo.snoc (by omega),?_,hx5⟩;have h1:=hval.out;have h2:=hnv.out;rw[valL_snoc,hol.out,z9H,h1,show ((ii:Int)-4).toNat=ii-4 by omega];refine rW h2 (fun hk => ?_);rw[show ii-4=0 by omega];rfl
      case measure=>first | (simp[intOf];done) | (simp[intOf];omega)
   ·have hv:Hd (valL o=aJ q):=hd_ (by have:=hval.out;rw[show iv.toNat=0 by omega] at this;simp[aJ] at this ⊢;omega);clear him;go_wp2_with fail;refine (made_any _ ⟨oa,o.length,oc⟩ o _ (hown.isL hdo.fit) hdo (by rw[hv.out,←HV.out];exact hsm.out)).mono ?_;rintro e w2 ⟨y,rfl,hy,hx2⟩;rw[hv.out,←HV.out] at hy;have k0:w2.cell? ⟨w.heap.size,0,none⟩=some (Value.bool false):=cell_later hx2 (cell_later hx (by simp));have k1:w2.cell? ⟨w.heap.size,1,none⟩=some (Value.slice none 0 0):=cell_later hx2 (cell_later hx (by simp));have hsz:=hx.size;have hsz2:=hx2.size;simp only[World.size_alloc] at hsz;have f0:∀i,w2.frozen? ⟨w.heap.size,i,none⟩=false:=fun i=>(hx2.frozen (p:=⟨w.heap.size,i,none⟩) (by show w.heap.size<_;omega)).trans ((hx.frozen (p:=⟨w.heap.size,i,none⟩) (by simp)).trans (by simp))
    go_wp2;refine bodyPost_ret (v:=.agg #[.bool y.n,.slice y.s.a y.s.len y.s.cap]) (by simp[results,Tryz.results65,go_sem,k0,k1]) rfl ⟨y,rfl,?_,?_⟩
    ·exact hy.kept ((bn.rf _ _).st2 (T':=48) (((Ty.new' rfl).keep hx).keep hx2) (by decide) _ _)
    ·exact ((((Ext.rf w).al _).tr hx).tr hx2).st2 (z95 _) _ _
end Go.Proofs.YtbnhgnhgbhjkcaaGreat.Z4
namespace Go.Proofs.YtbnhgnhgbhjkcaaGreat.M
set_option linter.unusedSimpArgs false
open Go.RowKit
def bT (P:Program):List ResultVar→Option (List (Nat×Option (Bool×Nat)))
 |[]=>some []
 |.tmp t::l=>(bT P l).map ((t,none)::·)
 |.cell a T::l=>match df P T with
  |some (ag,sz)=>if ag||sz == 1 then (bT P l).map ((a,some (ag,sz))::·) else none
  |none=>none
def ah (s:St):Nat×Option (Bool×Nat)→Option AV
 |(t,none)=>some (s.r t)
 |(t,some (ag,sz))=>match s.r t with
  |.ptr i 0 0=>match s.m i with
   |some ⟨_,osz,.box v,_⟩=>v.get 0 sz osz ag
   |_=>none
  |_=>none
def aq (s:St):List (Nat×Option (Bool×Nat))→Option (List D)
 |[]=>some []
 |x::l=>match (match ah s x with | some v=>v.toD true s.m 20 | none=>none),aq s l with
  |some d,some ds=>some (d::ds)
  |_,_=>none
def ai (s:St) (rs:List (Nat×Option (Bool×Nat))):Option D:=match aq s rs with
 |some [d]=>some d
 |some ds=>some (.tup ds)
 |none=>none
def bw (ds:List D):St:=⟨fun t=>match ds[t]? with
 |some d => .p d
 |none => .und,fun _=>none⟩
section
variable {C:Ctx}{s:St}{a:Act}{w:World}
def dQ (tmps:Array Value):ResultVar→Sem Value
 |.tmp t=>pure (tmps.getD t undef)
 |.cell a t=>do loadVar t (← asAddr (tmps.getD a undef))
theorem mT (fn:Func) (tmps:Array Value):results fn tmps=(fn.results.mapM (dQ tmps) >>= fun vs=>pure (if h:vs.size=1 then vs[0] else .tuple vs)):=rfl
theorem mU {loc:aX} (h:Rel C.w0 C.base C.nt loc s a w) (x:ResultVar) (l:List ResultVar) (rs:List (Nat×Option (Bool×Nat))) (h1:bT C.P (x::l)=some rs) :
  ∃y rs',rs=y::rs'∧bT C.P l=some rs'∧∀(M':Mem) u,(∀i o,M' i=some o→s.m i=some o)→ah ⟨s.r,M'⟩ y=some u→∃v,(dQ a.tmps x).run C.P w = .ok v w∧RV w (NB C.base s.m loc w) loc v u:=by
 cases x with
 |tmp t =>
  simp only[bT,z94] at h1;obtain⟨rs',h1,rfl⟩:=h1;refine⟨_,rs',rfl,h1,fun M' u hM hu => ?_⟩;simp only[ah,z99] at hu;subst hu;exact⟨_,by simp[dQ],h.tmps t⟩
 |cell t T =>
  simp only[bT] at h1;split at h1
  case h_2=>cases h1
  rename_i ag sz hT;split at h1
  case isFalse=>cases h1
  rename_i hs;simp only[z94] at h1;obtain⟨rs',h1,rfl⟩:=h1;refine⟨_,rs',rfl,h1,fun M' u hM hu => ?_⟩;simp only[ah] at hu;split at hu
  case h_2=>cases hu
  rename_i i hp;split at hu
  case h_2=>cases hu
  rename_i T' osz v frz hm;have hrv:=h.tmps t;rw[hp] at hrv;generalize hq:a.tmps.getD t undef=q at hrv;cases hrv with
  |ptr L _ _ _ hL hn =>
  obtain⟨L',hL',hok⟩:=h.objs i _ (hM _ _ hm);rw[hL] at hL';cases hL';obtain⟨c,fr,k1,k2,k3,-⟩:=hok.at_ hn;obtain⟨m1,m2,m3,m4⟩:=k3;obtain⟨x,hx1,hx2⟩:=qA (P:=C.P) (T':=T) k1 m1 m2 m3 m4 hu (dX hT) (fun e=>by simpa[e] using hs);refine⟨x,?_,hx2⟩;have:(Instr.loadAt T (.pointer (some ⟨L.b,L.o+0,none⟩))).run C.P w=(loadVar T ⟨L.b,L.o+0,none⟩).run C.P w:=by simp[Instr.loadAt,Instr.sureAddr]
  rw[this] at hx1;simp only[Nat.zero_mul,Nat.add_zero] at hq hx1;simp[dQ,hq,asAddr,hx1]
theorem mV {loc:aX}{M':Mem} (hM:∀i o,M' i=some o→s.m i=some o) (h0:C.base.L0=none∨M' aF=none) (h:Rel C.w0 C.base C.nt loc s a w):∀(l:List ResultVar) (rs:List (Nat×Option (Bool×Nat))) (ds:List D),bT C.P l=some rs→aq ⟨s.r,M'⟩ rs=some ds →
  ∃vs:List Value,(l.mapM (dQ a.tmps)).run C.P w = .ok vs w∧vs.length=ds.length∧∀(i:Nat) (d:D),ds[i]? = some d→V w (fun b=>b<w.heap.size∧¬ C.base.own b) (vs.getD i undef) d
 |[],rs,ds,h1,h2=>by
  simp only[bT,z99] at h1;subst h1;simp only[aq,z99] at h2;subst h2;exact⟨[],by simp,rfl,fun i d hd=>by simp at hd⟩
 |x::l,rs,ds,h1,h2=>by
  obtain⟨y,rs',rfl,hl,hrun0⟩:=mU h x l rs h1;have hrun:=fun u=>hrun0 M' u hM
  simp only[aq] at h2;split at h2
  case h_2=>cases h2
  rename_i d ds' g1 g2;simp only[z99] at h2;subst h2;split at g1
  case h_2=>cases g1
  rename_i u hu;obtain⟨v,hv1,hv2⟩:=hrun u hu;obtain⟨vs,q1,q2,q3⟩:=mV hM h0 h l rs' ds' hl g2;refine⟨v::vs,by simp[List.mapM_cons,hv1,q1],by simp[q2],fun i e he => ?_⟩
  match i,he with
  |0,he =>
   simp at he;subst he;exact tq (any:=true) (N':=fun b=>b<w.heap.size∧¬ C.base.own b) h hM (fun b hb=>⟨hb.1,hb.2.1⟩) (fun i o L ho' _ hL hn=>⟨h.obj_lt (hM _ _ ho') hL hn,fun hb=>by
    have ho:=hM _ _ ho';obtain⟨L',hL',hok⟩:=h.objs i o ho;rw[hL] at hL';cases hL';obtain⟨c,fr,k1,k2,k3,k4,k5⟩:=hok.at_ hn;cases hf:o.frz with
    |false =>
     have hlo:=h.low _ hb;rcases (k4 hf).1 with hge | ⟨L',hL',hbb⟩
     ·omega
     ·rcases h0 with h0 | h0
      ·rw[h0] at hL';cases hL'
      ·obtain⟨y1,_,y3,o',y4,y5⟩:=h.keepL L' hL';have:=h.inj i aF o o' L L' ho y4 hf hL y1 hn y3 hbb.symm;subst this;rw[h0] at ho';cases ho'
    |true=>exact (k5 hf).2.1 hb⟩) 20 u v d g1 hv2
  |i+1,he=>simpa using q3 i e (by simpa using he)
theorem C6 {P:Program}{A OT:List TypeId}{f:FuncId}{fn:Func}{code:Code}{H:List Hint}{cc:CC}{rs:List (Nat×Option (Bool×Nat))}{ds:List D}{d:D}
  (hf:P.funcs[f]? = some fn) (hb:fn.body=some code) (hm:P.follows .mixedOrders=true) (hc:ct P fn.ntmps OT H code=some cc) (hr:bT P fn.results.toList=some rs) (hA:OT.all (fun T => !A.contains T)=true) (hn:ds.length≤fn.ntmps)
  (hcw:cw OT (ConX P A) cc (fun e s=>(match e with | .exit _=>False | _=>True)∧ai s rs=some d) (bw ds)):Con P (A++dG OT) f ds d:=by
 intro base w vs h1 h2 h3 h4;have hbody:=nC (C:=⟨P,A,OT,fn.ntmps,w,⟨base,none⟩⟩) ⟨fun b hb c T fr hc hT=>h2 b hb c T fr hc (List.mem_append_left _ hT),fun T hT=>by
  rw[z9C] at hA;have:=hA T hT;simpa using this,fun b hb c T fr hc hT=>h2 b hb c T fr hc (List.mem_append_right _ hT)⟩ hm H code cc _ (bw ds) { tmps:=vs++Array.replicate (fn.ntmps-vs.size) undef,defers:=[] } w hc hcw ⟨⟨fun _=>none,ExtL.rf _ w,rfl,by simp;omega,h1,fun _ _=>rfl,fun t => ?_,fun id o ho=>by simp[bw] at ho,fun id _ o _ _ _ ho=>by simp[bw] at ho,dw.none_ rfl _ _⟩,fun id o ho=>by simp[bw] at ho⟩
 ·refine calls_of_wp hf hb (wp_mono hbody ?_);intro e a' w' hq;have fin:(∃t,Is ⟨P,A,OT,fn.ntmps,w,⟨base,none⟩⟩ t a' w'∧ai t rs=some d)→a'.defers=[]∧∃v,(results fn a'.tmps).run P w' = .ok v w'∧∃v',Ending.returned v=Ending.returned v'∧V w' (fun b=>b<w'.heap.size∧¬ base b) v' d∧Ext w w':=by
   rintro⟨t,ht,hres⟩;obtain⟨loc,hrel⟩:=ht.1;refine⟨hrel.defers,?_⟩;have key:∀ds',aq t rs=some ds'→∃vs:List Value,(fn.results.mapM (dQ a'.tmps)).run P w' = .ok vs.toArray w'∧vs.length=ds'.length∧∀(i:Nat) (d:D),ds'[i]? = some d→V w' (fun b=>b<w'.heap.size∧¬ base b) (vs.getD i undef) d:=by
    intro ds' hds;obtain⟨vs,q1,q2,q3⟩:=mV (M':=t.m) (fun _ _ h=>h) (.inl rfl) hrel _ _ _ hr hds;refine⟨vs,?_,q2,q3⟩;rw[Array.mapM_eq_mapM_toList];simp only at q1;simp[q1]
   have hresults:∀vs:List Value,(fn.results.mapM (dQ a'.tmps)).run P w' = .ok vs.toArray w'→(results fn a'.tmps).run P w' = .ok (if h:vs.toArray.size=1 then vs.toArray[0] else .tuple vs.toArray) w':=by
    intro vs hv;rw[mT];simp only[Sem.run_bind,hv,Result.andThen];rfl
   unfold ai at hres;split at hres
   ·rename_i d' hd';simp only[z99] at hres;subst hres;obtain⟨vs,q1,q2,q3⟩:=key _ hd'
    match vs,q2 with
    |[v],_ =>
     refine⟨v,by rw[hresults _ q1];simp,v,rfl,?_,hrel.ext.ext rfl⟩;have:=q3 0 d' rfl;simpa using this
   ·rename_i ds' hne hd';simp only[z99] at hres;subst hres;obtain⟨vs,q1,q2,q3⟩:=key _ hd';have hne1:vs.length≠1:=by
     intro h1;rw[q2] at h1
     match ds',h1 with
     |[d'],_=>exact hne d' rfl
    refine⟨.tuple vs.toArray,by rw[hresults _ q1,dif_neg (by simpa using hne1)],_,rfl,.tup _ _ (by simpa using q2) (fun i e he=>by simpa using q3 i e he),hrel.ext.ext rfl⟩
   ·cases hres
  cases e with
  |normal=>obtain⟨t,ht,-,hres⟩:=hq;exact fin ⟨t,ht,hres⟩
  |ret=>obtain⟨t,ht,-,hres⟩:=hq;exact fin ⟨t,ht,hres⟩
  |exit id=>obtain⟨t,ht,hbad,hres⟩:=hq;exact hbad.elim
  |_=>exact hq.elim
 ·by_cases ht:t<vs.size
  ·have hd:∃d,ds[t]? = some d:=⟨ds[t]'(by omega),by simp⟩
   obtain⟨d',hd⟩:=hd;have hr':(bw ds).r t = .p d':=by simp[bw,hd]
   rw[hr'];have hg:(vs++Array.replicate (fn.ntmps-vs.size) undef).getD t undef=vs.getD t undef:=by
    simp only[z9Y];rw[z84 ht]
   simp only[hg];exact .p _ _ ((h4 t d' hd).mono (fun _ _=>rfl) fun b hb=>⟨hb.1,hb.2,by rintro⟨id,o,L,ho,_⟩;simp[bw] at ho⟩)
  ·have hr':(bw ds).r t = .und:=by
    have:ds[t]? = none:=z80 (by omega);simp[bw,this]
   rw[hr'];exact .und _
def az (P:Program) (f:FuncId) (OT:List TypeId) (cc:CC) (rs:List (Nat×Option (Bool×Nat))) (nt:Nat):Prop:=
 ∃fn H,P.funcs[f]? = some fn∧fn.body.isSome=true∧P.follows .mixedOrders=true∧ct P fn.ntmps OT H (fn.body.getD .skip)=some cc∧bT P fn.results.toList=some rs∧fn.ntmps=nt
theorem fk{P:Program}{f:FuncId}{OT:List TypeId}{cc:CC}{rs:List (Nat×Option (Bool×Nat))}{nt:Nat}(fn:Func)(H:List Hint)(a:P.funcs[f]? = some fn)(b:fn.body.isSome=true:=by kernel_rfl)(c:P.follows .mixedOrders=true:=by kernel_rfl)(d:ct P fn.ntmps OT H (fn.body.getD .skip)=some cc:=by kernel_rfl)(e:bT P fn.results.toList=some rs:=by kernel_rfl)(g:fn.ntmps=nt:=by kernel_rfl):az P f OT cc rs nt:=⟨fn,H,a,b,c,d,e,g⟩
def af (d:D) (rs:List (Nat×Option (Bool×Nat))):AExit→St→Prop
 |.exit _,_=>False
 |_,s=>ai s rs=some d
theorem az.conW {P:Program}{A OT:List TypeId}{f:FuncId}{cc:CC}{rs:List (Nat×Option (Bool×Nat))}{nt:Nat}{ds:List D}{d:D} (h:az P f OT cc rs nt) (hA:OT.all (fun T => !A.contains T)=true) (hn:ds.length≤nt)
  (hcw:cw OT (ConX P A) cc (af d rs) (bw ds)):Con P (A++dG OT) f ds d:=by
 obtain⟨fn,H,h1,h2,h3,h4,h5,rfl⟩:=h;obtain⟨code,hcode⟩:=z81.1 h2;rw[hcode] at h4;have hE:af d rs=fun e s=>(match e with | .exit _=>False | _=>True)∧ai s rs=some d:=by
  funext e s
  cases e<;>simp[af]
 rw[hE] at hcw;exact C6 h1 hcode h3 h4 h5 hA hn hcw
theorem ic {A OT:List TypeId} (hA:OT.all (fun T => !A.contains T&&(decide (T<70000000)||decide (80000000≤T)))=true):OT.all (fun T => !A.contains T)=true∧dG OT=[]:=by
 simp only[z9C,z9S,z83,z8T] at hA;refine⟨z9C.2 fun T hT=>(hA T hT).1,?_⟩;unfold dG;rw[List.filterMap_eq_nil_iff];intro T hT;have:=(hA T hT).2;exact if_neg fun h=>by
  rcases this with e | e
  ·exact absurd h.1 (Nat.not_le.2 e)
  ·exact absurd h.2 (Nat.not_lt.2 e)
theorem az.con {P:Program}{A OT:List TypeId}{f:FuncId}{cc:CC}{rs:List (Nat×Option (Bool×Nat))}{nt:Nat}{ds:List D}{d:D} (h:az P f OT cc rs nt) (hA:OT.all (fun T => !A.contains T&&(decide (T<70000000)||decide (80000000≤T)))=true) (hn:ds.length≤nt)
  (hcw:cw OT (ConX P A) cc (af d rs) (bw ds)):Con P A f ds d:=by
 have:=h.conW (ic hA).1 hn hcw
 rwa[(ic hA).2,List.append_nil] at this
end
set_option linter.unusedSimpArgs false
open Go.RowKit
def ar:List (Nat×AV)→Nat→AV
 |[],_ => .und
 |(i,v)::l,t=>if t=i then v else ar l t
def au:List (Nat×AObj)→Mem
 |[],_=>none
 |(i,v)::l,t=>if t=i then some v else au l t
def ej (t:Nat) (v:AV):List (Nat×AV)→List (Nat×AV)
 |[]=>[(t,v)]
 |(i,u)::l=>if i=t then (t,v)::l else (i,u)::ej t v l
def bR (t:Nat) (v:AObj):List (Nat×AObj)→List (Nat×AObj)
 |[]=>[(t,v)]
 |(i,u)::l=>if i=t then (t,v)::l else (i,u)::bR t v l
def sel (r:Nat→AV):List Nat→List (Nat×AV)
 |[]=>[]
 |t::l=>(t,r t)::sel r l
theorem eQ (t:Nat):ar [] t = .und:=rfl
theorem cZ (i:Nat) (v:AV) (l:List (Nat×AV)) (t:Nat):ar ((i,v)::l) t=if t=i then v else ar l t:=rfl
theorem iY (t:Nat):au [] t=none:=rfl
theorem ek (i:Nat) (v:AObj) (l:List (Nat×AObj)) (t:Nat):au ((i,v)::l) t=if t=i then some v else au l t:=rfl
theorem wk (t:Nat) (v:AV):ej t v []=[(t,v)]:=rfl
theorem wl (t:Nat) (v:AV) (i:Nat) (u:AV) (l:List (Nat×AV)):ej t v ((i,u)::l)=if i=t then (t,v)::l else (i,u)::ej t v l:=rfl
theorem wm (t:Nat) (v:AObj):bR t v []=[(t,v)]:=rfl
theorem wn (t:Nat) (v:AObj) (i:Nat) (u:AObj) (l:List (Nat×AObj)):bR t v ((i,u)::l)=if i=t then (t,v)::l else (i,u)::bR t v l:=rfl
theorem zcS (r:Nat→AV):sel r []=[]:=rfl
theorem wo (r:Nat→AV) (t:Nat) (l:List Nat):sel r (t::l)=(t,r t)::sel r l:=rfl
theorem gU (t:Nat) (v:AV):∀(l:List (Nat×AV)),upd (ar l) t v=ar (ej t v l)
 |[]=>by funext j;simp only[upd,wk,cZ,eQ]
 |(i,u)::l=>by
  funext j
  have ih:=congrFun (gU t v l) j;simp only[upd] at ih;simp only[upd,wl,cZ];by_cases hit:i=t
  ·subst hit;rw[if_pos rfl,cZ];split
   ·rfl
   ·rfl
  ·rw[if_neg hit,cZ,←ih];by_cases hj:j=t
   ·subst hj;rw[if_pos rfl,if_neg (fun e=>hit e.symm),if_pos rfl]
   ·rw[if_neg hj,if_neg hj]
theorem dn (t:Nat) (v:AObj):∀(l:List (Nat×AObj)),upd (au l) t (some v)=au (bR t v l)
 |[]=>by funext j;simp only[upd,wm,ek,iY]
 |(i,u)::l=>by
  funext j
  have ih:=congrFun (dn t v l) j;simp only[upd] at ih;simp only[upd,wn,ek];by_cases hit:i=t
  ·subst hit;rw[if_pos rfl,ek];split
   ·rfl
   ·rfl
  ·rw[if_neg hit,ek,←ih];by_cases hj:j=t
   ·subst hj;rw[if_pos rfl,if_neg (fun e=>hit e.symm),if_pos rfl]
   ·rw[if_neg hj,if_neg hj]
theorem gV {r:Nat→AV}:∀(ts:List Nat) (t:Nat),ar (sel r ts) t = .und∨ar (sel r ts) t=r t
 |[],_ => .inl rfl
 |i::ts,t=>by
  rw[wo,cZ];split
  ·rename_i e;subst e;exact .inr rfl
  ·exact gV ts t
section
variable {s t:St}{r:Nat→AV}{m:Mem}{OT:List TypeId}
theorem Sub.und {r':Nat→AV} (h:∀t,r' t = .und∨r' t=r t):Sub OT ⟨r,m⟩ ⟨r',m⟩:=by
 rintro C a w-⟨⟨loc,hr⟩,h2⟩;refine⟨⟨loc,hr.ext,hr.defers,hr.size,hr.low,hr.dom,fun t => ?_,hr.objs,hr.inj,hr.keepL⟩,h2⟩;rcases h t with e | e<;>simp only[e]
 ·exact .und _
 ·exact hr.tmps t
theorem Sub.nil {T sz:Nat} (i id:Nat) (hi:r i = .nils T sz) (hm:m id=none) (hT:T∈OT):Sub OT ⟨r,m⟩ ⟨upd r i (.slice id 0 0),upd m id (some ⟨T,sz,.row [],false⟩)⟩:=by
 rintro C a w rfl ⟨⟨loc,hr⟩,h2⟩;have h':=hr.allocNil hm T sz;refine⟨⟨_,h'.ext,h'.defers,h'.size,h'.low,h'.dom,fun t => ?_,h'.objs,h'.inj,h'.keepL⟩,fun j o ho => ?_⟩
 ·by_cases e:t=i
  ·subst e;have hv:RV w (NB C.base m loc w) loc (a.tmps.getD t undef) (r t):=hr.tmps t;rw[hi] at hv;simp only[aD];generalize a.tmps.getD t undef=v at hv;cases hv with
   |nils=>exact .sliceEmp _ id 0 none (aD _ _ _)
  ·simp only[aC _ _ e];exact h'.tmps t
 ·by_cases e:j=id
  ·subst e;simp only[aD,z99] at ho;subst ho;exact hT
  ·simp only[aC _ _ e] at ho;exact h2 j o ho
theorem keep (ts:List Nat){R:St→Prop} (h:R ⟨ar (sel r ts),m⟩):∃u,Sub OT ⟨r,m⟩ u∧R u:=⟨_,Sub.und (gV ts),h⟩
theorem aP (a:D):bw [a]=⟨ar [(0,.p a)],au []⟩:=by
 unfold bw;congr 1;funext t
 match t with
 |0=>rfl
 |t+1=>simp[cZ,eQ]
theorem ax (a b:D):bw [a,b]=⟨ar [(0,.p a),(1,.p b)],au []⟩:=by
 unfold bw;congr 1;funext t
 match t with
 |0 | 1=>rfl
 |t+2=>simp[cZ,eQ]
theorem ci (a b c:D):bw [a,b,c]=⟨ar [(0,.p a),(1,.p b),(2,.p c)],au []⟩:=by
 unfold bw;congr 1;funext t
 match t with
 |0 | 1 | 2=>rfl
 |t+3=>simp[cZ,eQ]
theorem ws (a b c d:D):bw [a,b,c,d]=⟨ar [(0,.p a),(1,.p b),(2,.p c),(3,.p d)],au []⟩:=by
 unfold bw;congr 1;funext t
 match t with
 |0 | 1 | 2 | 3=>rfl
 |t+4=>simp[cZ,eQ]
theorem zcT (b:Bool):D.cells (.bool b)=[.bool b]:=rfl
theorem zcU (b:Bool):D.one (.bool b)=true:=rfl
theorem zcV (b:Bool):D.isAgg (.bool b)=false:=rfl
theorem zcW (k:IntKind) (n:Int):D.cells (.int k n)=[.int k n]:=rfl
theorem zcX (k:IntKind) (n:Int):D.one (.int k n)=true:=rfl
theorem zcY (k:IntKind) (n:Int):D.isAgg (.int k n)=false:=rfl
theorem zcZ (s:List UInt8):D.cells (.str s)=[.str s]:=rfl
theorem zc0 (s:List UInt8):D.one (.str s)=true:=rfl
theorem zc1 (s:List UInt8):D.isAgg (.str s)=false:=rfl
theorem zc2 (T:TypeId) (sz:Nat) (l:List D):D.cells (.list T sz l)=[.list T sz l]:=rfl
theorem zc3 (T:TypeId) (sz:Nat) (l:List D):D.one (.list T sz l)=true:=rfl
theorem zc4 (T:TypeId) (sz:Nat) (l:List D):D.isAgg (.list T sz l)=false:=rfl
theorem zc5 :D.cells .nilp=[.nilp]:=rfl
theorem zc6 :D.one .nilp=true:=rfl
theorem zc7 :D.isAgg .nilp=false:=rfl
theorem zc8 (d:D):D.cells (.ref d)=[.ref d]:=rfl
theorem zc9 (d:D):D.one (.ref d)=true:=rfl
theorem zda (d:D):D.isAgg (.ref d)=false:=rfl
theorem zdb (f:Fn) (x y:List D):D.cells (.fn f x y)=[.fn f x y]:=rfl
theorem zdc (f:Fn) (x y:List D):D.one (.fn f x y)=true:=rfl
theorem zdd (f:Fn) (x y:List D):D.isAgg (.fn f x y)=false:=rfl
theorem zde (l:List D):D.cells (.agg l)=l:=rfl
theorem zdf (l:List D):D.one (.agg l)=false:=rfl
theorem zdg (l:List D):D.isAgg (.agg l)=true:=rfl
theorem zdh (d:D):AV.cells (.p d)=d.cells.map AV.p:=rfl
theorem zdi (d:D):AV.one (.p d)=d.one:=rfl
theorem zdj (d:D):AV.isAgg (.p d)=some d.isAgg:=rfl
theorem zdk (l:List AV):AV.cells (.agg l)=l:=rfl
theorem zdl (l:List AV):AV.isAgg (.agg l)=some true:=rfl
theorem zdm (l:List AV):AV.one (.agg l)=false:=rfl
theorem zdn (i o n:Nat):AV.cells (.slice i o n)=[.slice i o n]:=rfl
theorem zdo (i o n:Nat):AV.one (.slice i o n)=true:=rfl
theorem zdp (i o n:Nat):AV.isAgg (.slice i o n)=some false:=rfl
theorem zdq (i j o:Nat):AV.cells (.ptr i j o)=[.ptr i j o]:=rfl
theorem zdr (i j o:Nat):AV.one (.ptr i j o)=true:=rfl
theorem zds (i j o:Nat):AV.isAgg (.ptr i j o)=some false:=rfl
theorem zdt (T:TypeId) (sz:Nat):AV.cells (.nils T sz)=[.nils T sz]:=rfl
theorem zdu (T:TypeId) (sz:Nat):AV.one (.nils T sz)=true:=rfl
theorem zdv (T:TypeId) (sz:Nat):AV.isAgg (.nils T sz)=some false:=rfl
theorem pO (G:FuncId→List D→D→Prop) (K:St→Prop):∀(l l':List COp) (s:St),bC G (l++l') K s=bC G l (bC G l' K) s
 |[],_,_=>rfl
 |c::l,l',s=>by
  have:(fun t=>bC G (l++l') K t)=bC G l (bC G l' K):=funext fun t=>pO G K l l' t
  show bK G c (fun t=>bC G (l++l') K t) s=bK G c (bC G l (bC G l' K)) s
  rw[this]
theorem Sub.to (ts:List Nat){r':Nat→AV} (h:ar (sel r ts)=r'):Sub OT ⟨r,m⟩ ⟨r',m⟩:=by subst h;exact Sub.und (gV ts)
theorem gw {OT:List TypeId}{G:FuncId→List D→D→Prop}:∀{cc:CC}{Q Q':AExit→St→Prop}{s:St},(∀e t,Q e t→Q' e t)→cw OT G cc Q s→cw OT G cc Q' s
 |.skip,_,_,_,h,k=>h _ _ k
 |.ops _ l,_,_,_,h,k=>⟨k.1,u6 l _ k.2 fun _ ht=>h _ _ ht⟩
 |.seq a b,Q,Q',s,h,k=>by
  refine gw (cc:=a) (fun e t ht => ?_) k;cases e with
  |normal=>obtain⟨u,h1,h2⟩:=ht;exact⟨u,h1,gw h h2⟩
  |exit id=>exact h _ _ ht
  |ret=>exact h _ _ ht
 |.cond x a b,Q,Q',s,h,k=>by
  simp only[cw] at k ⊢;split at k
  ·exact⟨fun e=>gw h (k.1 e),fun e=>gw h (k.2 e)⟩
  ·exact k.elim
 |.block id a,Q,Q',s,h,k=>by
  refine gw (cc:=a) (fun e t ht => ?_) k;cases e with
  |normal=>exact h _ _ ht
  |exit j =>
   simp only at ht ⊢;split
   ·rw[if_pos ‹_›] at ht;exact h _ _ ht
   ·rw[if_neg ‹_›] at ht;exact h _ _ ht
  |ret=>exact h _ _ ht
 |.loop a,Q,Q',s,h,k=>fun R hR=>k R fun t ht=>hR t (gw (fun e u hu=>by
  cases e with
  |normal=>exact hu
  |exit id=>exact h _ _ hu
  |ret=>exact h _ _ hu) ht)
 |.exit id,_,_,_,h,k=>h _ _ k
 |.ret,_,_,_,h,k=>h _ _ k
 |.stuck,_,_,_,_,k=>k.elim
theorem aB {G:FuncId→List D→D→Prop}{a:CC}{Q:AExit→St→Prop}{s:St}{ι:Type} (p:ι→Prop) (I:ι→St) (μ:ι→Nat) (i0:ι) (h0:p i0) (hs:Sub OT s (I i0))
  (round:∀i,p i→cw OT G a (fun e t=>match e with
   |.normal => ∃j,p j∧Sub OT t (I j)∧μ j<μ i
   |e=>Q e t) (I i)):cw OT G (.loop a) Q s:=fun R hR=>by
 have key:∀n i,μ i=n→p i→R (I i):=by
  intro n;induction n using Nat.strongRecOn with
  |_ n ih =>
   intro i hn hp;refine hR _ (gw ?_ (round i hp));intro e t h;cases e with
   |normal =>
    obtain⟨j,h1,h2,h3⟩:=h;exact⟨_,h2,ih _ (hn ▸ h3) j rfl h1⟩
   |exit id=>exact h
   |ret=>exact h
 exact⟨_,hs,key _ i0 rfl h0⟩
theorem zdw {G:FuncId→List D→D→Prop}{a:CC}{Q:AExit→St→Prop}{s u:St} (hs:Sub OT s u) (round:cw OT G a (fun e t=>match e with
   |.normal=>cw OT G (.loop a) Q t
   |e=>Q e t) u):cw OT G (.loop a) Q s:=fun R hR=>⟨u,hs,hR _ (gw (fun e t h=>by
 cases e with
 |normal=>exact h R hR
 |exit id=>exact h
 |ret=>exact h) round)⟩
theorem zdx (l:List Int) (i:Nat):(l.map (D.int .i64)).getD i default=D.int .i64 (l.getD i 0):=by
 rw[z91,z91,z9B];cases l[i]?<;>rfl
theorem zdy (l:List Int) (i:Nat) (x:Int):(l.map (D.int .i64)).set i (D.int .i64 x)=(l.set i x).map (D.int .i64):=List.map_set.symm
theorem zdz (n:Nat) (x:Int):List.replicate n (D.int .i64 x)=(List.replicate n x).map (D.int .i64):=List.map_replicate.symm
theorem zdA (l:List Int) (n:Nat):(l.map (D.int .i64)).take n=(l.take n).map (D.int .i64):=List.map_take.symm
theorem zdB (l:List Int) (n:Nat):(l.map (D.int .i64)).drop n=(l.drop n).map (D.int .i64):=List.map_drop.symm
theorem zdC (l m:List Int):l.map (D.int .i64)++m.map (D.int .i64)=(l++m).map (D.int .i64):=List.map_append.symm
theorem zdD:((0:Nat):Int)=0:=rfl
theorem zdE (n:Nat):((n:Int)+1).toNat=n+1:=by omega
theorem zdF (n:Nat):((n+1:Nat):Int)=(n:Int)+1:=rfl
end
set_option linter.unusedSimpArgs false
open Go.RowKit
def CV (w:World) (N:Nat→Prop) (cs:List Value) (l:List D):Prop:=cs.length=l.length∧(∀d∈l,d.one=true)∧∀i d,l[i]? = some d→V w N (cs.getD i undef) d
def bl (P:Program) (t:TypeId):Bool:=match P.underlying t with
 |some (.struct _)=>true
 |_=>false
inductive TyC (P:Program):TypeId→List D→Prop where
 |bool (t:TypeId) (b:Bool):P.underlying t=some .bool→TyC P t [.bool b]
 |int (t:TypeId) (k:IntKind) (n:Int):P.underlying t=some (.int k)→(Lit.int k n).wf=true→TyC P t [.int k n]
 |str (t:TypeId) (s:List UInt8):P.underlying t=some .string→s.length≤maxLen→TyC P t [.str s]
 |slice (t e:TypeId) (l:List D):P.underlying t=some (.slice e)→l.length≤maxLen→(∀d∈l,TyC P e d.cells)→(∀d∈l,d.cells.length=P.cellsOf e∧(∀q∈d.cells,q.one=true)∧d.isAgg=bl P e)→TyC P t [.list (e+1000000) (P.cellsOf e) l]
 |struct (t:TypeId) (fs:Array Field) (l:List D):P.underlying t=some (.struct fs)→l.length=P.cellsOf t→(∀f∈fs.toList,TyC P f.type ((l.drop f.offset).take (P.cellsOf f.type)))→TyC P t l
def fU (P:Program):Nat→List Field→Nat→Bool
 |o,[],e=>o == e
 |o,f::fs,e=>f.offset == o&&fU P (o+P.cellsOf f.type) fs e
theorem tu {P:Program}:∀{fs:List Field}{o e:Nat},fU P o fs e=true→o≤e
 |[],o,e,h=>by simp[fU] at h;omega
 |f::fs,o,e,h=>by
  simp only[fU,z9S] at h;have:=tu h.2;omega
def lf (P:Program) (S:List TypeId):Bool:=S.all fun t=>decide (0<P.cellsOf t)&&match P.underlying t with
 |some .bool=>true
 |some (.int _)=>true
 |some .string=>true
 |some (.slice e)=>S.contains e
 |some (.struct fs)=>fs.toList.all (fun f=>S.contains f.type)&&fU P 0 fs.toList (P.cellsOf t)
 |_=>false
theorem CV.append {w:World}{N:Nat→Prop}{cs ds:List Value}{l m:List D} (h:CV w N cs l) (k:CV w N ds m):CV w N (cs++ds) (l++m):=by
 refine⟨by simp[h.1,k.1],fun d hd => ?_,fun i d hd => ?_⟩
 ·rcases z9y.1 hd with hd | hd
  ·exact h.2.1 d hd
  ·exact k.2.1 d hd
 ·have hl:=h.1;rcases z8V i l.length with hi | hi
  ·rw[z9v hi] at hd;have:=h.2.2 i d hd;rw[z91,z9v (by omega),←z91];exact this
  ·rw[z9z hi] at hd;have:=k.2.2 _ d hd;rw[z91,z9z (by omega),hl,←z91];exact this
section
variable {H:Type}{enc:TypeId×Value→H}{P:Program}{w:World}{spare:Nat→Bool}{held:Bool}{N:Nat→Prop}
theorem WG {a:Addr}{n:Nat}{cs:List Value} (h:w.cells? 0 a n=some cs):cs.length=n∧∀i,i<n→w.cell? (a.add i)=some (cs.getD i undef):=by
 unfold World.cells? at h;rw[if_pos (z9O _)] at h;have hl:=mapM_some_length h;rw[List.length_range] at hl;refine⟨hl,fun i hi => ?_⟩;have:=mapM_some_get h i i (by simp[hi]);rw[this];simp[show i<cs.length by omega]
theorem WH {a:Addr}{v:Value} (h:w.cell? (a.add 0)=some v):∃b o,a=⟨b,o,none⟩:=by
 obtain⟨b,o,s⟩:=a;cases s with
 |none=>exact⟨b,o,rfl⟩
 |some x =>
  exfalso
  unfold Addr.add World.cell? at h;rw[if_pos rfl] at h;split at h
  ·simp at h
  ·cases h
theorem WI {a:Addr}:(a.add 0)=a:=by unfold Addr.add;rw[if_pos rfl]
theorem tw {b o:Nat}{v:Value} (h:w.cell? ⟨b,o,none⟩=some v):∃c T fr,w.heap[b]? = some (.cells c T fr)∧o<c.size∧c.getD o undef=v:=by
 unfold World.cell? at h;split at h
 ·rename_i c T fr hb;simp only[Option.isSome_none,z9m,if_false] at h;obtain⟨h1,h2⟩:=Array.getElem?_eq_some_iff.1 h;exact⟨c,T,fr,hb,h1,by simp[h1,h2]⟩
 ·cases h
end
end Go.Proofs.YtbnhgnhgbhjkcaaGreat.M
