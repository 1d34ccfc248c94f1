/- The reference's zread, ZParse. -/
import Derived.Test.YtkidkimjdiichaaGreatZWw
namespace Go.Proofs.YtkidkimjdiichaaGreat.Z4
open Go.RowKit
theorem p10_le4 {j:Nat} (h:j≤4):(10:Int)^j≤10000:=by
 have h1:(10:Nat)^j≤10^4:=Nat.pow_le_pow_right (by omega) h
 have e:(10:Int)^j=((10^j:Nat):Int):=by rw[Int.natCast_pow];rfl
 rw[e]
 simp only[Nat.reducePow] at h1
 omega
theorem read_chunk {A R n V p:Int} {k:Nat} (h:A=R*10^k+n) (hR:k≠4→R=0):A*p+V=R*(p*10000)+(V+n*p):=by
 by_cases e:k=4
 ·subst e
  rw[h];grind
 ·rw[hR e] at h ⊢
  rw[h];grind
set_option maxRecDepth 100000 in
set_option maxHeartbeats 1000000 in
theorem zread_any (t:List UInt8) (w:World) (hs:t.length≤4294967296) (hd:∀ j,j<(body t).length→48≤byt (body t) j∧byt (body t) j≤57) (hsm:Sm (numVal t)) :
  Calls Tryz.prog 127 #[.string (bs t)] w (RetZ w (numVal t)):=by
 obtain⟨q,hq⟩:∃ q,q=body t:=⟨_,rfl⟩
 have hql:q.length≤t.length:=by rw[hq,body_length];omega
 rw[←hq] at hd
 replace hd:=hd_ hd
 replace hsm:=hd_ hsm
 have HV:Hd (numVal t=sg (isNeg t) (readN q)):=hd_ (by rw[hq];rfl)
 cases hn:isNeg t
 ·rw[body_pos hn] at hq
  subst hq
  rw[hn] at HV
  by_cases hl:0<q.length
  ·have hb:=nNeg_byt hn hl
   clear hn
   go_enter Tryz.func127,Tryz.ntmps127
   go_wp2
   go_loopw [4,5] (fun ov i wr => ∃ (m:Nat) (iv:Int) (so:SV) (o:List Int),ov = .slice so.a so.len so.cap∧i = .int .i64 iv∧iv+4*m=q.length∧-4≤iv∧Rw wr (w.heap.size+1) .i64 so o∧o.length=m∧Dig o ∧
     readN q=readN (q.take iv.toNat)*10000^m+valL o∧Ext (w.alloc (Obj.cells #[Value.bool false,Value.slice none 0 0] 58)) wr) (fun _ i _=>(intOf i+4).toNat)
   case atStart=>exact⟨0,q.length,⟨none,0,0⟩,[],rfl,rfl,by omega,by omega,Rw.nil_ _ _ _,rfl,(fun x hx=>by cases hx),by simp[valL],(Ext.rf _)⟩
   case round =>
    obtain⟨m,iv,so,o,rfl,rfl,him,hiv,hown,hol,hdo,hval,hx⟩:=hrel
    have hsl:=hown.len
    obtain⟨oa,on,oc⟩:=so
    simp only at hsl
    subst hsl
    have holb:o.length≤q.length+4:=by omega
    replace hol:=hd_ hol
    replace hval:=hd_ hval
    replace him:=hd_ him
    by_cases hi:0<iv
    ·obtain⟨ii,rfl⟩:=Int.eq_ofNat_of_zero_le (Int.le_of_lt hi)
     have hii:0<ii:=by omega
     have hiq:ii≤q.length:=by have:=him.out;omega
     go_wp2
     go_loop [6,7] (fun n j => ∃ (nv jv:Int),n = .int .i64 nv∧j = .int .i64 jv∧(ii:Int)-4≤jv∧jv≤ii∧0≤nv∧nv<10^(jv.toNat-(ii-4))∧readN (q.take jv.toNat)=readN (q.take (ii-4))*10^(jv.toNat-(ii-4))+nv) (fun _ j=>(ii-intOf j).toNat)
     case atStart=>exact⟨0,(ii:Int)-4,rfl,rfl,by omega,by omega,by omega,by rw[show ((ii:Int)-4).toNat-(ii-4)=0 by omega];simp,by rw[show ((ii:Int)-4).toNat=ii-4 by omega];simp⟩
     case round =>
      obtain⟨nv,jv,rfl,rfl,hj1,hj2,hn1,hn2,hnv⟩:=hrel
      have hn9:=(p10_le (j:=jv.toNat-(ii-4)) (by omega)).2
      have hn9':nv<1000000000:=by omega
      replace hn2:=hd_ hn2
      replace hnv:=hd_ hnv
      clear hn9
      by_cases hj:jv<ii
      ·by_cases hj0:0≤jv
       ·obtain⟨jj,rfl⟩:=Int.eq_ofNat_of_zero_le hj0
        have hjq:jj<q.length:=by omega
        have hdj:=hd.out jj hjq
        go_wp2
        go_round
        case rel =>
         refine⟨_,(jj:Int)+1,rfl,by go_num,by omega,by omega,by omega,?_,?_⟩
         ·have h2:=hn2.out
          rw[show ((jj:Int)+1).toNat-(ii-4)=(jj-(ii-4))+1 by omega,Int.pow_succ]
          rw[show (jj:Int).toNat-(ii-4)=jj-(ii-4) by omega] at h2
          generalize (10:Int)^(jj-(ii-4))=p at *
          omega
         ·have h2:=hnv.out
          rw[show ((jj:Int)+1).toNat=jj+1 by omega,readN_take_succ hjq,show jj+1-(ii-4)=(jj-(ii-4))+1 by omega,Int.pow_succ]
          rw[show (jj:Int).toNat=jj by omega] at h2
          rw[h2]
          grind
        case measure=>first | (simp[intOf];done) | (simp[intOf];omega)
       ·have hz:Hd (jv.toNat-(ii-4)=(jv+1).toNat-(ii-4)∧jv.toNat=(jv+1).toNat):=hd_ (by omega)
        go_wp2
        go_round
        case rel=>exact⟨nv,jv+1,rfl,by go_num,by omega,by omega,hn1,by rw[←hz.out.1];exact hn2.out,by rw[←hz.out.1,←hz.out.2];exact hnv.out⟩
        case measure=>first | (simp[intOf];done) | (simp[intOf];omega)
      ·obtain rfl:jv=ii:=by omega
       have hn4:nv≤9999:=by
        have h1:=hn2.out
        have h2:=p10_le4 (j:=(ii:Int).toNat-(ii-4)) (by omega)
        omega
       go_wp2_with ((refine wpL_app1 _ rfl _ _ 56 rfl .i64 8 Tryz.underlying56 infoI64 (w.alloc (Obj.cells #[Value.bool false,Value.slice none 0 0] 58)) ⟨oa,o.length,oc⟩ o _ rfl rfl (by simpa using hown) hx (by omega) (by omega) ?_);intro s5 w5 hrw5 hx5 hk5;rw[World.size_alloc] at hrw5)
       go_roundw
       case rel =>
        refine⟨m+1,(ii:Int)-4,s5,o++[nv],rfl,rfl,by have:=him.out;omega,by omega,hrw5,by simp[hol.out],hdo.snoc (by omega),?_,hx5⟩
        have h1:=hval.out
        have h2:=hnv.out
        rw[valL_snoc,hol.out,Int.pow_succ,h1,show ((ii:Int)-4).toNat=ii-4 by omega]
        refine read_chunk h2 (fun hk => ?_)
        rw[show ii-4=0 by omega];rfl
       case measure=>first | (simp[intOf];done) | (simp[intOf];omega)
    ·have hv:Hd (valL o=readN q):=hd_ (by have:=hval.out;rw[show iv.toNat=0 by omega] at this;simp[readN] at this ⊢;omega)
     clear him
     go_wp2_with fail
     refine (made_any _ ⟨oa,o.length,oc⟩ o _ (hown.isL hdo.fit) hdo (by rw[hv.out,←HV.out];exact hsm.out)).mono ?_
     rintro e w2 ⟨y,rfl,hy,hx2⟩
     rw[hv.out,←HV.out] at hy
     have k0:w2.cell? ⟨w.heap.size,0,none⟩=some (Value.bool false):=cell_later hx2 (cell_later hx (by simp))
     have k1:w2.cell? ⟨w.heap.size,1,none⟩=some (Value.slice none 0 0):=cell_later hx2 (cell_later hx (by simp))
     have hsz:=hx.size
     have hsz2:=hx2.size
     simp only[World.size_alloc] at hsz
     have f0:∀ i,w2.frozen? ⟨w.heap.size,i,none⟩=false:=fun i=>(hx2.frozen (p:=⟨w.heap.size,i,none⟩) (by show w.heap.size<_;omega)).trans ((hx.frozen (p:=⟨w.heap.size,i,none⟩) (by simp)).trans (by simp))
     go_wp2
     refine bodyPost_ret (v:=.agg #[.bool y.n,.slice y.s.a y.s.len y.s.cap]) (by simp[results,Tryz.results127,go_sem,k0,k1]) rfl ⟨y,rfl,?_,?_⟩
     ·exact hy.kept ((Kept.rf _ _).st2 (T':=58) (((Ty.new' rfl).keep hx).keep hx2) (by decide) _ _)
     ·exact ((((Ext.rf w).al _).tr hx).tr hx2).st2 (Nat.le_refl _) _ _
  ·clear hn
   go_enter Tryz.func127,Tryz.ntmps127
   go_wp2
   go_loopw [4,5] (fun ov i wr => ∃ (m:Nat) (iv:Int) (so:SV) (o:List Int),ov = .slice so.a so.len so.cap∧i = .int .i64 iv∧iv=0∧Rw wr (w.heap.size+1) .i64 so o∧o.length=m∧Dig o ∧
     readN q=readN (q.take iv.toNat)*10000^m+valL o∧Ext (w.alloc (Obj.cells #[Value.bool false,Value.slice none 0 0] 58)) wr) (fun _ i _=>(intOf i+4).toNat)
   case atStart=>exact⟨0,q.length,⟨none,0,0⟩,[],rfl,rfl,by omega,Rw.nil_ _ _ _,rfl,(fun x hx=>by cases hx),by simp[valL],(Ext.rf _)⟩
   case round =>
    obtain⟨m,iv,so,o,rfl,rfl,hiv,hown,hol,hdo,hval,hx⟩:=hrel
    have hsl:=hown.len
    obtain⟨oa,on,oc⟩:=so
    simp only at hsl
    subst hsl
    replace hol:=hd_ hol
    replace hval:=hd_ hval
    have him:=hd_ hiv
    have hi:¬ 0<iv:=by omega
    clear hiv
    have hv:Hd (valL o=readN q):=hd_ (by have:=hval.out;rw[show iv.toNat=0 by omega] at this;simp[readN] at this ⊢;omega)
    clear him
    go_wp2_with fail
    refine (made_any _ ⟨oa,o.length,oc⟩ o _ (hown.isL hdo.fit) hdo (by rw[hv.out,←HV.out];exact hsm.out)).mono ?_
    rintro e w2 ⟨y,rfl,hy,hx2⟩
    rw[hv.out,←HV.out] at hy
    have k0:w2.cell? ⟨w.heap.size,0,none⟩=some (Value.bool false):=cell_later hx2 (cell_later hx (by simp))
    have k1:w2.cell? ⟨w.heap.size,1,none⟩=some (Value.slice none 0 0):=cell_later hx2 (cell_later hx (by simp))
    have hsz:=hx.size
    have hsz2:=hx2.size
    simp only[World.size_alloc] at hsz
    have f0:∀ i,w2.frozen? ⟨w.heap.size,i,none⟩=false:=fun i=>(hx2.frozen (p:=⟨w.heap.size,i,none⟩) (by show w.heap.size<_;omega)).trans ((hx.frozen (p:=⟨w.heap.size,i,none⟩) (by simp)).trans (by simp))
    go_wp2
    refine bodyPost_ret (v:=.agg #[.bool y.n,.slice y.s.a y.s.len y.s.cap]) (by simp[results,Tryz.results127,go_sem,k0,k1]) rfl ⟨y,rfl,?_,?_⟩
    ·exact hy.kept ((Kept.rf _ _).st2 (T':=58) (((Ty.new' rfl).keep hx).keep hx2) (by decide) _ _)
    ·exact ((((Ext.rf w).al _).tr hx).tr hx2).st2 (Nat.le_refl _) _ _
 ·obtain⟨hl,hb⟩:=isNeg_byt hn
  rw[body_neg hn] at hq
  have hql2:q.length+1=t.length:=by rw[hq];simp;omega
  have hqe:Hd (t.tail=q):=hd_ hq.symm
  have hlq:Hd (((t.length-1:Nat):Int)=q.length):=hd_ (by omega)
  clear hq
  rw[hn] at HV
  clear hn
  go_enter Tryz.func127,Tryz.ntmps127
  go_wp2
  rw[hqe.out,hlq.out]
  go_loopw [4,5] (fun ov i wr => ∃ (m:Nat) (iv:Int) (so:SV) (o:List Int),ov = .slice so.a so.len so.cap∧i = .int .i64 iv∧iv+4*m=q.length∧-4≤iv∧Rw wr (w.heap.size+1) .i64 so o∧o.length=m∧Dig o ∧
    readN q=readN (q.take iv.toNat)*10000^m+valL o∧Ext (w.alloc (Obj.cells #[Value.bool false,Value.slice none 0 0] 58)) wr) (fun _ i _=>(intOf i+4).toNat)
  case atStart=>exact⟨0,q.length,⟨none,0,0⟩,[],rfl,rfl,by omega,by omega,Rw.nil_ _ _ _,rfl,(fun x hx=>by cases hx),by simp[valL],(Ext.rf _)⟩
  case round =>
   obtain⟨m,iv,so,o,rfl,rfl,him,hiv,hown,hol,hdo,hval,hx⟩:=hrel
   have hsl:=hown.len
   obtain⟨oa,on,oc⟩:=so
   simp only at hsl
   subst hsl
   have holb:o.length≤q.length+4:=by omega
   replace hol:=hd_ hol
   replace hval:=hd_ hval
   replace him:=hd_ him
   by_cases hi:0<iv
   ·obtain⟨ii,rfl⟩:=Int.eq_ofNat_of_zero_le (Int.le_of_lt hi)
    have hii:0<ii:=by omega
    have hiq:ii≤q.length:=by have:=him.out;omega
    go_wp2
    go_loop [6,7] (fun n j => ∃ (nv jv:Int),n = .int .i64 nv∧j = .int .i64 jv∧(ii:Int)-4≤jv∧jv≤ii∧0≤nv∧nv<10^(jv.toNat-(ii-4))∧readN (q.take jv.toNat)=readN (q.take (ii-4))*10^(jv.toNat-(ii-4))+nv) (fun _ j=>(ii-intOf j).toNat)
    case atStart=>exact⟨0,(ii:Int)-4,rfl,rfl,by omega,by omega,by omega,by rw[show ((ii:Int)-4).toNat-(ii-4)=0 by omega];simp,by rw[show ((ii:Int)-4).toNat=ii-4 by omega];simp⟩
    case round =>
     obtain⟨nv,jv,rfl,rfl,hj1,hj2,hn1,hn2,hnv⟩:=hrel
     have hn9:=(p10_le (j:=jv.toNat-(ii-4)) (by omega)).2
     have hn9':nv<1000000000:=by omega
     replace hn2:=hd_ hn2
     replace hnv:=hd_ hnv
     clear hn9
     by_cases hj:jv<ii
     ·by_cases hj0:0≤jv
      ·obtain⟨jj,rfl⟩:=Int.eq_ofNat_of_zero_le hj0
       have hjq:jj<q.length:=by omega
       have hdj:=hd.out jj hjq
       go_wp2
       go_round
       case rel =>
        refine⟨_,(jj:Int)+1,rfl,by go_num,by omega,by omega,by omega,?_,?_⟩
        ·have h2:=hn2.out
         rw[show ((jj:Int)+1).toNat-(ii-4)=(jj-(ii-4))+1 by omega,Int.pow_succ]
         rw[show (jj:Int).toNat-(ii-4)=jj-(ii-4) by omega] at h2
         generalize (10:Int)^(jj-(ii-4))=p at *
         omega
        ·have h2:=hnv.out
         rw[show ((jj:Int)+1).toNat=jj+1 by omega,readN_take_succ hjq,show jj+1-(ii-4)=(jj-(ii-4))+1 by omega,Int.pow_succ]
         rw[show (jj:Int).toNat=jj by omega] at h2
         rw[h2]
         grind
       case measure=>first | (simp[intOf];done) | (simp[intOf];omega)
      ·have hz:Hd (jv.toNat-(ii-4)=(jv+1).toNat-(ii-4)∧jv.toNat=(jv+1).toNat):=hd_ (by omega)
       go_wp2
       go_round
       case rel=>exact⟨nv,jv+1,rfl,by go_num,by omega,by omega,hn1,by rw[←hz.out.1];exact hn2.out,by rw[←hz.out.1,←hz.out.2];exact hnv.out⟩
       case measure=>first | (simp[intOf];done) | (simp[intOf];omega)
     ·obtain rfl:jv=ii:=by omega
      have hn4:nv≤9999:=by
       have h1:=hn2.out
       have h2:=p10_le4 (j:=(ii:Int).toNat-(ii-4)) (by omega)
       omega
      go_wp2_with ((refine wpL_app1 _ rfl _ _ 56 rfl .i64 8 Tryz.underlying56 infoI64 (w.alloc (Obj.cells #[Value.bool false,Value.slice none 0 0] 58)) ⟨oa,o.length,oc⟩ o _ rfl rfl (by simpa using hown) hx (by omega) (by omega) ?_);intro s5 w5 hrw5 hx5 hk5;rw[World.size_alloc] at hrw5)
      go_roundw
      case rel =>
       refine⟨m+1,(ii:Int)-4,s5,o++[nv],rfl,rfl,by have:=him.out;omega,by omega,hrw5,by simp[hol.out],hdo.snoc (by omega),?_,hx5⟩
       have h1:=hval.out
       have h2:=hnv.out
       rw[valL_snoc,hol.out,Int.pow_succ,h1,show ((ii:Int)-4).toNat=ii-4 by omega]
       refine read_chunk h2 (fun hk => ?_)
       rw[show ii-4=0 by omega];rfl
      case measure=>first | (simp[intOf];done) | (simp[intOf];omega)
   ·have hv:Hd (valL o=readN q):=hd_ (by have:=hval.out;rw[show iv.toNat=0 by omega] at this;simp[readN] at this ⊢;omega)
    clear him
    go_wp2_with fail
    refine (made_any _ ⟨oa,o.length,oc⟩ o _ (hown.isL hdo.fit) hdo (by rw[hv.out,←HV.out];exact hsm.out)).mono ?_
    rintro e w2 ⟨y,rfl,hy,hx2⟩
    rw[hv.out,←HV.out] at hy
    have k0:w2.cell? ⟨w.heap.size,0,none⟩=some (Value.bool false):=cell_later hx2 (cell_later hx (by simp))
    have k1:w2.cell? ⟨w.heap.size,1,none⟩=some (Value.slice none 0 0):=cell_later hx2 (cell_later hx (by simp))
    have hsz:=hx.size
    have hsz2:=hx2.size
    simp only[World.size_alloc] at hsz
    have f0:∀ i,w2.frozen? ⟨w.heap.size,i,none⟩=false:=fun i=>(hx2.frozen (p:=⟨w.heap.size,i,none⟩) (by show w.heap.size<_;omega)).trans ((hx.frozen (p:=⟨w.heap.size,i,none⟩) (by simp)).trans (by simp))
    go_wp2
    refine bodyPost_ret (v:=.agg #[.bool y.n,.slice y.s.a y.s.len y.s.cap]) (by simp[results,Tryz.results127,go_sem,k0,k1]) rfl ⟨y,rfl,?_,?_⟩
    ·exact hy.kept ((Kept.rf _ _).st2 (T':=58) (((Ty.new' rfl).keep hx).keep hx2) (by decide) _ _)
    ·exact ((((Ext.rf w).al _).tr hx).tr hx2).st2 (Nat.le_refl _) _ _
end Go.Proofs.YtkidkimjdiichaaGreat.Z4
