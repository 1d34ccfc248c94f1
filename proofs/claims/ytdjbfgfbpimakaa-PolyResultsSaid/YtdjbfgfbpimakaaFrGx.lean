/- ParseFrac: the walk. -/
import Derived.Test.YtdjbfgfbpimakaaFrPx
namespace Go.Proofs.Ytdjbfgfbpimakaa
open Go.RowKit
def fracR (t:List UInt8):Int × Int × Int × Int:=
 if (numLen true t).2=true∧(numLen true t).1<t.length∧byt t (numLen true t).1=47 then
  if (numLen false (t.drop ((numLen true t).1+1))).2=true∧(t.drop ((numLen true t).1+1)).length≤(numLen false (t.drop ((numLen true t).1+1))).1 then
   if (body (t.take (numLen true t).1)).length≤1000∧(t.drop ((numLen true t).1+1)).length≤1000 then
    if frText (frN (parseZ (t.take (numLen true t).1)) (parseZ (t.drop ((numLen true t).1+1)))) (frD (parseZ (t.take (numLen true t).1)) (parseZ (t.drop ((numLen true t).1+1))))=t then
     (frN (parseZ (t.take (numLen true t).1)) (parseZ (t.drop ((numLen true t).1+1))),frD (parseZ (t.take (numLen true t).1)) (parseZ (t.drop ((numLen true t).1+1))),0,0)
    else (0,1,3,0)
   else (0,1,2,0)
  else (0,1,1,((numLen true t).1:Int)+1+(numLen false (t.drop ((numLen true t).1+1))).1)
 else if (numLen true t).2=true∧t.length≤(numLen true t).1 then (if (body t).length≤1000 then (parseZ t,1,0,0) else (0,1,2,0))
 else (0,1,1,(numLen true t).1)
theorem fracR_no {t:List UInt8} (h:(numLen true t).2=false∨((numLen true t).1<t.length∧byt t (numLen true t).1≠47)):fracR t=(0,1,1,((numLen true t).1:Int)):=by
 unfold fracR
 rw[if_neg (by rintro⟨h1,h2,h3⟩;rcases h with h | ⟨_,h⟩;rw[h1] at h;cases h;exact h h3),if_neg (by rintro⟨h1,h2⟩;rcases h with h | ⟨h,_⟩;rw[h1] at h;cases h;omega)]
theorem fracR_whole {t:List UInt8} (h:(numLen true t).2=true) (h2:t.length≤(numLen true t).1):fracR t=if (body t).length≤1000 then (parseZ t,1,0,0) else (0,1,2,0):=by
 unfold fracR
 rw[if_neg (by rintro⟨_,h4,_⟩;omega),if_pos ⟨h,h2⟩]
theorem fracR_cut {t:List UInt8} (h:(numLen true t).2=true) (h2:(numLen true t).1<t.length) (h3:byt t (numLen true t).1=47):fracR t =
  if (numLen false (t.drop ((numLen true t).1+1))).2=true∧(t.drop ((numLen true t).1+1)).length≤(numLen false (t.drop ((numLen true t).1+1))).1 then
   if (body (t.take (numLen true t).1)).length≤1000∧(t.drop ((numLen true t).1+1)).length≤1000 then
    if frText (frN (parseZ (t.take (numLen true t).1)) (parseZ (t.drop ((numLen true t).1+1)))) (frD (parseZ (t.take (numLen true t).1)) (parseZ (t.drop ((numLen true t).1+1))))=t then
     (frN (parseZ (t.take (numLen true t).1)) (parseZ (t.drop ((numLen true t).1+1))),frD (parseZ (t.take (numLen true t).1)) (parseZ (t.drop ((numLen true t).1+1))),0,0)
    else (0,1,3,0)
   else (0,1,2,0)
  else (0,1,1,((numLen true t).1:Int)+1+(numLen false (t.drop ((numLen true t).1+1))).1):=by
 unfold fracR
 rw[if_pos ⟨h,h2,h3⟩]
def RetPF (w:World) (r:Int × Int × Int × Int) (e:Ending) (w':World):Prop:=
 ∃ x y:IV,e = .returned (.tuple #[.agg #[.bool x.n,.slice x.s.a x.s.len x.s.cap,.bool y.n,.slice y.s.a y.s.len y.s.cap],.agg #[.int .i64 r.2.2.1,.int .i64 r.2.2.2]])∧IsI w' x r.1∧IsI w' y (r.2.1-1)∧Ext w w'
theorem tail_ne {u:List UInt8} (h:(numLen false u).2=true) (hl:u.length≤(numLen false u).1) (hu:u.length≤1000):parseZ u≠0:=by
 obtain⟨hok,hne⟩:=tail_ok h hl
 have hc:parseC u=0:=by
  unfold parseC
  rw[if_pos hok,if_pos (by rw[body_length];omega)]
 intro h0
 have:=parse_dec hc
 rw[h0,dec_zero] at this
 exact hne this.symm
theorem trimE (t:List UInt8) (w:World) (hs:t.length≤9223372036854775807) :
  Calls Try.prog 57 #[.string (bs t),.string ⟨#[45]⟩] w (fun e w'=>e = .returned (.string (bs (body t)))∧Ext w w'):=(trimPre t w hs).mono fun _ _ h=>⟨h.1,h.2 ▸ Ext.rf _⟩
set_option maxRecDepth 100000 in
set_option maxHeartbeats 8000000 in
theorem parseFrac_any (t:List UInt8) (w:World) (ht:t.length≤9223372036854775807) :
  Calls Try.prog 20 #[.string (bs t)] w (RetPF w (fracR t)):=by
 obtain⟨n,hn⟩:∃ n,n=(numLen true t).1:=⟨_,rfl⟩
 obtain⟨ok,hok⟩:∃ ok,ok=(numLen true t).2:=⟨_,rfl⟩
 have hnl:n≤t.length:=by rw[hn];exact numLen_le true t
 have hFn:=fracR_no (t:=t)
 have hFw:=fracR_whole (t:=t)
 have hFc:=fracR_cut (t:=t)
 rw[←hn,←hok] at hFn hFw hFc
 replace hFc:=hd_ hFc
 replace hFn:=hd_ hFn
 replace hFw:=hd_ hFw
 replace hn:=hd_ hn;replace hok:=hd_ hok
 have V0:=(((Vs.nil w).add' (n:=w.heap.size) (vs:=#[Value.bool false,Value.slice none 0 0,Value.bool false,Value.slice none 0 0]) (T:=39) (by simp)).add' (n:=w.heap.size+1) (vs:=#[Value.int .i64 0,Value.int .i64 0]) (T:=27) (by simp))
 go_enter Try.func20,Try.ntmps20
 go_upto_region 1 with fail
 generalize ((w.alloc (Obj.cells #[Value.bool false,Value.slice none 0 0,Value.bool false,Value.slice none 0 0] 39)).alloc (Obj.cells #[Value.int .i64 0,Value.int .i64 0] 27))=W0 at *
 go_wp2_with fail
 (refine (number_any t true _ ht).mono ?_)
 rintro e W1 ⟨rfl,hxx⟩
 (rw[←hn.out,←hok.out])
 have V1:=V0.keep hxx
 clear V0 hxx
 go_upto_region 3 with fail
 cases ok
 ·have hF:=hd_ (hFn.out (.inl rfl))
  go_upto_region 7 with fail
  obtain⟨c2_0,c2_1,c2_2,c2_3,c2_4,c2_5,c2_6,c2_7⟩:=V1.facts4 1 rfl
  obtain⟨c3_0,c3_1,c3_2,c3_3⟩:=V1.facts 0 rfl
  go_wp2
  clear c2_0 c2_1 c2_2 c2_3 c2_4 c2_5 c2_6 c2_7 c3_0 c3_1 c3_2 c3_3
  replace V1:=V1.set4 1 rfl (Value.bool false) (Value.slice none 0 0) (Value.bool false) (Value.slice none 0 0)
  dsimp only[List.set] at V1
  replace V1:=V1.set2 0 rfl (Value.int .i64 1) (Value.int .i64 (n:Int))
  dsimp only[List.set] at V1
  generalize ((((((W1.setCell ⟨w.heap.size,0,none⟩ (Value.bool false)).setCell ⟨w.heap.size,1,none⟩ (Value.slice none 0 0)).setCell ⟨w.heap.size,2,none⟩ (Value.bool false)).setCell ⟨w.heap.size,3,none⟩ (Value.slice none 0 0)).setCell ⟨w.heap.size+1,0,none⟩ (Value.int .i64 1)).setCell ⟨w.heap.size+1,1,none⟩ (Value.int .i64 (n:Int)))=W2 at *
  have V2:=V1
  clear V1
  obtain⟨r2_0,r2_1,r2_2,r2_3,r2_4,r2_5,r2_6,r2_7⟩:=V2.facts4 1 rfl
  obtain⟨r3_0,r3_1,r3_2,r3_3⟩:=V2.facts 0 rfl
  go_wp2
  refine bodyPost_ret (v:=.tuple #[.agg #[Value.bool false,Value.slice none 0 0,Value.bool false,Value.slice none 0 0],.agg #[Value.int .i64 1,Value.int .i64 (n:Int)]]) (by simp[results,Try.results20,go_sem,r2_0,r2_1,r2_2,r2_3,r3_0,r3_1]) rfl ?_
  rw[hF.out];exact⟨zI,zI,rfl,isI_zero _,isI_one_less _,V2.ext⟩
 ·-- skip
  by_cases hlt:n<t.length
  ·by_cases h47:byt t n=47
   ·have hq:((byt t n:Int) == 47)=true:=by rw[beq_iff_eq];omega
    have hF:=hFc.out rfl hlt h47
    obtain⟨k,hk⟩:∃ k,k=(numLen false (t.drop (n+1))).1:=⟨_,rfl⟩
    obtain⟨more,hmore⟩:∃ more,more=(numLen false (t.drop (n+1))).2:=⟨_,rfl⟩
    rw[←hk,←hmore] at hF
    have hku:k≤(t.drop (n+1)).length:=by rw[hk];exact numLen_le false _
    rw[List.length_drop] at hku hF
    replace hk:=hd_ hk;replace hmore:=hd_ hmore;replace h47:=hd_ h47;replace hF:=hd_ hF
    have hul:(t.drop (n+1)).length≤9223372036854775807:=by rw[List.length_drop];omega
    go_upto_region 4 with fail
    go_wp2_with fail
    (refine (number_any (t.drop (n+1)) false _ hul).mono ?_)
    rintro e W2 ⟨rfl,hxx⟩
    (rw[←hk.out,←hmore.out])
    have V2:=V1.keep hxx
    clear V1 hxx
    go_upto_region 6 with fail
    cases more
    ·have hF2:=hd_ (hF.out.trans (if_neg (by simp)))
     go_upto_region 7 with fail
     obtain⟨c2_0,c2_1,c2_2,c2_3,c2_4,c2_5,c2_6,c2_7⟩:=V2.facts4 1 rfl
     obtain⟨c3_0,c3_1,c3_2,c3_3⟩:=V2.facts 0 rfl
     go_wp2
     clear c2_0 c2_1 c2_2 c2_3 c2_4 c2_5 c2_6 c2_7 c3_0 c3_1 c3_2 c3_3
     replace V2:=V2.set4 1 rfl (Value.bool false) (Value.slice none 0 0) (Value.bool false) (Value.slice none 0 0)
     dsimp only[List.set] at V2
     replace V2:=V2.set2 0 rfl (Value.int .i64 1) (Value.int .i64 ((n:Int)+1+(k:Int)))
     dsimp only[List.set] at V2
     generalize ((((((W2.setCell ⟨w.heap.size,0,none⟩ (Value.bool false)).setCell ⟨w.heap.size,1,none⟩ (Value.slice none 0 0)).setCell ⟨w.heap.size,2,none⟩ (Value.bool false)).setCell ⟨w.heap.size,3,none⟩ (Value.slice none 0 0)).setCell ⟨w.heap.size+1,0,none⟩ (Value.int .i64 1)).setCell ⟨w.heap.size+1,1,none⟩ (Value.int .i64 ((n:Int)+1+(k:Int))))=W3 at *
     have V3:=V2
     clear V2
     obtain⟨r2_0,r2_1,r2_2,r2_3,r2_4,r2_5,r2_6,r2_7⟩:=V3.facts4 1 rfl
     obtain⟨r3_0,r3_1,r3_2,r3_3⟩:=V3.facts 0 rfl
     go_wp2
     refine bodyPost_ret (v:=.tuple #[.agg #[Value.bool false,Value.slice none 0 0,Value.bool false,Value.slice none 0 0],.agg #[Value.int .i64 1,Value.int .i64 ((n:Int)+1+(k:Int))]]) (by simp[results,Try.results20,go_sem,r2_0,r2_1,r2_2,r2_3,r3_0,r3_1]) rfl ?_
     rw[hF2.out];exact⟨zI,zI,rfl,isI_zero _,isI_one_less _,V3.ext⟩
    ·-- skip
     by_cases hkl:n+1+k<t.length
     ·have hF2:=hd_ (hF.out.trans (if_neg (by rintro⟨_,h⟩;omega)))
      have hkI:(n:Int)+1+(k:Int)<t.length:=by omega
      go_upto_region 7 with fail
      obtain⟨c2_0,c2_1,c2_2,c2_3,c2_4,c2_5,c2_6,c2_7⟩:=V2.facts4 1 rfl
      obtain⟨c3_0,c3_1,c3_2,c3_3⟩:=V2.facts 0 rfl
      go_wp2
      clear c2_0 c2_1 c2_2 c2_3 c2_4 c2_5 c2_6 c2_7 c3_0 c3_1 c3_2 c3_3
      replace V2:=V2.set4 1 rfl (Value.bool false) (Value.slice none 0 0) (Value.bool false) (Value.slice none 0 0)
      dsimp only[List.set] at V2
      replace V2:=V2.set2 0 rfl (Value.int .i64 1) (Value.int .i64 ((n:Int)+1+(k:Int)))
      dsimp only[List.set] at V2
      generalize ((((((W2.setCell ⟨w.heap.size,0,none⟩ (Value.bool false)).setCell ⟨w.heap.size,1,none⟩ (Value.slice none 0 0)).setCell ⟨w.heap.size,2,none⟩ (Value.bool false)).setCell ⟨w.heap.size,3,none⟩ (Value.slice none 0 0)).setCell ⟨w.heap.size+1,0,none⟩ (Value.int .i64 1)).setCell ⟨w.heap.size+1,1,none⟩ (Value.int .i64 ((n:Int)+1+(k:Int))))=W3 at *
      have V3:=V2
      clear V2
      obtain⟨r2_0,r2_1,r2_2,r2_3,r2_4,r2_5,r2_6,r2_7⟩:=V3.facts4 1 rfl
      obtain⟨r3_0,r3_1,r3_2,r3_3⟩:=V3.facts 0 rfl
      go_wp2
      refine bodyPost_ret (v:=.tuple #[.agg #[Value.bool false,Value.slice none 0 0,Value.bool false,Value.slice none 0 0],.agg #[Value.int .i64 1,Value.int .i64 ((n:Int)+1+(k:Int))]]) (by simp[results,Try.results20,go_sem,r2_0,r2_1,r2_2,r2_3,r3_0,r3_1]) rfl ?_
      rw[hF2.out];exact⟨zI,zI,rfl,isI_zero _,isI_one_less _,V3.ext⟩
     ·-- skip
      have hF2:=hd_ (hF.out.trans (if_pos ⟨rfl,by omega⟩))
      have hkI:¬ (n:Int)+1+(k:Int)<t.length:=by omega
      have htl:List.take (n+1+k-(n+1)) (t.drop (n+1))=t.drop (n+1):=List.take_of_length_le (by rw[List.length_drop];omega)
      rw[htl]
      clear htl
      have hul2:(t.drop (n+1)).length=t.length-(n+1):=List.length_drop
      obtain⟨u,hu⟩:∃ u,u=t.drop (n+1):=⟨_,rfl⟩
      have hF2:=hF2.out
      have hk2:=hk.out
      have hm2:=hmore.out
      rw[←hu] at hF2 hul2 hk2 hm2 ⊢
      have hnt2:(t.take n).length≤9223372036854775807:=by simp;omega
      have hun:=tail_ne (u:=u) hm2.symm (by omega)
      clear hk2 hm2
      by_cases hb:(body (t.take n)).length≤1000∧t.length-(n+1)≤1000
      ·obtain⟨hb1,hb2⟩:=hb
       rw[if_pos ⟨hb1,hb2⟩] at hF2
       have hB1:decide ((1000:Int)<((body (t.take n)).length:Int))=false:=decide_eq_false (by omega)
       have hB2:decide ((1000:Int)<(u.length:Int))=false:=decide_eq_false (by omega)
       have hun2:=hun (by omega)
       replace hF2:=hd_ hF2
       replace hu:=hd_ hu
       have hul3:u.length≤9223372036854775807:=by omega
       replace hul2:=hd_ hul2
       clear hun
       go_upto_region 8 with fail
       go_wp2_with fail
       (refine (trimE (t.take n) _ hnt2).mono ?_)
       rintro e W3 ⟨rfl,hxx⟩
       have V3:=V2.keep hxx
       clear V2 hxx
       go_upto_region 10 with fail
       go_wp2_with fail
       (refine (parse_any (t.take n) _ hnt2).mono ?_)
       rintro e W4 ⟨xa,rfl,hxa,hxx⟩
       have V4:=V3.keep hxx
       clear V3 hxx
       go_upto_region 13 with fail
       replace V4:=V4.add' (n:=W4.heap.size) (vs:=#[Value.bool xa.n,Value.slice xa.s.a xa.s.len xa.s.cap]) (T:=37) (by simp)
       replace hxa:=hxa.keep ((Ext.rf _).al (Obj.cells #[Value.bool xa.n,Value.slice xa.s.a xa.s.len xa.s.cap] 37))
       replace V4:=V4.add' (n:=W4.heap.size+1) (vs:=#[Value.int .i64 (parseC (t.take n)),Value.int .i64 (parseP (t.take n))]) (T:=27) (by simp)
       replace hxa:=hxa.keep ((Ext.rf _).al (Obj.cells #[Value.int .i64 (parseC (t.take n)),Value.int .i64 (parseP (t.take n))] 27))
       generalize ((W4.alloc (Obj.cells #[Value.bool xa.n,Value.slice xa.s.a xa.s.len xa.s.cap] 37)).alloc (Obj.cells #[Value.int .i64 (parseC (t.take n)),Value.int .i64 (parseP (t.take n))] 27))=W5 at *
       have V5:=V4
       clear V4
       go_wp2_with fail
       (refine (parse_any u _ hul3).mono ?_)
       rintro e W6 ⟨xb,rfl,hxb,hxx⟩
       replace hxa:=hxa.keep hxx
       have V6:=V5.keep hxx
       clear V5 hxx
       go_upto_region 14 with fail
       replace V6:=V6.add' (n:=W6.heap.size) (vs:=#[Value.bool xb.n,Value.slice xb.s.a xb.s.len xb.s.cap]) (T:=37) (by simp)
       replace hxa:=hxa.keep ((Ext.rf _).al (Obj.cells #[Value.bool xb.n,Value.slice xb.s.a xb.s.len xb.s.cap] 37))
       replace hxb:=hxb.keep ((Ext.rf _).al (Obj.cells #[Value.bool xb.n,Value.slice xb.s.a xb.s.len xb.s.cap] 37))
       replace V6:=V6.add' (n:=W6.heap.size+1) (vs:=#[Value.int .i64 (parseC u),Value.int .i64 (parseP u)]) (T:=27) (by simp)
       replace hxa:=hxa.keep ((Ext.rf _).al (Obj.cells #[Value.int .i64 (parseC u),Value.int .i64 (parseP u)] 27))
       replace hxb:=hxb.keep ((Ext.rf _).al (Obj.cells #[Value.int .i64 (parseC u),Value.int .i64 (parseP u)] 27))
       generalize ((W6.alloc (Obj.cells #[Value.bool xb.n,Value.slice xb.s.a xb.s.len xb.s.cap] 37)).alloc (Obj.cells #[Value.int .i64 (parseC u),Value.int .i64 (parseP u)] 27))=W7 at *
       have V7:=V6
       clear V6
       obtain⟨c11_0,c11_1,c11_2,c11_3⟩:=V7.facts 3 rfl
       have c11_l4:=V7.lt 3 rfl
       obtain⟨c13_0,c13_1,c13_2,c13_3⟩:=V7.facts 1 rfl
       have c13_l4:=V7.lt 1 rfl
       go_wp2_with fail
       (with_reducible refine (lowest_any xa xb (parseZ (t.take n)) (parseZ u) 4000 _ (hxa) (hxb) (parseZ_bt (t.take n)) (parseZ_bt u) (by omega) hun2).mono ?_)
       rintro e W8 ⟨p,q,rfl,hp,hq,hxx⟩
       replace hxa:=hxa.keep hxx
       replace hxb:=hxb.keep hxx
       clear c11_0 c11_1 c11_2 c11_3 c11_l4 c13_0 c13_1 c13_2 c13_3 c13_l4
       have V8:=V7.keep hxx
       clear V7 hxx
       go_upto_region 15 with fail
       replace V8:=V8.add' (n:=W8.heap.size) (vs:=#[Value.bool p.n,Value.slice p.s.a p.s.len p.s.cap,Value.bool q.n,Value.slice q.s.a q.s.len q.s.cap]) (T:=39) (by simp)
       replace hxa:=hxa.keep ((Ext.rf _).al (Obj.cells #[Value.bool p.n,Value.slice p.s.a p.s.len p.s.cap,Value.bool q.n,Value.slice q.s.a q.s.len q.s.cap] 39))
       replace hxb:=hxb.keep ((Ext.rf _).al (Obj.cells #[Value.bool p.n,Value.slice p.s.a p.s.len p.s.cap,Value.bool q.n,Value.slice q.s.a q.s.len q.s.cap] 39))
       replace hp:=hp.keep ((Ext.rf _).al (Obj.cells #[Value.bool p.n,Value.slice p.s.a p.s.len p.s.cap,Value.bool q.n,Value.slice q.s.a q.s.len q.s.cap] 39))
       replace hq:=hq.keep ((Ext.rf _).al (Obj.cells #[Value.bool p.n,Value.slice p.s.a p.s.len p.s.cap,Value.bool q.n,Value.slice q.s.a q.s.len q.s.cap] 39))
       generalize (W8.alloc (Obj.cells #[Value.bool p.n,Value.slice p.s.a p.s.len p.s.cap,Value.bool q.n,Value.slice q.s.a q.s.len q.s.cap] 39))=W9 at *
       have V9:=V8
       clear V8
       have hsD:=hd_ ((frD_bt (a:=parseZ (t.take n)) (parseZ_bt u)).sm (by omega))
       obtain⟨c15_0,c15_1,c15_2,c15_3,c15_4,c15_5,c15_6,c15_7⟩:=V9.facts4 0 rfl
       go_wp2_with fail
       (with_reducible refine (ftext_any p q (frN (parseZ (t.take n)) (parseZ u)) (frD (parseZ (t.take n)) (parseZ u)) _ (hp) (hq) hsD.out).mono ?_)
       rintro e W10 ⟨rfl,hxx⟩
       replace hxa:=hxa.keep hxx
       replace hxb:=hxb.keep hxx
       replace hp:=hp.keep hxx
       replace hq:=hq.keep hxx
       clear c15_0 c15_1 c15_2 c15_3 c15_4 c15_5 c15_6 c15_7
       have V10:=V9.keep hxx
       clear V9 hxx
       go_upto_if 101 with fail
       obtain⟨bq,hbq⟩:∃ bq,bq=(!(frText (frN (parseZ (t.take n)) (parseZ u)) (frD (parseZ (t.take n)) (parseZ u)) == t)):=⟨_,rfl⟩
       rw[←hbq]
       by_cases heq:frText (frN (parseZ (t.take n)) (parseZ u)) (frD (parseZ (t.take n)) (parseZ u))=t
       ·have hF3:=hd_ (hF2.out.trans (if_pos heq))
        have hE1:bq=false:=by rw[hbq,beq_iff_eq.2 heq];rfl
        subst hE1
        replace hbq:=hd_ hbq
        replace heq:=hd_ heq
        go_upto_region 17 with fail
        obtain⟨c15_0,c15_1,c15_2,c15_3,c15_4,c15_5,c15_6,c15_7⟩:=V10.facts4 0 rfl
        obtain⟨c2_0,c2_1,c2_2,c2_3,c2_4,c2_5,c2_6,c2_7⟩:=V10.facts4 6 rfl
        obtain⟨c3_0,c3_1,c3_2,c3_3⟩:=V10.facts 5 rfl
        go_wp2
        clear c15_0 c15_1 c15_2 c15_3 c15_4 c15_5 c15_6 c15_7 c2_0 c2_1 c2_2 c2_3 c2_4 c2_5 c2_6 c2_7 c3_0 c3_1 c3_2 c3_3
        have KI:=V10.kept4 (U:=116) 6 rfl (by decide) (Value.bool p.n) (Value.slice p.s.a p.s.len p.s.cap) (Value.bool q.n) (Value.slice q.s.a q.s.len q.s.cap)
        replace hxa:=hxa.kept KI
        replace hxb:=hxb.kept KI
        replace hp:=hp.kept KI
        replace hq:=hq.kept KI
        clear KI
        replace V10:=V10.set4 6 rfl (Value.bool p.n) (Value.slice p.s.a p.s.len p.s.cap) (Value.bool q.n) (Value.slice q.s.a q.s.len q.s.cap)
        dsimp only[List.set] at V10
        have KI:=V10.kept2 (U:=116) 5 rfl (by decide) (Value.int .i64 0) (Value.int .i64 0)
        replace hxa:=hxa.kept KI
        replace hxb:=hxb.kept KI
        replace hp:=hp.kept KI
        replace hq:=hq.kept KI
        clear KI
        replace V10:=V10.set2 5 rfl (Value.int .i64 0) (Value.int .i64 0)
        dsimp only[List.set] at V10
        generalize ((((((W10.setCell ⟨w.heap.size,0,none⟩ (Value.bool p.n)).setCell ⟨w.heap.size,1,none⟩ (Value.slice p.s.a p.s.len p.s.cap)).setCell ⟨w.heap.size,2,none⟩ (Value.bool q.n)).setCell ⟨w.heap.size,3,none⟩ (Value.slice q.s.a q.s.len q.s.cap)).setCell ⟨w.heap.size+1,0,none⟩ (Value.int .i64 0)).setCell ⟨w.heap.size+1,1,none⟩ (Value.int .i64 0))=W11 at *
        have V11:=V10
        clear V10
        obtain⟨r2_0,r2_1,r2_2,r2_3,r2_4,r2_5,r2_6,r2_7⟩:=V11.facts4 6 rfl
        obtain⟨r3_0,r3_1,r3_2,r3_3⟩:=V11.facts 5 rfl
        go_wp2
        refine bodyPost_ret (v:=.tuple #[.agg #[Value.bool p.n,Value.slice p.s.a p.s.len p.s.cap,Value.bool q.n,Value.slice q.s.a q.s.len q.s.cap],.agg #[Value.int .i64 0,Value.int .i64 0]]) (by simp[results,Try.results20,go_sem,r2_0,r2_1,r2_2,r2_3,r3_0,r3_1]) rfl ?_
        rw[hF3.out];exact⟨p,q,rfl,hp,hq,V11.ext⟩
       ·-- skip
        have hF3:=hd_ (hF2.out.trans (if_neg heq))
        have hE1:bq=true:=by rw[hbq,beq_eq_false_iff_ne.2 heq];rfl
        subst hE1
        replace hbq:=hd_ hbq
        replace heq:=hd_ heq
        go_upto_region 16 with fail
        obtain⟨c2_0,c2_1,c2_2,c2_3,c2_4,c2_5,c2_6,c2_7⟩:=V10.facts4 6 rfl
        obtain⟨c3_0,c3_1,c3_2,c3_3⟩:=V10.facts 5 rfl
        go_wp2
        clear c2_0 c2_1 c2_2 c2_3 c2_4 c2_5 c2_6 c2_7 c3_0 c3_1 c3_2 c3_3
        have KI:=V10.kept4 (U:=116) 6 rfl (by decide) (Value.bool false) (Value.slice none 0 0) (Value.bool false) (Value.slice none 0 0)
        replace hxa:=hxa.kept KI
        replace hxb:=hxb.kept KI
        replace hp:=hp.kept KI
        replace hq:=hq.kept KI
        clear KI
        replace V10:=V10.set4 6 rfl (Value.bool false) (Value.slice none 0 0) (Value.bool false) (Value.slice none 0 0)
        dsimp only[List.set] at V10
        have KI:=V10.kept2 (U:=116) 5 rfl (by decide) (Value.int .i64 3) (Value.int .i64 0)
        replace hxa:=hxa.kept KI
        replace hxb:=hxb.kept KI
        replace hp:=hp.kept KI
        replace hq:=hq.kept KI
        clear KI
        replace V10:=V10.set2 5 rfl (Value.int .i64 3) (Value.int .i64 0)
        dsimp only[List.set] at V10
        generalize ((((((W10.setCell ⟨w.heap.size,0,none⟩ (Value.bool false)).setCell ⟨w.heap.size,1,none⟩ (Value.slice none 0 0)).setCell ⟨w.heap.size,2,none⟩ (Value.bool false)).setCell ⟨w.heap.size,3,none⟩ (Value.slice none 0 0)).setCell ⟨w.heap.size+1,0,none⟩ (Value.int .i64 3)).setCell ⟨w.heap.size+1,1,none⟩ (Value.int .i64 0))=W11 at *
        have V11:=V10
        clear V10
        obtain⟨r2_0,r2_1,r2_2,r2_3,r2_4,r2_5,r2_6,r2_7⟩:=V11.facts4 6 rfl
        obtain⟨r3_0,r3_1,r3_2,r3_3⟩:=V11.facts 5 rfl
        go_wp2
        refine bodyPost_ret (v:=.tuple #[.agg #[Value.bool false,Value.slice none 0 0,Value.bool false,Value.slice none 0 0],.agg #[Value.int .i64 3,Value.int .i64 0]]) (by simp[results,Try.results20,go_sem,r2_0,r2_1,r2_2,r2_3,r3_0,r3_1]) rfl ?_
        rw[hF3.out];exact⟨zI,zI,rfl,isI_zero _,isI_one_less _,V11.ext⟩
      ·rw[if_neg hb] at hF2
       replace hF2:=hd_ hF2
       replace hu:=hd_ hu
       clear hun
       by_cases hb1:(body (t.take n)).length≤1000
       ·-- skip
        have hB1:decide ((1000:Int)<((body (t.take n)).length:Int))=false:=decide_eq_false (by omega)
        have hB2:decide ((1000:Int)<(u.length:Int))=true:=decide_eq_true (by omega)
        replace hul2:=hd_ hul2
        replace hb:=hd_ hb
        go_upto_region 8 with fail
        go_wp2_with fail
        (refine (trimE (t.take n) _ hnt2).mono ?_)
        rintro e W3 ⟨rfl,hxx⟩
        have V3:=V2.keep hxx
        clear V2 hxx
        go_upto_region 9 with fail
        obtain⟨c2_0,c2_1,c2_2,c2_3,c2_4,c2_5,c2_6,c2_7⟩:=V3.facts4 1 rfl
        obtain⟨c3_0,c3_1,c3_2,c3_3⟩:=V3.facts 0 rfl
        go_wp2
        clear c2_0 c2_1 c2_2 c2_3 c2_4 c2_5 c2_6 c2_7 c3_0 c3_1 c3_2 c3_3
        replace V3:=V3.set4 1 rfl (Value.bool false) (Value.slice none 0 0) (Value.bool false) (Value.slice none 0 0)
        dsimp only[List.set] at V3
        replace V3:=V3.set2 0 rfl (Value.int .i64 2) (Value.int .i64 0)
        dsimp only[List.set] at V3
        generalize ((((((W3.setCell ⟨w.heap.size,0,none⟩ (Value.bool false)).setCell ⟨w.heap.size,1,none⟩ (Value.slice none 0 0)).setCell ⟨w.heap.size,2,none⟩ (Value.bool false)).setCell ⟨w.heap.size,3,none⟩ (Value.slice none 0 0)).setCell ⟨w.heap.size+1,0,none⟩ (Value.int .i64 2)).setCell ⟨w.heap.size+1,1,none⟩ (Value.int .i64 0))=W4 at *
        have V4:=V3
        clear V3
        obtain⟨r2_0,r2_1,r2_2,r2_3,r2_4,r2_5,r2_6,r2_7⟩:=V4.facts4 1 rfl
        obtain⟨r3_0,r3_1,r3_2,r3_3⟩:=V4.facts 0 rfl
        go_wp2
        refine bodyPost_ret (v:=.tuple #[.agg #[Value.bool false,Value.slice none 0 0,Value.bool false,Value.slice none 0 0],.agg #[Value.int .i64 2,Value.int .i64 0]]) (by simp[results,Try.results20,go_sem,r2_0,r2_1,r2_2,r2_3,r3_0,r3_1]) rfl ?_
        rw[hF2.out];exact⟨zI,zI,rfl,isI_zero _,isI_one_less _,V4.ext⟩
       ·-- skip
        have hB1:decide ((1000:Int)<((body (t.take n)).length:Int))=true:=decide_eq_true (by omega)
        replace hul2:=hd_ hul2
        replace hb:=hd_ hb
        go_upto_region 8 with fail
        go_wp2_with fail
        (refine (trimE (t.take n) _ hnt2).mono ?_)
        rintro e W3 ⟨rfl,hxx⟩
        have V3:=V2.keep hxx
        clear V2 hxx
        go_upto_region 9 with fail
        obtain⟨c2_0,c2_1,c2_2,c2_3,c2_4,c2_5,c2_6,c2_7⟩:=V3.facts4 1 rfl
        obtain⟨c3_0,c3_1,c3_2,c3_3⟩:=V3.facts 0 rfl
        go_wp2
        clear c2_0 c2_1 c2_2 c2_3 c2_4 c2_5 c2_6 c2_7 c3_0 c3_1 c3_2 c3_3
        replace V3:=V3.set4 1 rfl (Value.bool false) (Value.slice none 0 0) (Value.bool false) (Value.slice none 0 0)
        dsimp only[List.set] at V3
        replace V3:=V3.set2 0 rfl (Value.int .i64 2) (Value.int .i64 0)
        dsimp only[List.set] at V3
        generalize ((((((W3.setCell ⟨w.heap.size,0,none⟩ (Value.bool false)).setCell ⟨w.heap.size,1,none⟩ (Value.slice none 0 0)).setCell ⟨w.heap.size,2,none⟩ (Value.bool false)).setCell ⟨w.heap.size,3,none⟩ (Value.slice none 0 0)).setCell ⟨w.heap.size+1,0,none⟩ (Value.int .i64 2)).setCell ⟨w.heap.size+1,1,none⟩ (Value.int .i64 0))=W4 at *
        have V4:=V3
        clear V3
        obtain⟨r2_0,r2_1,r2_2,r2_3,r2_4,r2_5,r2_6,r2_7⟩:=V4.facts4 1 rfl
        obtain⟨r3_0,r3_1,r3_2,r3_3⟩:=V4.facts 0 rfl
        go_wp2
        refine bodyPost_ret (v:=.tuple #[.agg #[Value.bool false,Value.slice none 0 0,Value.bool false,Value.slice none 0 0],.agg #[Value.int .i64 2,Value.int .i64 0]]) (by simp[results,Try.results20,go_sem,r2_0,r2_1,r2_2,r2_3,r3_0,r3_1]) rfl ?_
        rw[hF2.out];exact⟨zI,zI,rfl,isI_zero _,isI_one_less _,V4.ext⟩
   ·-- skip
    have hF:=hd_ (hFn.out (.inr ⟨hlt,h47⟩))
    have hq:((byt t n:Int) == 47)=false:=by rw[beq_eq_false_iff_ne];omega
    replace h47:=hd_ h47
    go_upto_region 7 with fail
    obtain⟨c2_0,c2_1,c2_2,c2_3,c2_4,c2_5,c2_6,c2_7⟩:=V1.facts4 1 rfl
    obtain⟨c3_0,c3_1,c3_2,c3_3⟩:=V1.facts 0 rfl
    go_wp2
    clear c2_0 c2_1 c2_2 c2_3 c2_4 c2_5 c2_6 c2_7 c3_0 c3_1 c3_2 c3_3
    replace V1:=V1.set4 1 rfl (Value.bool false) (Value.slice none 0 0) (Value.bool false) (Value.slice none 0 0)
    dsimp only[List.set] at V1
    replace V1:=V1.set2 0 rfl (Value.int .i64 1) (Value.int .i64 (n:Int))
    dsimp only[List.set] at V1
    generalize ((((((W1.setCell ⟨w.heap.size,0,none⟩ (Value.bool false)).setCell ⟨w.heap.size,1,none⟩ (Value.slice none 0 0)).setCell ⟨w.heap.size,2,none⟩ (Value.bool false)).setCell ⟨w.heap.size,3,none⟩ (Value.slice none 0 0)).setCell ⟨w.heap.size+1,0,none⟩ (Value.int .i64 1)).setCell ⟨w.heap.size+1,1,none⟩ (Value.int .i64 (n:Int)))=W2 at *
    have V2:=V1
    clear V1
    obtain⟨r2_0,r2_1,r2_2,r2_3,r2_4,r2_5,r2_6,r2_7⟩:=V2.facts4 1 rfl
    obtain⟨r3_0,r3_1,r3_2,r3_3⟩:=V2.facts 0 rfl
    go_wp2
    refine bodyPost_ret (v:=.tuple #[.agg #[Value.bool false,Value.slice none 0 0,Value.bool false,Value.slice none 0 0],.agg #[Value.int .i64 1,Value.int .i64 (n:Int)]]) (by simp[results,Try.results20,go_sem,r2_0,r2_1,r2_2,r2_3,r3_0,r3_1]) rfl ?_
    rw[hF.out];exact⟨zI,zI,rfl,isI_zero _,isI_one_less _,V2.ext⟩
  ·-- skip
   have hF:=hd_ (hFw.out rfl (by omega))
   have hnt:Hd (t.take n=t):=hd_ (List.take_of_length_le (by omega))
   have hnt2:(t.take n).length≤9223372036854775807:=by simp;omega
   by_cases hb:(body t).length≤1000
   ·have hB:decide ((1000:Int)<((body (t.take n)).length:Int))=false:=by rw[hnt.out];exact decide_eq_false (by omega)
    have hF:=hd_ (hF.out.trans (if_pos hb))
    replace hb:=hd_ hb
    go_upto_region 8 with fail
    go_wp2_with fail
    (refine (trimE (t.take n) _ hnt2).mono ?_)
    rintro e W2 ⟨rfl,hxx⟩
    have V2:=V1.keep hxx
    clear V1 hxx
    go_upto_region 10 with fail
    go_wp2_with fail
    (refine (parse_any (t.take n) _ hnt2).mono ?_)
    rintro e W3 ⟨xa,rfl,hxa,hxx⟩
    have V3:=V2.keep hxx
    clear V2 hxx
    go_upto_region 12 with fail
    replace V3:=V3.add' (n:=W3.heap.size) (vs:=#[Value.bool xa.n,Value.slice xa.s.a xa.s.len xa.s.cap]) (T:=37) (by simp)
    replace hxa:=hxa.keep ((Ext.rf _).al (Obj.cells #[Value.bool xa.n,Value.slice xa.s.a xa.s.len xa.s.cap] 37))
    replace V3:=V3.add' (n:=W3.heap.size+1) (vs:=#[Value.int .i64 (parseC (t.take n)),Value.int .i64 (parseP (t.take n))]) (T:=27) (by simp)
    replace hxa:=hxa.keep ((Ext.rf _).al (Obj.cells #[Value.int .i64 (parseC (t.take n)),Value.int .i64 (parseP (t.take n))] 27))
    generalize ((W3.alloc (Obj.cells #[Value.bool xa.n,Value.slice xa.s.a xa.s.len xa.s.cap] 37)).alloc (Obj.cells #[Value.int .i64 (parseC (t.take n)),Value.int .i64 (parseP (t.take n))] 27))=W4 at *
    have V4:=V3
    clear V3
    obtain⟨c11_0,c11_1,c11_2,c11_3⟩:=V4.facts 1 rfl
    obtain⟨c2_0,c2_1,c2_2,c2_3,c2_4,c2_5,c2_6,c2_7⟩:=V4.facts4 3 rfl
    obtain⟨c3_0,c3_1,c3_2,c3_3⟩:=V4.facts 2 rfl
    go_wp2
    clear c11_0 c11_1 c11_2 c11_3 c2_0 c2_1 c2_2 c2_3 c2_4 c2_5 c2_6 c2_7 c3_0 c3_1 c3_2 c3_3
    have KI:=V4.kept4 (U:=116) 3 rfl (by decide) (Value.bool xa.n) (Value.slice xa.s.a xa.s.len xa.s.cap) (Value.bool false) (Value.slice none 0 0)
    replace hxa:=hxa.kept KI
    clear KI
    replace V4:=V4.set4 3 rfl (Value.bool xa.n) (Value.slice xa.s.a xa.s.len xa.s.cap) (Value.bool false) (Value.slice none 0 0)
    dsimp only[List.set] at V4
    have KI:=V4.kept2 (U:=116) 2 rfl (by decide) (Value.int .i64 0) (Value.int .i64 0)
    replace hxa:=hxa.kept KI
    clear KI
    replace V4:=V4.set2 2 rfl (Value.int .i64 0) (Value.int .i64 0)
    dsimp only[List.set] at V4
    generalize ((((((W4.setCell ⟨w.heap.size,0,none⟩ (Value.bool xa.n)).setCell ⟨w.heap.size,1,none⟩ (Value.slice xa.s.a xa.s.len xa.s.cap)).setCell ⟨w.heap.size,2,none⟩ (Value.bool false)).setCell ⟨w.heap.size,3,none⟩ (Value.slice none 0 0)).setCell ⟨w.heap.size+1,0,none⟩ (Value.int .i64 0)).setCell ⟨w.heap.size+1,1,none⟩ (Value.int .i64 0))=W5 at *
    have V5:=V4
    clear V4
    rw[hnt.out] at hxa
    obtain⟨r2_0,r2_1,r2_2,r2_3,r2_4,r2_5,r2_6,r2_7⟩:=V5.facts4 3 rfl
    obtain⟨r3_0,r3_1,r3_2,r3_3⟩:=V5.facts 2 rfl
    go_wp2
    refine bodyPost_ret (v:=.tuple #[.agg #[Value.bool xa.n,Value.slice xa.s.a xa.s.len xa.s.cap,Value.bool false,Value.slice none 0 0],.agg #[Value.int .i64 0,Value.int .i64 0]]) (by simp[results,Try.results20,go_sem,r2_0,r2_1,r2_2,r2_3,r3_0,r3_1]) rfl ?_
    rw[hF.out];exact⟨xa,zI,rfl,hxa,isI_one_less _,V5.ext⟩
   ·-- skip
    have hB:decide ((1000:Int)<((body (t.take n)).length:Int))=true:=by rw[hnt.out];exact decide_eq_true (by omega)
    have hF:=hd_ (hF.out.trans (if_neg hb))
    replace hb:=hd_ hb
    go_upto_region 8 with fail
    go_wp2_with fail
    (refine (trimE (t.take n) _ hnt2).mono ?_)
    rintro e W2 ⟨rfl,hxx⟩
    have V2:=V1.keep hxx
    clear V1 hxx
    go_upto_region 9 with fail
    obtain⟨c2_0,c2_1,c2_2,c2_3,c2_4,c2_5,c2_6,c2_7⟩:=V2.facts4 1 rfl
    obtain⟨c3_0,c3_1,c3_2,c3_3⟩:=V2.facts 0 rfl
    go_wp2
    clear c2_0 c2_1 c2_2 c2_3 c2_4 c2_5 c2_6 c2_7 c3_0 c3_1 c3_2 c3_3
    replace V2:=V2.set4 1 rfl (Value.bool false) (Value.slice none 0 0) (Value.bool false) (Value.slice none 0 0)
    dsimp only[List.set] at V2
    replace V2:=V2.set2 0 rfl (Value.int .i64 2) (Value.int .i64 0)
    dsimp only[List.set] at V2
    generalize ((((((W2.setCell ⟨w.heap.size,0,none⟩ (Value.bool false)).setCell ⟨w.heap.size,1,none⟩ (Value.slice none 0 0)).setCell ⟨w.heap.size,2,none⟩ (Value.bool false)).setCell ⟨w.heap.size,3,none⟩ (Value.slice none 0 0)).setCell ⟨w.heap.size+1,0,none⟩ (Value.int .i64 2)).setCell ⟨w.heap.size+1,1,none⟩ (Value.int .i64 0))=W3 at *
    have V3:=V2
    clear V2
    obtain⟨r2_0,r2_1,r2_2,r2_3,r2_4,r2_5,r2_6,r2_7⟩:=V3.facts4 1 rfl
    obtain⟨r3_0,r3_1,r3_2,r3_3⟩:=V3.facts 0 rfl
    go_wp2
    refine bodyPost_ret (v:=.tuple #[.agg #[Value.bool false,Value.slice none 0 0,Value.bool false,Value.slice none 0 0],.agg #[Value.int .i64 2,Value.int .i64 0]]) (by simp[results,Try.results20,go_sem,r2_0,r2_1,r2_2,r2_3,r3_0,r3_1]) rfl ?_
    rw[hF.out];exact⟨zI,zI,rfl,isI_zero _,isI_one_less _,V3.ext⟩
end Go.Proofs.Ytdjbfgfbpimakaa
