/- Lemmas. -/
import Derived.Test.YtdchbabgopglcaaC17
import Derived.Lib.LazyBuf
namespace Go.Proofs.Ytdchbabgopglcaa
open Go.RowKit
set_option maxRecDepth 100000
set_option maxHeartbeats 2000000
theorem fN:(Try.prog.info? (ET .u8)).map (fun i=>(i.zero,i.size,i.bytes))=some (some (.int .u8 0),1,1):=by kernel_rfl
theorem Fc (s:SV) (l:List Int) (w:World) (h:IsL w s .u32 l) (h0:0<l.length) (hl:l.length≤1099511627776) :
  Calls Try.prog 63 #[.slice s.a s.len s.cap] w (fun e w' => ∃s',e = .returned (.slice (SV.a s') (SV.len s') (SV.cap s'))∧Rw w' w.heap.size .u32 s' l∧Ext w w'):=by
 obtain⟨ao,cap,rfl,hcap,hcm,hop⟩:=h.open_;obtain⟨b,off,rfl,hb,hc⟩:=hop h0;have hbl:=hb.lt;have hnil:=fun (w:World)=>Lib.run_eql_slice_nil (P:=Try.prog) w 60 100 (some ⟨b,off,none⟩) l.length cap 0 0 Try.underlying60
 replace hc:=hd_ hc;obtain⟨i0,hi,hz0,hz1,hz2⟩:=info_parts dZ;go_enter Try.func63,Try.ntmps63;go_wp2_with (at_builtin;refine wpList_append_own _ rfl _ _ 60 rfl w.heap.size 100 i0 (.int .u32 0) 1 4 Try.underlying60 hi hz0 hz1 hz2 rfl (by decide) (.slice (some ⟨w.heap.size,0,none⟩) 0 0) 0 [] rfl (World.ownsRow_made w #[] 0 (Nat.le_refl _) (by unfold maxLen;omega) rfl) ⟨b,off,none⟩ l.length cap (l.map (Value.int .u32)) rfl (by simp) ?c2 ?c3 (by unfold maxLen;omega) (by omega) (by simp) ?_)
 case c2 =>
  intro j u hu;have hj:j<l.length:=by
   have:=(List.getElem?_eq_some_iff.1 hu).1;simpa using this
  rw[Addr.add_lit,World.cell?_alloc_lt _ _ _ (by exact hbl),hc.out j hj,←hu];simp[at_,hj]
 case c3=>exact ints_oneCell _ _
 intro v' w1 hown hgr hnilv;go_wp2;go_ret;have hform:∃s':SV,v' = .slice s'.a s'.len s'.cap:=by
  rcases hown.2 with⟨e,_⟩ | ⟨g,cap,cur,e,_⟩
  ·exact⟨⟨none,0,0⟩,e⟩
  ·exact⟨⟨some ⟨g,0,none⟩,_,cap⟩,e⟩
 obtain⟨s',rfl⟩:=hform;refine⟨s',rfl,?_,(((Ext.rf w).al _).gr hgr (fun k hk=>by simp[Value.ownBlock] at hk;omega))⟩;exact hown
theorem k8 {l:List Int}{t:Nat} (h:t<l.length):at_ l.reverse t=at_ l (l.length-1-t):=by
 rw[eu (by simpa using h),eu (by omega),List.getElem_reverse]
theorem oO (base:Nat) (s:SV) (l:List Int) (w:World) (h:Rw w base .u8 s l) (h0:0<l.length) (_hf:∀x∈l,Fit .u8 x) :
  Calls Try.prog 64 #[.slice s.a s.len s.cap] w (fun e w'=>e = .returned (.tuple #[])∧Rw w' base .u8 s l.reverse∧Below base w w'):=by
 obtain⟨g,cap,rfl,hgb,hgt,hcap,hcm,_,_⟩:=h.open_ h0;go_enter Try.func64,Try.ntmps64;go_wp2;go_loopw [2,3] (fun i j wr => ∃(k:Nat) (l2:List Int),i = .int .i64 k∧j = .int .i64 ((l.length:Int)-1-k)∧k≤l.length∧Rw wr base .u8 ⟨some ⟨g,0,none⟩,l.length,cap⟩ l2∧l2.length=l.length ∧
   (∀t,at_ l2 t=if t<k∨l.length≤t+k then at_ l.reverse t else at_ l t)∧Below base w wr) (fun i _ _=>l.length-(intOf i).toNat)
 case atStart=>exact⟨0,l,rfl,by simp,Nat.zero_le _,h,rfl,fun t=>by
  split
  ·rw[a8 (by omega),a8 (by simp;omega)]
  ·rfl,Below.refl _ _⟩
 case round =>
  obtain⟨k,l2,rfl,rfl,hk,hrw,hl2,hat,hbel⟩:=hrel;replace hat:=hd_ hat;replace hl2:=hd_ hl2;have hrw2:Rw wr base .u8 ⟨some ⟨g,0,none⟩,l2.length,cap⟩ l2:=by rw[hl2.out];exact hrw
  by_cases hlt:2*k+1<l.length
  ·obtain⟨j,hj⟩:∃j:Nat,((l.length:Int)-1-k)=(j:Int):=⟨l.length-1-k,by omega⟩
   have hjk:k<j:=by omega
   have hjl:j<l.length:=by omega
   have hj':l.length=j+1+k:=by omega
   rw[hj];obtain⟨g',cap',hsv,_,_,_,_,hgc,hgf⟩:=hrw2.open_ (by rw[hl2.out];omega);rw[SV.mk.injEq,Option.some.injEq,Addr.mk.injEq] at hsv;obtain⟨⟨rfl,-⟩,-,rfl⟩:=hsv;have gk:=hgc k (by rw[hl2.out];omega);have gj:=hgc j (by rw[hl2.out];omega);have fk:=hgf k;have fj:=hgf j;clear hgc hgf;replace hj:=hd_ hj;replace hj':=hd_ hj';go_wp2;go_region;all_goals go_wp2
   go_roundw
   case rel =>
    refine⟨k+1,(l2.set k (at_ l2 j)).set j (at_ l2 k),by go_num,by congr 1;have:=hj'.out;omega,by omega,(hrw.set' k _).set' j _,by simp[hl2.out],fun t => ?_,((hbel.setCell (p:=⟨g,k,none⟩) hgb _).setCell (p:=⟨g,j,none⟩) hgb _).drew⟩;have hjj:=hj'.out;have a1:=hat.out t;have ak:=hat.out k;have aj:=hat.out j;rw[if_neg (by omega)] at ak aj;by_cases e1:t=j
    ·subst e1;rw[fu (by simp[hl2.out];exact hjl),if_pos (by omega),ak,k8 hjl];congr 1;omega
    ·rw[co (by omega)];by_cases e2:t=k
     ·subst e2;rw[fu (by rw[hl2.out];omega),if_pos (by omega),aj,k8 (by omega)];congr 1;omega
     ·rw[co (by omega),a1];by_cases e3:t<k∨l.length≤t+k
      ·rw[if_pos e3,if_pos (by omega)]
      ·rw[if_neg e3,if_neg (by omega)]
   case measure=>first | (simp[intOf];done) | (simp[intOf];omega)
  ·have hfin:l2=l.reverse:=by
    apply gS (by rw[hl2.out];simp);intro t;have a1:=hat.out t;split at a1
    ·exact a1
    ·rw[a1,k8 (by omega)];congr 1;omega
   subst hfin;go_wp2;go_end0;exact⟨rfl,hrw,hbel⟩
theorem oP {n k:Nat} (h:n<2^k):(aW n).length≤k:=by
 induction k generalizing n with
 |zero =>
      obtain rfl:n=0:=by simpa using h
      rw[bX];simp
 |succ k ih =>
  rcases Nat.eq_zero_or_pos n with h0 | h0
  ·subst h0;rw[bX];simp
  ·rw[bJ h0,List.length_cons];rw[Nat.pow_succ] at h;have:=ih (n:=n / 10) (by omega);omega
theorem Fd {n k:Nat} (h:n<2^(k+3)):(aW n).length≤k+1:=by
 rcases Nat.eq_zero_or_pos n with h0 | h0
 ·subst h0;rw[bX];simp
 ·rw[bJ h0,List.length_cons];have h1:2^(k+3)=2^k*8:=Nat.pow_add 2 k 3;have:=oP (n:=n / 10) (k:=k) (by omega);omega
theorem valL_drop {l:List Int}{k:Nat} (h:k<l.length):valL (l.drop k)=at_ l k+4294967296*valL (l.drop (k+1)):=by
 rw[List.drop_eq_getElem_cons h,valL,eu h]
theorem Fe {a b:List Int} (hl:a.length=b.length){k:Nat} (h:∀j,k≤j→at_ a j=at_ b j):a.drop k=b.drop k:=by
 apply gS (by simp[hl]);intro j;have:=h (k+j) (by omega);simpa[at_] using this
theorem Ff {a b:List Int} (hn:Norm a) (da:Dig a) (db:Dig b) (hl:b.length=a.length){r:Int} (hr:0≤r∧r<1000000000) (hv:valL a=valL b*1000000000+r) (h0:at_ b (a.length-1)=0):Norm (b.take (a.length-1)):=by
 rcases Nat.lt_or_ge a.length 2 with h2 | h2
 ·left
  rw[show a.length-1=0 by omega];simp
 ·right
  have hlen:(b.take (a.length-1)).length=a.length-1:=by simp;omega
  rw[hlen];intro e;have e':at_ b (a.length-2)=0:=by
   simp only[at_,List.getD_eq_getElem?_getD,List.getElem?_take] at e ⊢;rw[show a.length-2=a.length-1-1 by omega];rw[if_pos (by omega)] at e;exact e
  have hz:∀j,a.length-2≤j→at_ b j=0:=by
   intro j hj;by_cases h1:j=a.length-2
   ·rw[h1];exact e'
   ·by_cases h2:j=a.length-1
    ·rw[h2];exact h0
    ·exact a8 (by omega)
  have hb:valL b<4294967296^(a.length-2):=by
   rw[←valL_take hz];have:=valL_lt (l:=b.take (a.length-2)) (fun x hx=>db x (List.mem_of_mem_take hx))
   rwa[show (b.take (a.length-2)).length=a.length-2 by simp;omega] at this
  rcases hn with hn | hn
  ·rw[hn] at h2;simp at h2
  ·have ha:=valL_ge da hn;rw[show a.length-1=a.length-2+1 by omega,Int.pow_succ] at ha;have hpp:=pow_pos' (a.length-2);generalize (4294967296:Int)^(a.length-2)=p at *;omega
theorem Fg {p x:Int} (hp:0≤p∧p<1000000000) (hx:0≤x∧x≤4294967295):bits BinOp.or IntKind.u64 (p*4294967296) x=p*4294967296+x:=by
 rw[u64_or _ _ (by omega) (by omega) (by omega) (by omega)];rw[nat_join 32 _ _ (by omega) (by omega)];omega
theorem fO (m:List UInt8) (c:UInt8):aS (m++[c])=aS m++[(c.toNat:Int)]:=by simp[aS]
theorem oQ (m:List UInt8):(aS m).reverse=aS m.reverse:=by simp[aS]
theorem oR (m:List UInt8):strOfNums (aS m)=bs m:=by
 have:(strOfNums (aS m)).data.toList=(bs m).data.toList:=by
  rw[strOfNums_data];have e:((fun n:Int=>UInt8.ofNat n.toNat) ∘ fun c:UInt8=>(c.toNat:Int))=id:=funext fun c=>by simp
  simp[aS,e,bs]
 cases h1:strOfNums (aS m);rw[h1] at this;unfold bs at *;congr 1
 apply Array.toList_inj.1;simpa using this
theorem oS {k p q:Nat} (hk:k<9) (hp:0<p+10^(9-k)*q):aW (p+10^(9-k)*q)=dch (p % 10)::aW (p / 10+10^(9-(k+1))*q):=by
 obtain⟨j,hj⟩:∃j,9-k=j+1:=⟨8-k,by omega⟩
 have hj2:9-(k+1)=j:=by omega
 rw[hj] at hp ⊢;rw[hj2,bJ hp];have e:10^(j+1)*q=10*(10^j*q):=by rw[Nat.pow_succ];grind
 rw[e];generalize 10^j*q=T;rw[show (p+10*T) % 10=p % 10 by omega,show (p+10*T) / 10=p / 10+T by omega]
theorem oT {k p:Nat} (hk:k<9) (hp:p<10^(9-k)):p / 10<10^(9-(k+1)):=by
 obtain⟨j,hj⟩:∃j,9-k=j+1:=⟨8-k,by omega⟩
 rw[hj,Nat.pow_succ] at hp;rw[show 9-(k+1)=j by omega];omega
theorem oU {k:Nat}:10^(9-k)≤1000000000:=by
 have:=Nat.pow_le_pow_right (n:=10) (by omega) (show 9-k≤9 by omega);simpa using this
theorem Fh (m:List UInt8):aS m++[45]=aS (m++[45]):=by rw[fO];rfl
theorem oV {P:Program}{w:World}{base:Nat}{s:SV}{m:List UInt8}{src dst:TypeId} (h:Rw w base .u8 s (aS m)) (hm:0<m.length) (hs:P.underlying src=some (.slice (ET .u8))) (he:P.underlying (ET .u8)=some (.int .u8)) (hd:P.underlying dst=some .string) :
  (convert src dst (.slice s.a s.len s.cap)).run P w = .ok (.string (bs m)) w:=by
 obtain⟨g,cap,rfl,_,_,_,_,hc,_⟩:=h.open_ (by simpa using hm);have:=run_convert_bytes_arg (P:=P) w src (ET .u8) hs he g 0 (aS m).length cap (aS m) rfl (fun i hi=>by rw[Nat.zero_add];exact hc i hi) dst hd;rw[oR] at this;exact this
def ip:Value→Nat | .slice _ n _=>n | _=>0
theorem text_any (x:IV) (z:Int) (w:World) (h:IsI w x z) :
  Calls Try.prog 52 #[.agg #[.bool x.n,.slice x.s.a x.s.len x.s.cap]] w (fun e w'=>e = .returned (.string (bs (dec z)))∧Ext w w'):=by
 obtain⟨la,hla,na,da,hlea,hza,h0a,hsa⟩:=h.open_;obtain⟨nx,sx⟩:=x;have he0:=(Ext.rf w).al (Obj.cells #[Value.bool nx,Value.slice sx.a sx.len sx.cap] 62);have hsl:sx.len=la.length:=hla.1.1;by_cases hl0:la.length=0
 ·have HD:Hd (dec z=[48]):=hd_ (by
   have e:=List.eq_nil_of_length_eq_zero hl0;have:=h0a e;simp only at this;subst this;rw[hza,e]
   rfl)
  rw[hl0] at hsl;obtain⟨ao,n,cap⟩:=sx;simp only at hsl;subst hsl;clear hla na da hlea hza h0a hsa hl0;go_enter Try.func52,Try.ntmps52;go_wp2;go_ret;exact⟨by rw[HD.out];rfl,(Ext.rf _).al _⟩
 ·have hvp:0<valL la:=valL_pos' da na (fun e=>hl0 (by rw[e];rfl));obtain⟨N,hN⟩:=Int.eq_ofNat_of_zero_le (Int.le_of_lt hvp);have hNp:0<N:=by omega
  have hNb:N<2^dH:=by
   have:=hsa.bt;unfold Bt at this;rw[hza,fx,hN] at this;simpa using this
  have hrl:=Fd (n:=N) (k:=dH-3) (by rw[show dH-3+3=dH by rw[gU]];exact hNb);rw[gU] at hrl;have HD:Hd (dec z=(aW N++if nx then [45] else []).reverse):=hd_ (by
   rw[hza,hN];unfold dec cr sg;cases nx
   ·simp only[Bool.false_eq_true,if_false];rw[if_neg (by omega),if_neg (by omega)];simp
   ·simp only[if_true];rw[if_pos (by omega),if_neg (by omega)];simp)
  have hl1:((la.length:Int) == 0)=false:=by rw[beq_eq_false_iff_ne];omega
  have hlpos:0<la.length:=by omega
  obtain⟨ao,n,cap⟩:=sx;simp only at hsl;subst hsl;replace hN:=hd_ hN;replace hla:=hd_ hla;replace hNb:=hd_ hNb;clear hza h0a hsa hl0 hvp;go_enter Try.func52,Try.ntmps52;go_wp2_with (go_at_call 63;((with_reducible refine (Fc ⟨ao,la.length,cap⟩ la _ (hla.out.keep ((Ext.rf w).al _)) hlpos (by omega)).mono ?_);rintro e w1 ⟨s1,rfl,hrw1,hx1⟩));go_loopw [3,4] (fun o r wr => ∃(so sr:SV) (L:List UInt8) (lr:List Int) (q:Nat),o = .slice so.a so.len so.cap∧r = .slice sr.a sr.len sr.cap∧Rw wr (w.heap.size+1) .u8 so (aS L)∧Rw wr (w.heap.size+1) .u32 sr lr∧Dig lr∧Norm lr∧valL lr=q ∧
    L++aW q=aW N∧lr.length≤la.length∧so.len=L.length∧sr.len=lr.length∧Ext (w.alloc (Obj.cells #[Value.bool nx,Value.slice ao la.length cap] 62)) wr) (fun o _ _=>8796093022208-ip o)
  case atStart=>exact⟨⟨none,0,0⟩,s1,[],la,N,rfl,rfl,Rw.nil_ _ _ _,by simpa using hrw1,da,na,hN.out,by simp,Nat.le_refl _,rfl,hrw1.len,hx1⟩
  case round =>
   clear hrw1 hx1;obtain⟨so,sr,L,lr,q,rfl,rfl,hro,hrr,hdr,hnr,hvr,hL,hll,hsol,hsrl,hx⟩:=hrel;obtain⟨oa,on,oc⟩:=so;obtain⟨ra,rn,rc⟩:=sr;simp only at hsol hsrl;subst hsol;subst hsrl;replace hL:=hd_ hL;replace hvr:=hd_ hvr;replace hnr:=hd_ hnr;obtain⟨hc1,hf1⟩:=cU hx;have hsz:=hx.size;simp only[World.size_alloc] at hsz;by_cases hlt:0<lr.length
   ·obtain⟨g,cap',hsv,hgb,hgt,hcap,hcm,_,_⟩:=hrr.open_ hlt;rw[SV.mk.injEq] at hsv;obtain⟨rfl,-,rfl⟩:=hsv;go_wp2;go_loopw [6,5] (fun i p wi => ∃(k:Nat) (pp:Int) (l2:List Int),i = .int .i64 ((k:Int)-1)∧p = .int .u64 pp∧k≤lr.length∧0≤pp∧pp<1000000000∧Rw wi (w.heap.size+1) .u32 ⟨some ⟨g,0,none⟩,lr.length,rc⟩ l2∧Rw wi (w.heap.size+1) .u8 ⟨oa,L.length,oc⟩ (aS L) ∧
      l2.length=lr.length∧Dig l2∧valL (lr.drop k)=valL (l2.drop k)*1000000000+pp∧(∀j,j<k→at_ l2 j=at_ lr j)∧Ext (w.alloc (Obj.cells #[Value.bool nx,Value.slice ao la.length cap] 62)) wi) (fun i _ _=>(intOf i+1).toNat)
    case atStart=>exact⟨lr.length,0,lr,rfl,rfl,Nat.le_refl _,by omega,by omega,hrr,hro,rfl,hdr,by simp[valL],fun _ _=>rfl,hx⟩
    case round =>
     clear hrr hro hx hc1 hf1 hsz;obtain⟨k,pp,l2,rfl,rfl,hk,hp0,hp1,hrr,hro,hl2,hdl2,hval,hlow,hx⟩:=hrel;replace hval:=hd_ hval;replace hlow:=hd_ hlow;replace hl2:=hd_ hl2
     match k,hk,hval,hlow with
     |0,hk,hval,hlow =>
      have hv:=hval.out;rw[List.drop_zero,List.drop_zero,hvr.out] at hv;replace hv:=hd_ hv;clear hval hlow;rw[show ((0:Nat):Int)-1 = -1 from rfl];obtain⟨g',cap',hsv,_,_,_,_,hgc,hgf⟩:=(show Rw wr (w.heap.size+1) .u32 ⟨some ⟨g,0,none⟩,l2.length,rc⟩ l2 by rw[hl2.out];exact hrr).open_ (by rw[hl2.out];exact hlt);rw[SV.mk.injEq,Option.some.injEq,Addr.mk.injEq] at hsv;obtain⟨⟨rfl,-⟩,-,rfl⟩:=hsv;obtain⟨m,hm⟩:∃m,lr.length=m+1:=⟨lr.length-1,by omega⟩
      have gc:=hgc m (by rw[hl2.out];omega);have hfm:=hdl2.at_ m;clear hgc hgf;have hmb:m≤274877906945:=by omega
      have hmc:m+1≤rc:=by omega
      rw[hm];have c1:((m+1:Nat):Int)-1=(m:Int):=by omega
      have c2:((m+1:Nat):Int)=(m:Int)+1:=by omega
      simp only[c1];simp only[c2];clear c1 c2;by_cases htop:at_ l2 m=0
      ·have htop':(at_ l2 m == 0)=true:=by simp[htop]
       replace htop:=hd_ htop;replace hm:=hd_ hm;have hn3:Norm (l2.take m):=by
        have:=Ff hnr.out hdr hdl2 hl2.out ⟨hp0,hp1⟩ (hvr.out.trans hv.out) (by rw[hm.out];exact htop.out)
        rwa[hm.out] at this
       replace hn3:=hd_ hn3;have hv3:valL (l2.take m)=valL l2:=valL_take (fun j hj=>by
        by_cases e:j=m
        ·rw[e];exact htop.out
        ·exact a8 (by rw[hl2.out,hm.out];omega))
       have hv4:(q:Int)=valL (l2.take m)*1000000000+pp:=by rw[hv3];exact hv.out
       replace hv4:=hd_ hv4;clear hv3;have hl3:(l2.take m).length=m:=by rw[List.length_take,hl2.out,hm.out];omega
       have hd3:Dig (l2.take m):=fun x hx=>hdl2 x (List.mem_of_mem_take hx)
       have hr3:=hrr.take (m:=m) (by rw[hm.out];omega);generalize l2.take m=l3 at *;obtain⟨q3,hq3⟩:=Int.eq_ofNat_of_zero_le (valL_nonneg hd3);have hq30:q3=0↔m=0:=by
        have h1:=valL_eq_zero hd3 hn3.out;rw[hq3] at h1;constructor
        ·intro h;have:=h1.1 (by rw[h];rfl);rw[←hl3,this];rfl
        ·intro h;have:=h1.2 (List.eq_nil_of_length_eq_zero (by rw[hl3,h]));omega
       replace hq30:=hd_ hq30;obtain⟨p0,rfl⟩:=Int.eq_ofNat_of_zero_le hp0;have hqq:q=p0+10^9*q3:=by have:=hv4.out;rw[hq3] at this;omega
       have hqp:0<q:=by
        rcases Nat.eq_zero_or_pos q with h0 | h0
        ·exfalso
         have h1:=hvr.out;rw[h0] at h1;have h2:=(valL_eq_zero hdr hnr.out).1 h1;rw[h2] at hlt;simp at hlt
        ·exact h0
       have hLL:=congrArg List.length hL.out;rw[List.length_append] at hLL;have hLn:L.length<8796093022208:=by
        have:0<(aW q).length:=by rw[bJ hqp];simp
        omega
       replace hLL:=hd_ hLL;replace hqq:=hd_ hqq;replace hq3:=hd_ hq3;go_wp2;go_loopw [7,3,5] (fun kk o pt wi => ∃(k:Nat) (so:SV) (L2:List UInt8) (p:Nat),kk = .int .i64 k∧o = .slice so.a so.len so.cap∧pt = .int .u64 p∧k≤9∧p<10^(9-k)∧Rw wi (w.heap.size+1) .u8 so (aS L2)∧Rw wi (w.heap.size+1) .u32 ⟨some ⟨g,0,none⟩,m,rc⟩ l3 ∧
         so.len=L2.length∧L2++aW (p+10^(9-k)*q3)=aW N∧L.length+(if k=0 then 0 else 1)≤L2.length∧(k=0→p=p0)∧Ext (w.alloc (Obj.cells #[Value.bool nx,Value.slice ao la.length cap] 62)) wi) (fun kk _ _ _=>9-(intOf kk).toNat)
       case atStart=>exact⟨0,⟨oa,L.length,oc⟩,L,p0,rfl,rfl,rfl,by omega,by simpa using (show p0<1000000000 by omega),hro,hr3,rfl,by rw[show p0+10^(9-0)*q3=q from hqq.out.symm];exact hL.out,by simp,fun _=>rfl,hx⟩
       case round =>
        clear hro hr3 hx gc;obtain⟨k,so,L2,p,rfl,rfl,rfl,hk9,hpk,hro,hr3,hsol,hL2,hLk,hpz,hx⟩:=hrel;obtain⟨oa2,on2,oc2⟩:=so;simp only at hsol;subst hsol;have h10:=oU (k:=k);have hpb:p<1000000000:=by omega
        have hL2b:L2.length≤8796093022208:=by
         have:=congrArg List.length hL2;rw[List.length_append] at this;omega
        replace hpk:=hd_ hpk;replace hL2:=hd_ hL2;replace hpz:=hd_ hpz;replace hLk:=hd_ hLk;clear h10;replace hL2b:=hd_ hL2b;clear hp0 hp1;by_cases hgo:k<9∧(0<p∨0<m)
        ·obtain⟨hk,hgo⟩:=hgo;have hVp:0<p+10^(9-k)*q3:=by
          rcases hgo with h | h
          ·omega
          ·have h3:0<q3:=by
            rcases Nat.eq_zero_or_pos q3 with h3 | h3
            ·have:=hq30.out.1 h3;omega
            ·exact h3
           have:=Nat.mul_pos (Nat.pow_pos (n:=9-k) (show 0<10 by omega)) h3;omega
         have hnx:=oS hk hVp;replace hL2b:=hd_ (show L2.length<8796093022208 by
          have g1:=congrArg List.length hL2.out;rw[List.length_append] at g1;have g2:0<(aW (p+10^(9-k)*q3)).length:=by rw[bJ hVp];simp
          omega)
         replace hVp:=hd_ hVp;replace hnx:=hd_ hnx;have hsm:=hd_ (oT hk hpk.out);have hm10:p % 10<10:=Nat.mod_lt _ (by omega);rcases hgo with hp | hp
         ·clear hrl hlpos hq30 hpz;go_wp2_with ((refine dO _ rfl _ _ 101 rfl .u8 1 Try.underlying101 fN (w.alloc (Obj.cells #[Value.bool nx,Value.slice ao la.length cap] 62)) ⟨oa2,L2.length,oc2⟩ (aS L2) _ rfl rfl (by simpa using hro) hx (by have:=hL2b.out;simp;omega) (by have:=hL2b.out;simp;omega) ?_);intro s5 w5 hrw5 hx5 hk5);go_roundw
          case rel =>
           refine⟨k+1,s5,L2++[dch (p % 10)],p / 10,by go_num,rfl,by go_num,by omega,hsm.out,?_,?_,?_,?_,?_,by omega,hx5⟩
           ·have e:((dch (p % 10)).toNat:Int)=48+(p:Int) % 10:=by rw[d4 hm10];omega
            rw[fO,e];rw[World.size_alloc] at hrw5;exact hrw5
           ·exact hr3.kept (hk5 _ (by decide))
           ·have:=hrw5.len;simp at this ⊢;exact this
           ·rw[List.append_assoc,List.singleton_append,←hnx.out];exact hL2.out
           ·rw[List.length_append,if_neg (by omega)];have:=hLk.out;simp;omega
          case measure=>first | (simp[intOf];done) | (simp[intOf];omega)
         ·by_cases hp':0<p
          ·clear hrl hlpos hq30 hpz;go_wp2_with ((refine dO _ rfl _ _ 101 rfl .u8 1 Try.underlying101 fN (w.alloc (Obj.cells #[Value.bool nx,Value.slice ao la.length cap] 62)) ⟨oa2,L2.length,oc2⟩ (aS L2) _ rfl rfl (by simpa using hro) hx (by have:=hL2b.out;simp;omega) (by have:=hL2b.out;simp;omega) ?_);intro s5 w5 hrw5 hx5 hk5);go_roundw
           case rel =>
            refine⟨k+1,s5,L2++[dch (p % 10)],p / 10,by go_num,rfl,by go_num,by omega,hsm.out,?_,?_,?_,?_,?_,by omega,hx5⟩
            ·have e:((dch (p % 10)).toNat:Int)=48+(p:Int) % 10:=by rw[d4 hm10];omega
             rw[fO,e];rw[World.size_alloc] at hrw5;exact hrw5
            ·exact hr3.kept (hk5 _ (by decide))
            ·have:=hrw5.len;simp at this ⊢;exact this
            ·rw[List.append_assoc,List.singleton_append,←hnx.out];exact hL2.out
            ·rw[List.length_append,if_neg (by omega)];have:=hLk.out;simp;omega
           case measure=>first | (simp[intOf];done) | (simp[intOf];omega)
          ·clear hrl hlpos hq30 hpz;go_wp2_with ((refine dO _ rfl _ _ 101 rfl .u8 1 Try.underlying101 fN (w.alloc (Obj.cells #[Value.bool nx,Value.slice ao la.length cap] 62)) ⟨oa2,L2.length,oc2⟩ (aS L2) _ rfl rfl (by simpa using hro) hx (by have:=hL2b.out;simp;omega) (by have:=hL2b.out;simp;omega) ?_);intro s5 w5 hrw5 hx5 hk5);go_roundw
           case rel =>
            refine⟨k+1,s5,L2++[dch (p % 10)],p / 10,by go_num,rfl,by go_num,by omega,hsm.out,?_,?_,?_,?_,?_,by omega,hx5⟩
            ·have e:((dch (p % 10)).toNat:Int)=48+(p:Int) % 10:=by rw[d4 hm10];omega
             rw[fO,e];rw[World.size_alloc] at hrw5;exact hrw5
            ·exact hr3.kept (hk5 _ (by decide))
            ·have:=hrw5.len;simp at this ⊢;exact this
            ·rw[List.append_assoc,List.singleton_append,←hnx.out];exact hL2.out
            ·rw[List.length_append,if_neg (by omega)];have:=hLk.out;simp;omega
           case measure=>first | (simp[intOf];done) | (simp[intOf];omega)
        ·have hk0:k≠0:=by
          intro h;have h1:=hpz.out h;have h2:=hqq.out;have:p=0:=by omega
          have h3:m=0:=by omega
          have h4:=hq30.out.2 h3;rw[h4] at h2;omega
         have hVq:p+10^(9-k)*q3=q3:=by
          by_cases h9:k=9
          ·subst h9;have:=hpk.out;simp at this;subst this;simp
          ·have h1:p=0:=by omega
           have h3:m=0:=by omega
           have h4:=hq30.out.2 h3;rw[h1,h4];simp
         have hfin:=hL2.out;rw[hVq] at hfin;replace hfin:=hd_ hfin;have hlast:L.length<L2.length:=by have:=hLk.out;rw[if_neg hk0] at this;omega
         clear hVq hrl hlpos hq30 hpz;by_cases hk:k<9
         ·first
          |(exfalso;omega)
          |(
            have hp:p=0:=by omega
            have hmn:decide (0<m)=false:=by simp;omega
            have hpp:¬ 0<p:=by omega
            replace hp:=hd_ hp;replace hgo:=hd_ hgo;go_wp2;go_roundw
            case rel=>exact⟨⟨oa2,L2.length,oc2⟩,⟨some ⟨g,0,none⟩,m,rc⟩,L2,l3,q3,rfl,rfl,hro,hr3,hd3,hn3.out,hq3.out,hfin.out,by have:=hm.out;omega,rfl,hl3.symm,hx⟩
            case measure=>have:=hLn;simp[ip];omega)
         ·go_wp2;go_roundw
          case rel=>exact⟨⟨oa2,L2.length,oc2⟩,⟨some ⟨g,0,none⟩,m,rc⟩,L2,l3,q3,rfl,rfl,hro,hr3,hd3,hn3.out,hq3.out,hfin.out,by have:=hm.out;omega,rfl,hl3.symm,hx⟩
          case measure=>have:=hLn;simp[ip];omega
      ·have htop':(at_ l2 m == 0)=false:=by simp[htop]
       have hn3:Norm l2:=.inr (by rw[hl2.out,hm];exact htop);have hv4:=hv;have hl3:l2.length=m+1:=by rw[hl2.out];exact hm
       have hr3:Rw wr (w.heap.size+1) .u32 ⟨some ⟨g,0,none⟩,m+1,rc⟩ l2:=by rw[←hm];exact hrr
       replace htop:=hd_ htop;replace hm:=hd_ hm;replace hn3:=hd_ hn3;have hd3:=hdl2;generalize l2=l3 at *;obtain⟨q3,hq3⟩:=Int.eq_ofNat_of_zero_le (valL_nonneg hd3);have hq30:q3=0↔(m+1)=0:=by
        have h1:=valL_eq_zero hd3 hn3.out;rw[hq3] at h1;constructor
        ·intro h;have:=h1.1 (by rw[h];rfl);rw[←hl3,this];rfl
        ·intro h;have:=h1.2 (List.eq_nil_of_length_eq_zero (by rw[hl3,h]));omega
       replace hq30:=hd_ hq30;obtain⟨p0,rfl⟩:=Int.eq_ofNat_of_zero_le hp0;have hqq:q=p0+10^9*q3:=by have:=hv4.out;rw[hq3] at this;omega
       have hqp:0<q:=by
        rcases Nat.eq_zero_or_pos q with h0 | h0
        ·exfalso
         have h1:=hvr.out;rw[h0] at h1;have h2:=(valL_eq_zero hdr hnr.out).1 h1;rw[h2] at hlt;simp at hlt
        ·exact h0
       have hLL:=congrArg List.length hL.out;rw[List.length_append] at hLL;have hLn:L.length<8796093022208:=by
        have:0<(aW q).length:=by rw[bJ hqp];simp
        omega
       replace hLL:=hd_ hLL;replace hqq:=hd_ hqq;replace hq3:=hd_ hq3;go_wp2;go_loopw [7,3,5] (fun kk o pt wi => ∃(k:Nat) (so:SV) (L2:List UInt8) (p:Nat),kk = .int .i64 k∧o = .slice so.a so.len so.cap∧pt = .int .u64 p∧k≤9∧p<10^(9-k)∧Rw wi (w.heap.size+1) .u8 so (aS L2)∧Rw wi (w.heap.size+1) .u32 ⟨some ⟨g,0,none⟩,(m+1),rc⟩ l3 ∧
         so.len=L2.length∧L2++aW (p+10^(9-k)*q3)=aW N∧L.length+(if k=0 then 0 else 1)≤L2.length∧(k=0→p=p0)∧Ext (w.alloc (Obj.cells #[Value.bool nx,Value.slice ao la.length cap] 62)) wi) (fun kk _ _ _=>9-(intOf kk).toNat)
       case atStart=>exact⟨0,⟨oa,L.length,oc⟩,L,p0,rfl,rfl,rfl,by omega,by simpa using (show p0<1000000000 by omega),hro,hr3,rfl,by rw[show p0+10^(9-0)*q3=q from hqq.out.symm];exact hL.out,by simp,fun _=>rfl,hx⟩
       case round =>
        clear hro hr3 hx gc;obtain⟨k,so,L2,p,rfl,rfl,rfl,hk9,hpk,hro,hr3,hsol,hL2,hLk,hpz,hx⟩:=hrel;obtain⟨oa2,on2,oc2⟩:=so;simp only at hsol;subst hsol;have h10:=oU (k:=k);have hpb:p<1000000000:=by omega
        have hL2b:L2.length≤8796093022208:=by
         have:=congrArg List.length hL2;rw[List.length_append] at this;omega
        replace hpk:=hd_ hpk;replace hL2:=hd_ hL2;replace hpz:=hd_ hpz;replace hLk:=hd_ hLk;clear h10;replace hL2b:=hd_ hL2b;clear hp0 hp1;by_cases hgo:k<9∧(0<p∨0<(m+1))
        ·obtain⟨hk,hgo⟩:=hgo;have hVp:0<p+10^(9-k)*q3:=by
          rcases hgo with h | h
          ·omega
          ·have h3:0<q3:=by
            rcases Nat.eq_zero_or_pos q3 with h3 | h3
            ·have:=hq30.out.1 h3;omega
            ·exact h3
           have:=Nat.mul_pos (Nat.pow_pos (n:=9-k) (show 0<10 by omega)) h3;omega
         have hnx:=oS hk hVp;replace hL2b:=hd_ (show L2.length<8796093022208 by
          have g1:=congrArg List.length hL2.out;rw[List.length_append] at g1;have g2:0<(aW (p+10^(9-k)*q3)).length:=by rw[bJ hVp];simp
          omega)
         replace hVp:=hd_ hVp;replace hnx:=hd_ hnx;have hsm:=hd_ (oT hk hpk.out);have hm10:p % 10<10:=Nat.mod_lt _ (by omega);rcases hgo with hp | hp
         ·clear hrl hlpos hq30 hpz;go_wp2_with ((refine dO _ rfl _ _ 101 rfl .u8 1 Try.underlying101 fN (w.alloc (Obj.cells #[Value.bool nx,Value.slice ao la.length cap] 62)) ⟨oa2,L2.length,oc2⟩ (aS L2) _ rfl rfl (by simpa using hro) hx (by have:=hL2b.out;simp;omega) (by have:=hL2b.out;simp;omega) ?_);intro s5 w5 hrw5 hx5 hk5);go_roundw
          case rel =>
           refine⟨k+1,s5,L2++[dch (p % 10)],p / 10,by go_num,rfl,by go_num,by omega,hsm.out,?_,?_,?_,?_,?_,by omega,hx5⟩
           ·have e:((dch (p % 10)).toNat:Int)=48+(p:Int) % 10:=by rw[d4 hm10];omega
            rw[fO,e];rw[World.size_alloc] at hrw5;exact hrw5
           ·exact hr3.kept (hk5 _ (by decide))
           ·have:=hrw5.len;simp at this ⊢;exact this
           ·rw[List.append_assoc,List.singleton_append,←hnx.out];exact hL2.out
           ·rw[List.length_append,if_neg (by omega)];have:=hLk.out;simp;omega
          case measure=>first | (simp[intOf];done) | (simp[intOf];omega)
         ·by_cases hp':0<p
          ·clear hrl hlpos hq30 hpz;go_wp2_with ((refine dO _ rfl _ _ 101 rfl .u8 1 Try.underlying101 fN (w.alloc (Obj.cells #[Value.bool nx,Value.slice ao la.length cap] 62)) ⟨oa2,L2.length,oc2⟩ (aS L2) _ rfl rfl (by simpa using hro) hx (by have:=hL2b.out;simp;omega) (by have:=hL2b.out;simp;omega) ?_);intro s5 w5 hrw5 hx5 hk5);go_roundw
           case rel =>
            refine⟨k+1,s5,L2++[dch (p % 10)],p / 10,by go_num,rfl,by go_num,by omega,hsm.out,?_,?_,?_,?_,?_,by omega,hx5⟩
            ·have e:((dch (p % 10)).toNat:Int)=48+(p:Int) % 10:=by rw[d4 hm10];omega
             rw[fO,e];rw[World.size_alloc] at hrw5;exact hrw5
            ·exact hr3.kept (hk5 _ (by decide))
            ·have:=hrw5.len;simp at this ⊢;exact this
            ·rw[List.append_assoc,List.singleton_append,←hnx.out];exact hL2.out
            ·rw[List.length_append,if_neg (by omega)];have:=hLk.out;simp;omega
           case measure=>first | (simp[intOf];done) | (simp[intOf];omega)
          ·clear hrl hlpos hq30 hpz;go_wp2_with ((refine dO _ rfl _ _ 101 rfl .u8 1 Try.underlying101 fN (w.alloc (Obj.cells #[Value.bool nx,Value.slice ao la.length cap] 62)) ⟨oa2,L2.length,oc2⟩ (aS L2) _ rfl rfl (by simpa using hro) hx (by have:=hL2b.out;simp;omega) (by have:=hL2b.out;simp;omega) ?_);intro s5 w5 hrw5 hx5 hk5);go_roundw
           case rel =>
            refine⟨k+1,s5,L2++[dch (p % 10)],p / 10,by go_num,rfl,by go_num,by omega,hsm.out,?_,?_,?_,?_,?_,by omega,hx5⟩
            ·have e:((dch (p % 10)).toNat:Int)=48+(p:Int) % 10:=by rw[d4 hm10];omega
             rw[fO,e];rw[World.size_alloc] at hrw5;exact hrw5
            ·exact hr3.kept (hk5 _ (by decide))
            ·have:=hrw5.len;simp at this ⊢;exact this
            ·rw[List.append_assoc,List.singleton_append,←hnx.out];exact hL2.out
            ·rw[List.length_append,if_neg (by omega)];have:=hLk.out;simp;omega
           case measure=>first | (simp[intOf];done) | (simp[intOf];omega)
        ·have hk0:k≠0:=by
          intro h;have h1:=hpz.out h;have h2:=hqq.out;have:p=0:=by omega
          have h3:(m+1)=0:=by omega
          have h4:=hq30.out.2 h3;rw[h4] at h2;omega
         have hVq:p+10^(9-k)*q3=q3:=by
          by_cases h9:k=9
          ·subst h9;have:=hpk.out;simp at this;subst this;simp
          ·have h1:p=0:=by omega
           have h3:(m+1)=0:=by omega
           have h4:=hq30.out.2 h3;rw[h1,h4];simp
         have hfin:=hL2.out;rw[hVq] at hfin;replace hfin:=hd_ hfin;have hlast:L.length<L2.length:=by have:=hLk.out;rw[if_neg hk0] at this;omega
         clear hVq hrl hlpos hq30 hpz;by_cases hk:k<9
         ·first
          |(exfalso;omega)
          |(
            have hp:p=0:=by omega
            have hmn:decide (0<(m+1))=false:=by simp;omega
            have hpp:¬ 0<p:=by omega
            replace hp:=hd_ hp;replace hgo:=hd_ hgo;go_wp2;go_roundw
            case rel=>exact⟨⟨oa2,L2.length,oc2⟩,⟨some ⟨g,0,none⟩,(m+1),rc⟩,L2,l3,q3,rfl,rfl,hro,hr3,hd3,hn3.out,hq3.out,hfin.out,by have:=hm.out;omega,rfl,hl3.symm,hx⟩
            case measure=>have:=hLn;simp[ip];omega)
         ·go_wp2;go_roundw
          case rel=>exact⟨⟨oa2,L2.length,oc2⟩,⟨some ⟨g,0,none⟩,(m+1),rc⟩,L2,l3,q3,rfl,rfl,hro,hr3,hd3,hn3.out,hq3.out,hfin.out,by have:=hm.out;omega,rfl,hl3.symm,hx⟩
          case measure=>have:=hLn;simp[ip];omega
     |k+1,hk,hval,hlow =>
      rw[show ((k+1:Nat):Int)-1=(k:Int) by omega];obtain⟨g',cap',hsv,_,hgt2,_,_,hgc,hgf⟩:=(show Rw wr (w.heap.size+1) .u32 ⟨some ⟨g,0,none⟩,l2.length,rc⟩ l2 by rw[hl2.out];exact hrr).open_ (by rw[hl2.out];exact hlt);rw[SV.mk.injEq,Option.some.injEq,Addr.mk.injEq] at hsv;obtain⟨⟨rfl,-⟩,-,rfl⟩:=hsv;have gc:=hgc k (by rw[hl2.out];omega);have gf:=hgf k;have hfm:=hdl2.at_ k;have hor:=Fg ⟨hp0,hp1⟩ hfm;clear hgc hgf;go_wp2;go_roundw
      case rel =>
       refine⟨k,_,l2.set k ((pp*4294967296+at_ l2 k) / 1000000000),by go_num,rfl,by omega,by omega,by omega,hrr.set' k _,?_,by rw[List.length_set];exact hl2.out,hdl2.set k (by omega),?_,?_,hx.st (by simp;omega) _⟩
       ·exact hro.kept ((aZ.rf _ _).st (T':=ET .u32) hgt2 (by decide) _)
       ·have h1:=hval.out;have e1:=valL_drop (l:=lr) (k:=k) (by omega);have e2:=valL_drop (l:=l2.set k ((pp*4294967296+at_ l2 k) / 1000000000)) (k:=k) (by rw[List.length_set,hl2.out];omega);rw[fu (by rw[hl2.out];omega),Fe (k:=k+1) (b:=l2) (by simp) (fun j hj=>co (by omega) _)] at e2;rw[e1,e2,h1,←hlow.out k (by omega)];omega
       ·intro j hj;rw[co (by omega)];exact hlow.out j (by omega)
      case measure=>first | (simp[intOf];done) | (simp[intOf];omega)
   ·have hl0:lr=[]:=List.eq_nil_of_length_eq_zero (by omega);have hq:q=0:=by
     have:=hvr.out;rw[hl0] at this;simp[valL] at this;omega
    have hLf:=hL.out;rw[hq,bX,List.append_nil] at hLf;have hLp:0<L.length:=by rw[hLf,bJ hNp];simp
    have hLb:L.length≤8796093022206:=by rw[hLf];omega
    replace hLf:=hd_ hLf;replace hq:=hd_ hq;replace hl0:=hd_ hl0;clear hrl;cases nx
    ·go_wp2_with (go_at_call 64;((with_reducible refine (oO (w.heap.size+1) ⟨oa,L.length,oc⟩ (aS L) _ hro (by simpa using hLp) (l4 _)).mono ?_);rintro e w6 ⟨rfl,hro6,hx6⟩;rw[oQ] at hro6;have hcv:=oV (P:=Try.prog) (src:=101) (dst:=9) hro6 (by simpa using hLp) Try.underlying101 Try.underlying5 Try.underlying9;simp only at hcv));go_ret;refine⟨gB ?_,he0.tr (Below.trans hx (by rw[World.size_alloc];exact hx6))⟩;rw[HD.out,hLf.out];simp
    ·go_wp2_with (first
      |(refine dO _ rfl _ _ 101 rfl .u8 1 Try.underlying101 fN (w.alloc (Obj.cells #[Value.bool true,Value.slice ao la.length cap] 62)) ⟨oa,L.length,oc⟩ (aS L) _ rfl rfl (by simpa using hro) hx (by simp;omega) (by simp;omega) ?_;intro s5 w5 hrw5 hx5 hk5;rw[Fh,World.size_alloc] at hrw5)
      |(go_at_call 64;((with_reducible refine (oO (w.heap.size+1) s5 (aS (L++[45])) _ hrw5 (by simp) (l4 _)).mono ?_);rintro e w6 ⟨rfl,hro6,hx6⟩;rw[oQ] at hro6;have hcv:=oV (P:=Try.prog) (src:=101) (dst:=9) hro6 (by simp) Try.underlying101 Try.underlying5 Try.underlying9)))
     go_ret;refine⟨gB ?_,he0.tr (Below.trans hx5 (by rw[World.size_alloc];exact hx6))⟩;rw[HD.out,hLf.out];simp
end Go.Proofs.Ytdchbabgopglcaa
