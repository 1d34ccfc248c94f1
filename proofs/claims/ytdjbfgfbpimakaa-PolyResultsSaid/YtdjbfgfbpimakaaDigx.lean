/- digits: the walk. -/
import Derived.Test.YtdjbfgfbpimakaaK4
import Derived.Test.YtdjbfgfbpimakaaParsex
import Derived.Test.YtdjbfgfbpimakaaK1
namespace Go.Proofs.Ytdjbfgfbpimakaa
open Go.RowKit
def readN (t:List UInt8):Int:=t.foldl (fun a c=>a*10+((c.toNat:Int)-48)) 0
theorem readN_snoc (t:List UInt8) (c:UInt8):readN (t++[c])=readN t*10+((c.toNat:Int)-48):=by simp[readN]
theorem read_acc (b:List UInt8):∀ x:Int,b.foldl (fun a c=>a*10+((c.toNat:Int)-48)) x=x*10^b.length+readN b:=by
 induction b with
 | nil=>intro x;simp[readN]
 | cons c t ih =>
  intro x
  have h0:=ih (0*10+((c.toNat:Int)-48))
  simp only[List.foldl_cons,List.length_cons,Int.pow_succ,readN] at *
  rw[ih,h0]
  grind
theorem readN_append (a b:List UInt8):readN (a++b)=readN a*10^b.length+readN b:=by
 unfold readN
 rw[List.foldl_append,read_acc]
 rfl
theorem readN_take_succ {q:List UInt8} {j:Nat} (h:j<q.length):readN (q.take (j+1))=readN (q.take j)*10+((byt q j:Int)-48):=by
 rw[List.take_succ_eq_append_getElem h,readN_snoc,byt_lt h]
theorem p10_le {j:Nat} (h:j≤9):(1:Int)≤10^j∧(10:Int)^j≤1000000000:=by
 have h1:(10:Nat)^j≤10^9:=Nat.pow_le_pow_right (by omega) h
 have h2:0<(10:Nat)^j:=Nat.pow_pos (by omega)
 have e:(10:Int)^j=((10^j:Nat):Int):=by rw[Int.natCast_pow];rfl
 rw[e]
 simp only[Nat.reducePow] at h1
 omega
theorem valL_snoc (l:List Int) (x:Int):valL (l++[x])=valL l+x*4294967296^l.length:=by
 induction l with
 | nil=>simp[valL]
 | cons y t ih=>simp only[List.cons_append,valL,ih,List.length_cons,Int.pow_succ];grind
theorem Dig.snoc {l:List Int} (h:Dig l) {x:Int} (hx:0≤x∧x≤4294967295):Dig (l++[x]):=by
 intro y hy
 rcases List.mem_append.1 hy with hy | hy
 ·exact h y hy
 ·rw[List.mem_singleton.1 hy];exact hx
theorem mul_by_bound {m d:Int} (hm:0≤m∧m≤4294967295) (hd:1≤d∧d≤1000000000):0≤m*d∧m*d≤4294967295000000000:=by
 refine⟨Int.mul_nonneg hm.1 (by omega),?_⟩
 have:=Int.mul_le_mul hm.2 hd.2 (by omega) (by omega)
 omega
theorem dig_step {V c V0 d P0 m p q:Int} (h:V+c*p=V0*d+P0) (hq:p*4294967296=q) :
  V+(c+m*d) % 4294967296*p+(c+m*d) / 4294967296*q=(V0+m*p)*d+P0:=by
 have h1:(c+m*d) % 4294967296=(c+m*d)-4294967296*((c+m*d) / 4294967296):=by omega
 rw[h1,←hq]
 generalize (c+m*d) / 4294967296=e
 grind
set_option maxRecDepth 100000 in
set_option maxHeartbeats 1000000 in
theorem digits_any (t:List UInt8) (w:World) (hs:t.length≤13000000000000) (hd:∀ j,j<t.length→48≤byt t j∧byt t j≤57) :
  Calls Try.prog 90 #[.string (bs t)] w (RetL w (readN t)):=by
 replace hd:=hd_ hd
 go_enter Try.func90,Try.ntmps90
 go_wp2
 go_loopw [0,3] (fun v m wr => ∃ p s l,v = .string (bs (t.drop p))∧m = .slice (SV.a s) (SV.len s) (SV.cap s)∧p≤t.length∧Rw wr w.heap.size .u32 s l∧Dig l∧valL l=readN (t.take p)∧l.length≤p∧Ext w wr) (fun v _ _=>match v with | .string b=>b.size | _=>0)
 case atStart=>exact⟨0,⟨none,0,0⟩,[],by simp,rfl,Nat.zero_le _,Rw.nil_ _ _ _,(fun x hx=>by cases hx),rfl,Nat.le_refl _,Ext.rf _⟩
 case round =>
  obtain⟨p,s,l,rfl,rfl,hp,hrw,hdl,hval,hll,hx⟩:=hrel
  have hsl:=hrw.len
  obtain⟨sa,sn,sc⟩:=s
  simp only at hsl
  subst hsl
  obtain⟨q,hq⟩:∃ q,q=t.drop p:=⟨_,rfl⟩
  have hql:q.length+p=t.length:=by rw[hq];simp;omega
  have HQD:Hd (∀ j,j<q.length→48≤byt q j∧byt q j≤57):=hd_ (fun j hj=>by rw[hq,byt_drop];exact hd.out _ (by omega))
  have HQ:=hd_ hq
  have HQL:=hd_ hql
  replace hql:q.length≤t.length:=by omega
  rw[←hq]
  clear hq
  replace hval:=hd_ hval
  by_cases h0:0<q.length
  ·obtain⟨n,hn,hn1,hn9,hnq⟩:∃ n:Nat,((q.length:Int)-1) % 9+1=(n:Int)∧1≤n∧n≤9∧n≤q.length:=⟨(q.length-1) % 9+1,by omega,by omega,by omega,by omega⟩
   go_wp2_with ((refine wpL_bytes _ rfl 9 118 _ rfl Try.underlying9 Try.underlying118 Try.underlying5 (q.take n) (by rfl) (by simp;omega) ?_);intro cb w1 hb1 hx1 hcell1)
   have htl:(q.take n).length=n:=by simp;omega
   have HTL:=hd_ htl
   clear htl
   go_loop [23,5,6] (fun j pt b => ∃ (m:Nat) (pp bb:Int),j = .int .i64 m∧pt = .int .u64 pp∧b = .int .u64 bb∧m≤n∧bb=10^m∧pp=readN (q.take m)∧0≤pp∧pp<bb) (fun j _ _=>n-(intOf j).toNat)
   case atStart=>exact⟨0,0,1,rfl,rfl,rfl,Nat.zero_le _,by simp,rfl,by omega,by omega⟩
   case round =>
    obtain⟨m,pp,bb,rfl,rfl,rfl,hm,hbb,hpp,hpp0,hpp1⟩:=hrel
    have hb9:=p10_le (j:=m) (by omega)
    rw[←hbb] at hb9
    replace hbb:=hd_ hbb
    replace hpp:=hd_ hpp
    by_cases hlt:m<n
    ·have hc:=hcell1 m (by rw[HTL.out];exact hlt)
     have hby:byt (q.take n) m=byt q m:=by simp[byt,hlt]
     have hd1:=HQD.out m (by omega)
     have hb9':=p10_le (j:=m+1) (by omega)
     have hbs:(10:Int)^(m+1)=bb*10:=by rw[hbb.out,Int.pow_succ]
     rw[hbs] at hb9'
     replace hbs:=hd_ hbs
     go_wp2
     go_round
     case rel =>
      refine⟨m+1,_,_,by go_num,rfl,rfl,by omega,hbs.out.symm,?_,by omega,by omega⟩
      rw[readN_take_succ (by omega),←hpp.out]
     case measure=>first | (simp[intOf];done) | (simp[intOf];omega)
    ·obtain rfl:m=n:=by omega
     clear hcell1
     go_wp2
     go_loopw [41,5] (fun i c wi => ∃ (k:Nat) (cc:Int) (l2:List Int),i = .int .i64 k∧c = .int .u64 cc∧k≤l.length∧0≤cc∧cc≤1000000000∧Rw wi w.heap.size .u32 ⟨sa,l.length,sc⟩ l2∧l2.length=l.length∧Dig l2 ∧
       valL (l2.take k)+cc*4294967296^k=valL (l.take k)*bb+pp∧(∀ j,k≤j→at_ l2 j=at_ l j)∧Ext w wi) (fun i _ _=>l.length-(intOf i).toNat)
     case atStart=>exact⟨0,pp,l,rfl,rfl,Nat.zero_le _,hpp0,by omega,hrw.keep hx1,rfl,hdl,by simp[valL],fun _ _=>rfl,hx.tr hx1⟩
     case round =>
      clear hb1 hx1 hrw hx
      obtain⟨k,cc,l2,rfl,rfl,hk,hcc0,hcc1,hrw,hl2,hdl2,hval2,htl2,hx⟩:=hrel
      replace hval2:=hd_ hval2
      replace htl2:=hd_ htl2
      replace hl2:=hd_ hl2
      by_cases hlt:k<l.length
      ·obtain⟨g,cap,hsv,hgb,hgt,hgc1,hgc2,hgc,hgf⟩:=hrw.open_ (by rw[hl2.out];omega)
       rw[SV.mk.injEq] at hsv
       obtain⟨rfl,-,rfl⟩:=hsv
       have gc:=hgc k (by rw[hl2.out];exact hlt)
       have gf:=hgf k
       clear hgc hgf
       have fm:=hdl2.at_ k
       have fmb:=mul_by_bound fm hb9
       go_wp2
       go_roundw
       case rel =>
        refine⟨k+1,_,l2.set k ((cc+at_ l2 k*bb) % 4294967296),by go_num,rfl,by omega,by omega,by omega,?_,by rw[List.length_set];exact hl2.out,hdl2.set k (by omega),?_,?_,?_⟩
        ·have:=Rw.set (l:=l2) (g:=g) (cap:=sc) (by rw[hl2.out];exact hrw) k ((cc+at_ l2 k*bb) % 4294967296)
         rw[hl2.out] at this
         exact this
        ·rw[valL_set (by rw[hl2.out];exact hlt),valL_take_succ,←htl2.out k (Nat.le_refl _)]
         exact dig_step hval2.out (Int.pow_succ ..).symm
        ·intro j hj
         rw[at_set_ne (by omega)]
         exact htl2.out j (by omega)
        ·exact hx.st hgb _
       case measure=>first | (simp[intOf];done) | (simp[intOf];omega)
      ·obtain rfl:k=l.length:=by omega
       have hfin:valL l2+cc*4294967296^l.length=readN (t.take (p+m)):=by
        have h1:=hval2.out
        rw[List.take_of_length_le (by rw[hl2.out];exact Nat.le_refl _),List.take_of_length_le (Nat.le_refl _),hval.out,hpp.out,hbb.out] at h1
        rw[h1,List.take_add,readN_append,←HQ.out,HTL.out]
       have hdq:q.drop m=t.drop (p+m):=by rw[HQ.out,List.drop_drop]
       replace hfin:=hd_ hfin
       by_cases hc0:0<cc
       ·have hsl:l2.length=(⟨sa,l.length,sc⟩:SV).len:=hl2.out
        go_wp2_with ((refine wpL_app1 _ rfl _ _ 35 rfl .u32 4 Try.underlying35 infoU32 w ⟨sa,l.length,sc⟩ l2 cc rfl rfl hrw hx (by rw[hl2.out];omega) (by rw[hl2.out];omega) ?_);intro s3 w3 hrw3 hx3 _)
        try rw[hdq]
        go_roundw
        case rel =>
         refine⟨p+m,s3,l2++[cc],rfl,rfl,?_,hrw3,hdl2.snoc (by omega),?_,?_,hx3⟩
         ·have:=HQL.out;omega
         ·rw[valL_snoc,hl2.out,hfin.out]
         ·rw[List.length_append,hl2.out];simp;omega
        case measure=>have:=HQL.out;simp;omega
       ·obtain rfl:cc=0:=by omega
        go_wp2
        try rw[hdq]
        go_roundw
        case rel =>
         refine⟨p+m,⟨sa,l.length,sc⟩,l2,rfl,rfl,?_,hrw,hdl2,?_,?_,hx⟩
         ·have:=HQL.out;omega
         ·have:=hfin.out
          rw[Int.zero_mul,Int.add_zero] at this
          exact this
         ·rw[hl2.out];omega
        case measure=>have:=HQL.out;simp;omega
  ·have hp:p=t.length:=by have:=HQL.out;omega
   replace hp:=hd_ hp
   go_wp2
   go_ret
   refine⟨⟨sa,l.length,sc⟩,l,rfl,hrw.isL hdl,?_,hx⟩
   rw[hval.out,hp.out,List.take_of_length_le (Nat.le_refl _)]
end Go.Proofs.Ytdjbfgfbpimakaa
