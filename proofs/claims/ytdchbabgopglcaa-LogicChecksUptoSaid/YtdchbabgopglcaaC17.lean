/- Lemmas. -/
import Derived.Test.YtdchbabgopglcaaC16
import Derived.Test.YtdchbabgopglcaaC6
namespace Go.Proofs.Ytdchbabgopglcaa.M
open Go.RowKit
def fI (ops:Array Oper) (x y:Nat):Bool:=match ops[x]? with
 |some o=>o.after.all fun e => !Region.binds .any e||e.on != y
 |none=>true
def gn (am:List Nat) (x y:Nat):Bool:=(am.getD y 0).testBit x
def ji (ops:Array Oper) (am:List Nat) (ap:List (Nat×Nat)):List (Nat×COp)→Bool
 |[]=>true
 |x::l=>fI ops x.1 x.1&&l.all (fun y=>fI ops x.1 y.1&&x.1 != y.1&&(gn am x.1 y.1||gh ap x.2 y.2))&&ji ops am ap l
def jk (ops:Array Oper) (am:List Nat) (n:Nat):Bool:=(List.range n).all fun i=>match ops[i]? with
 |some o=>o.after.all (fun e => !Region.binds .any e||decide (e.on<n))&&(List.range n).all fun j => !gn am j i||o.after.any fun e=>Region.binds .any e&&(e.on == j||gn am j e.on)
 |none=>true
def nA (ops:Array Oper) (am:List Nat) (ap:List (Nat×Nat)) (l:List (Nat×COp)):Bool:=
 l.length == ops.size&&(List.range ops.size).all (fun i=>(l.map (·.1)).contains i)&&l.all (fun x=>decide (x.1<ops.size)&&dM ap x.2)&&jk ops am ops.size&&ji ops am ap l
section
variable {C:Ctx}{s:St}{a:Act}{w:World}{ops:Array Oper}{Q:Exit→Act→World→Prop}{K:St→Prop}{am:List Nat}{ap:List (Nat×Nat)}
def Rp (ops:Array Oper) (am:List Nat) (ap:List (Nat×Nat)) (x y:Nat×COp):Prop:=fI ops x.1 y.1=true∧x.1≠y.1∧(gn am x.1 y.1=true∨gh ap x.2 y.2=true)
theorem nC:∀{l:List (Nat×COp)},ji ops am ap l=true→l.Pairwise (Rp ops am ap)∧∀x∈l,fI ops x.1 x.1=true
 |[],_=>⟨.nil,by simp⟩
 |x::l,h=>by
  simp only[ji,Bool.and_eq_true,List.all_eq_true,Bool.or_eq_true,bne_iff_ne,ne_eq] at h;obtain⟨⟨h1,h2⟩,h3⟩:=h;obtain⟨g1,g2⟩:=nC h3;refine⟨.cons (fun y hy=>⟨(h2 y hy).1.1,(h2 y hy).1.2,(h2 y hy).2⟩) g1,fun y hy => ?_⟩;rcases List.mem_cons.1 hy with rfl | hy
  ·exact h1
  ·exact g2 y hy
theorem nD {x y:Nat}{o:Oper} (ho:ops[x]? = some o) (h:fI ops x y=true):∀e∈o.after,Region.binds .any e=true→e.on≠y:=by
 intro e he hb heq;simp only[fI,ho,Array.all_eq_true_iff_forall_mem,Bool.or_eq_true,Bool.not_eq_true',bne_iff_ne,ne_eq] at h;rcases h e he with h | h
 ·rw[hb] at h;cases h
 ·exact h heq
theorem yG {al:Nat→Prop} (hC:C.Ok) (hanc:jk ops am ops.size=true) (hQ:∀t a' w',Is C t a' w'→K t→Q .normal a' w') :
  ∀(n:Nat) (l:List (Nat×COp)) (listed:Array Bool) (s:St) (a:Act) (w:World),l.length=n→listed.size=ops.size →
   (∀i,i<ops.size→(listed.getD i true=false↔i∈l.map (·.1)))→l.Pairwise (Rp ops am ap)→(∀x∈l,fI ops x.1 x.1=true∧x.1<ops.size∧(dM ap x.2=true∧(x.2.alc=true→∀t,x.2.dst=some t→al t))∧∃o,ops[x.1]? = some o∧cop C.P C.nt C.OT ops o=some x.2) →
   (∀j,j<ops.size→listed.getD j true=true→∀k,k<ops.size→gn am k j=true→listed.getD k true=true) →
   Is C s a w→ApI al ap s.r→bl (ConX C.P C.A) (l.map (·.2)) K s→wpAny C.P .any ops Q n listed a w:=by
 intro n;induction n with
 |zero =>
  intro l listed s a w hl hsz hlist _ _ _ his _ hK;have hnil:l=[]:=List.eq_nil_of_length_eq_zero hl;subst hnil;refine⟨?_,hQ s a w his hK⟩;rw[List.eq_nil_iff_forall_not_mem];intro i hi;obtain⟨h1,o,ho,_⟩:=mem_ready.1 hi;have:=(hlist i (Array.getElem?_eq_some_iff.1 ho).1).1 h1;simp at this
 |succ n ih =>
  intro l listed s a w hl hsz hlist hp hall hcl his hap hK;refine⟨fun h0 => ?_,fun i hi => ?_⟩
  ·exfalso
   match l,hl,hlist,hp,hall with
   |x::l',_,hlist,hp,hall =>
    obtain⟨g1,g2,g3,o,ho,-⟩:=hall x (by simp);have hmem:x.1∈Region.ready .any ops listed:=by
     rw[mem_ready];refine⟨(hlist x.1 g2).2 (by simp),o,ho,fun e he hb => ?_⟩;have hon:e.on<ops.size:=by
      simp only[jk,List.all_eq_true,List.mem_range] at hanc;have:=hanc x.1 g2;rw[ho] at this;simp only[Bool.and_eq_true,Array.all_eq_true_iff_forall_mem,Bool.or_eq_true,Bool.not_eq_true',decide_eq_true_eq] at this;rcases this.1 e he with h | h
      ·rw[hb] at h;cases h
      ·exact h
     have hnot:¬ (listed.getD e.on true=false):=by
      intro hf;have:=(hlist e.on hon).1 hf;simp only[List.map_cons,List.mem_cons,List.mem_map] at this;rcases this with h | ⟨y,hy,h⟩
      ·exact nD ho g1 e he hb h
      ·exact nD ho ((List.pairwise_cons.1 hp).1 y hy).1 e he hb h.symm
     have hlt:e.on<listed.size:=by omega
     simp[hlt] at hnot ⊢;exact hnot
    rw[h0] at hmem;cases hmem
  ·obtain⟨h1,o,ho,hpre⟩:=mem_ready.1 hi;have hin:i<ops.size:=(Array.getElem?_eq_some_iff.1 ho).1;have hmem:=(hlist i hin).1 h1;obtain⟨x,hx,rfl⟩:=List.mem_map.1 hmem;obtain⟨l1,l2,rfl⟩:=List.append_of_mem hx;obtain⟨g1,g2,g3,o',ho',hcop⟩:=hall x hx;rw[ho] at ho';cases ho';have hbef:∀k,k<ops.size→gn am k x.1=true→listed.getD k true=true:=by
    intro k hk hb;simp only[jk,List.all_eq_true,List.mem_range] at hanc;have:=hanc x.1 hin;rw[ho] at this;simp only[Bool.and_eq_true,List.all_eq_true,List.mem_range,Bool.or_eq_true,Bool.not_eq_true'] at this;rcases this.2 k hk with h | h
    ·rw[hb] at h;cases h
    ·obtain⟨e,he,hh⟩:=Array.any_eq_true'.1 h;simp only[Bool.and_eq_true,Bool.or_eq_true,beq_iff_eq] at hh;have hl':=hpre e he hh.1;have hon:e.on<ops.size:=by
      rw[←hsz];rcases Nat.lt_or_ge e.on listed.size with h' | h'
      ·exact h'
      ·simp[Array.getElem?_eq_none h'] at hl'
     have hlt:e.on<listed.size:=by omega
     have hl'':listed.getD e.on true=true:=by simp[hlt] at hl' ⊢;exact hl'
     rcases hh.2 with rfl | hh2
     ·exact hl''
     ·exact hcl e.on hon hl'' k hk hh2
   have hsw:∀c'∈l1.map (·.2),gh ap c' x.2=true∧dM ap c'=true∧(c'.alc=true→∀t,c'.dst=some t→al t):=by
    intro c' hc';obtain⟨y,hy,rfl⟩:=List.mem_map.1 hc';obtain⟨q1,q2,q3,-⟩:=hall y (by simp[hy]);have hR:=(List.pairwise_append.1 hp).2.2 y hy x (by simp);refine⟨hR.2.2.resolve_left fun hb => ?_,q3⟩;have:=hbef y.1 q2 hb;have hf:=(hlist y.1 q2).2 (by simp;exact .inl ⟨_,hy⟩);rw[hf] at this;cases this
   have hK':bl (ConX C.P C.A) (l1.map (·.2)++x.2::l2.map (·.2)) K s:=by simpa using hK
   have hg:=mP g3.1 g3.2 hap (mQ (l1.map (·.2)) (l2.map (·.2)) s hsw hap hK');refine qo hC ho hcop his (fun t a' w' ht hk => ?_) hg;have hsub:(l1++l2).Sublist (l1++x::l2):=List.Sublist.append (List.Sublist.refl _) (List.sublist_cons_self _ _);have hxn:x.1 ∉ (l1++l2).map (·.1):=by
    intro hm;obtain⟨y,hy,he⟩:=List.mem_map.1 hm;rcases List.mem_append.1 hy with hy | hy
    ·exact ((List.pairwise_append.1 hp).2.2 y hy x (by simp)).2.1 he
    ·exact ((List.pairwise_cons.1 (List.pairwise_append.1 hp).2.1).1 y hy).2.1 he.symm
   refine ih (l1++l2) _ t a' w' (by simp at hl ⊢;omega) (by simpa using hsz) (fun k hk' => ?_) (hp.sublist hsub) (fun y hy=>hall y (hsub.subset hy)) (fun j hj hlj k hk' hb => ?_) ht hk.1 (by simpa using hk.2)
   ·by_cases hkx:x.1=k
    ·subst hkx;have hlt:x.1<listed.size:=by omega
     simp only[Array.getD_eq_getD_getElem?,Array.getElem?_setIfInBounds_self,hlt,if_true,Option.getD_some];exact⟨fun h=>(by cases h),fun h=>absurd h hxn⟩
    ·rw[getD_set_ne true hkx,hlist k hk'];constructor
     ·intro hm;obtain⟨y,hy,rfl⟩:=List.mem_map.1 hm;simp only[List.mem_append,List.mem_cons] at hy;rcases hy with hy | rfl | hy
      ·exact List.mem_map.2 ⟨y,by simp[hy],rfl⟩
      ·exact absurd rfl hkx
      ·exact List.mem_map.2 ⟨y,by simp[hy],rfl⟩
     ·intro hm;obtain⟨y,hy,rfl⟩:=List.mem_map.1 hm;exact List.mem_map.2 ⟨y,hsub.subset hy,rfl⟩
   ·have hset:∀q,listed.getD q true=true→(listed.setIfInBounds x.1 true).getD q true=true:=by
     intro q hq;by_cases hqx:x.1=q
     ·subst hqx;have hlt:x.1<listed.size:=by omega
      simp[hlt]
     ·rw[getD_set_ne true hqx];exact hq
    by_cases hjx:x.1=j
    ·subst hjx;exact hset k (hbef k hk' hb)
    ·rw[getD_set_ne true hjx] at hlj;exact hset k (hcl j hj hlj k hk' hb)
end
end Go.Proofs.Ytdchbabgopglcaa.M
namespace Go.Proofs.Ytdchbabgopglcaa
open Go.RowKit
def dch (d:Nat):UInt8:=UInt8.ofNat (48+d)
def aW (n:Nat):List UInt8:=if h:n=0 then [] else dch (n % 10)::aW (n / 10)
termination_by n
decreasing_by omega
def cr (n:Nat):List UInt8:=if n=0 then [48] else (aW n).reverse
def dec (z:Int):List UInt8:=if z<0 then 45::cr z.natAbs else cr z.natAbs
theorem bX:aW 0=[]:=by rw[aW];rfl
theorem bJ {n:Nat} (h:0<n):aW n=dch (n % 10)::aW (n / 10):=by rw[aW,dif_neg (by omega)]
theorem d4 {d:Nat} (h:d<10):(dch d).toNat=48+d:=by
 unfold dch;simp[UInt8.toNat_ofNat'];omega
theorem pV:aG []=0:=rfl
theorem Nt (n:Nat):aG (aW n).reverse=n:=by
 induction n using Nat.strongRecOn with
 |ind n ih =>
  rcases Nat.eq_zero_or_pos n with h | h
  ·subst h;rw[bX];rfl
  ·rw[bJ h,List.reverse_cons,lH,ih (n / 10) (by omega),d4 (by omega)];omega
theorem Nu (n:Nat):aG (cr n)=n:=by
 unfold cr;split
 ·rename_i h;subst h;rfl
 ·exact Nt n
theorem Nv {l:List UInt8} (h:∀c∈l,48≤c.toNat∧c.toNat≤57):∀j,j<l.length→48≤byt l j∧byt l j≤57:=by
 intro j hj;rw[iY hj];exact h _ (List.getElem_mem hj)
theorem Nw {l:List UInt8} (h:∀j,j<l.length→48≤byt l j∧byt l j≤57):∀c∈l,48≤c.toNat∧c.toNat≤57:=by
 intro c hc;obtain⟨j,hj,rfl⟩:=List.mem_iff_getElem.1 hc;have:=h j hj
 rwa[iY hj] at this
theorem Nx:∀(a:List UInt8),(∀c∈a,48≤c.toNat∧c.toNat≤57)→a.getLast?≠some 48→a=aW (aG a.reverse).toNat:=by
 intro a;induction a with
 |nil=>intro _ _;rw[List.reverse_nil,pV];exact bX.symm
 |cons c t ih =>
  intro hd hl;have hc:=hd c (List.mem_cons_self ..);have ht:t=aW (aG t.reverse).toNat:=by
   by_cases e:t=[]
   ·subst e;rw[List.reverse_nil,pV];exact bX.symm
   ·refine ih (fun x hx=>hd x (List.mem_cons_of_mem _ hx)) ?_
    rwa[List.getLast?_cons_of_ne_nil e] at hl
  have hb:0≤aG t.reverse:=(jr (Nv (l:=t.reverse) fun x hx=>hd x (List.mem_cons_of_mem _ (List.mem_reverse.1 hx)))).1;rw[List.reverse_cons,lH];obtain⟨m,hm⟩:=Int.eq_ofNat_of_zero_le hb;rw[hm] at ht ⊢;have e:((m:Int)*10+((c.toNat:Int)-48)).toNat=m*10+(c.toNat-48):=by omega
  rw[e];simp only[Int.toNat_natCast] at ht;have hpos:0<m*10+(c.toNat-48):=by
   rcases Nat.eq_zero_or_pos m with h0 | h0
   ·subst h0;rw[bX] at ht;subst ht;rcases Nat.eq_zero_or_pos (c.toNat-48) with h1 | h1
    ·have:c=48:=UInt8.toNat_inj.1 (by show c.toNat=48;omega);subst this;simp at hl
    ·omega
   ·omega
  rw[bJ hpos,show (m*10+(c.toNat-48)) % 10=c.toNat-48 by omega,show (m*10+(c.toNat-48)) / 10=m by omega,←ht];congr 1
  apply UInt8.toNat_inj.1;rw[d4 (by omega)];omega
theorem Ny {l:List UInt8} (h:Canon l):cr (aG l).toNat=l:=by
 have hb:=jr h.digs;by_cases h0:byt l 0=48
 ·have h1:=h.lead h0
  match l,h1,h0 with
  |[c],_,h0 =>
   rw[eG] at h0;have:c=48:=UInt8.toNat_inj.1 h0;subst this;rfl
 ·have hr:=Nx l.reverse (fun c hc=>Nw h.digs c (List.mem_reverse.1 hc)) (by
   rw[List.getLast?_reverse];intro e
   match l,e,h0 with
   |c::t,e,h0 =>
    simp at e;subst e;exact h0 rfl)
  rw[List.reverse_reverse] at hr;unfold cr;split
  ·rename_i hz;rw[hz,bX] at hr;have:=h.pos;rw[List.reverse_eq_nil_iff] at hr;rw[hr] at this;simp at this
  ·rw[←hr,List.reverse_reverse]
theorem Nz {t:List UInt8} (h:bT t=true):dec (dz t)=t:=by
 obtain⟨hc,hz⟩:=jq h;have hb:=jr hc.digs;have hd:=Ny hc;unfold dz dec;cases hn:aH t
 ·simp only[sg,Bool.false_eq_true,if_false];rw[if_neg (by omega),show (aG (body t)).natAbs=(aG (body t)).toNat by omega,hd,gV hn]
 ·have hpos:0<aG (body t):=by
   rcases Int.lt_or_le 0 (aG (body t)) with h1 | h1
   ·exact h1
   ·exfalso
    have e0:aG (body t)=0:=by omega
    rw[e0] at hd;have:=hz hn;rw[←hd] at this;exact this rfl
  simp only[sg,if_true];rw[if_pos (by omega),show (-aG (body t)).natAbs=(aG (body t)).toNat by omega,hd,iX hn]
  match t,hn with
  |c::r,hn =>
   have:c=45:=by simpa[aH] using hn
   subst this;rfl
end Go.Proofs.Ytdchbabgopglcaa
namespace Go.Proofs.Ytdchbabgopglcaa.Z4
open Go.RowKit
set_option maxHeartbeats 400000
theorem ou:(Try.prog.info? (ET .i64)).map (fun i=>(i.zero,i.size,i.bytes))=some (some (.int .i64 0),1,8):=by kernel_rfl
theorem kR {t:List UInt8}{f:Nat} (h:((t.drop f).head? == some 48)=true):f<t.length∧byt t f=48:=by
 rw[beq_iff_eq,List.head?_drop] at h;obtain⟨h1,h2⟩:=List.getElem?_eq_some_iff.1 h;exact⟨h1,by rw[iY h1,h2];rfl⟩
theorem kS {t:List UInt8}{f:Nat} (h:((t.drop f).head? == some 48)=false) (hl:f<t.length):byt t f≠48:=by
 intro e;rw[beq_eq_false_iff_ne,List.head?_drop,List.getElem?_eq_getElem hl] at h;rw[iY hl] at e;exact h (congrArg some (UInt8.toNat_inj.1 e))
theorem kT {t:List UInt8} (h:aH t=true):0<t.length∧((byt t 0:Int) == 45)=true:=by
 have h0:=kO h;refine⟨h0,?_⟩
 match t,h with
 |c::r,h =>
  have:c=45:=by simpa[aH] using h
  subst this;rfl
theorem kU {t:List UInt8} (h:aH t=false) (hl:0<t.length):((byt t 0:Int) == 45)=false:=by
 match t,hl with
 |c::r,_ =>
  rw[beq_eq_false_iff_ne,eG];intro e;have:c=45:=UInt8.toNat_inj.1 (by show c.toNat=45;omega);subst this;cases h
theorem EE (t:List UInt8) (w:World) (hs:t.length≤9223372036854775807) (hn:aH t=true) :
  Calls Try.prog 37 #[.string (bs t),.bool true,.bool true] w (fun e w'=>e = .returned (.tuple #[.int .i64 (ar true t).1,.bool (ar true t).2])∧Ext w w'):=by
 have hf:(if true&&aH t then 1 else 0)=1:=by simp[hn]
 obtain⟨hl,hb⟩:=kT hn;clear hn;by_cases h48:((t.drop 1).head? == some 48)=true
 ·have H:=hd_ (eH hf h48);obtain⟨hl48,hb48⟩:=kR h48;have hb48':((byt t 1:Int) == 48)=true:=by rw[beq_iff_eq];omega
  replace hf:=hd_ hf;clear h48 hb48;go_enter Try.func37,Try.ntmps37;go_wp2;go_ret2;exact⟨by rw[H.out];rfl,Ext.rf _⟩
 ·have h48:((t.drop 1).head? == some 48)=false:=by simpa using h48
  have H:Hd (∀k:Nat,(1:Nat)+bH (t.drop 1)=k→ar true t=(k,decide (1<k))):=hd_ (fun k hk=>dI hf h48 hk);have hnb:∀h:1<t.length,((byt t 1:Int) == 48)=false:=fun h=>by rw[beq_eq_false_iff_ne];have:=kS h48 h;omega
  replace hf:=hd_ hf;clear h48;by_cases hl48:1<t.length
  ·have hnb:=hnb hl48;go_enter Try.func37,Try.ntmps37;go_wp2;go_loop [9] (fun i => ∃k:Nat,i = .int .i64 k∧1≤k∧k≤t.length∧∀j,1≤j→j<k→48≤byt t j∧byt t j≤57) (fun n=>t.length-(intOf n).toNat)
   case atStart=>exact⟨1,rfl,Nat.le_refl _,by omega,fun j h1 h2=>by omega⟩
   case round =>
    obtain⟨k,rfl,hk1,hk2,hall⟩:=hrel;replace hall:=hd_ hall;by_cases hlt:k<t.length
    ·by_cases hd:48≤byt t k∧byt t k≤57
     ·obtain⟨hd1,hd2⟩:=hd;go_wp2;go_round
      case rel=>exact⟨k+1,by go_num,by omega,by omega,fun j h1 h2=>if e:j=k then by subst e;exact⟨hd1,hd2⟩ else hall.out j h1 (by omega)⟩
      case measure=>first | (simp[intOf];done) | (simp[intOf];omega)
     ·have HK:=hd_ (H.out k (cO hk1 hk2 hall.out (.inr hd)));by_cases hd1:48≤byt t k
      ·have hd2:¬ byt t k≤57:=fun h=>hd ⟨hd1,h⟩
       clear hd;go_wp2;go_ret2;exact⟨bS (by rw[HK.out]) (by rw[HK.out];try exact decide_eq_decide.2 (by omega)),Ext.rf _⟩
      ·clear hd;go_wp2;go_ret2;exact⟨bS (by rw[HK.out]) (by rw[HK.out];try exact decide_eq_decide.2 (by omega)),Ext.rf _⟩
    ·have HK:=hd_ (H.out k (cO hk1 hk2 hall.out (.inl (by omega))));go_wp2;go_ret2;exact⟨bS (by rw[HK.out]) (by rw[HK.out];try exact decide_eq_decide.2 (by omega)),Ext.rf _⟩
  ·clear hnb;first
   |(exfalso;omega)
   |(
     go_enter Try.func37,Try.ntmps37;go_wp2;go_loop [9] (fun i=>i = .int .i64 t.length∧1=t.length) (fun _=>0)
     case atStart=>exact⟨by congr 1;omega,by omega⟩
     case round =>
      obtain⟨rfl,hk⟩:=hrel;have HK:=hd_ (H.out t.length (cO (by omega) (Nat.le_refl _) (fun j h1 h2=>by omega) (.inl rfl)));replace hk:=hd_ hk;go_wp2;go_ret2;exact⟨bS (by rw[HK.out]) (by rw[HK.out];try first | exact decide_eq_decide.2 (by omega) | exact (decide_eq_false (by omega)).symm),Ext.rf _⟩)
theorem EF (t:List UInt8) (w:World) (hs:t.length≤9223372036854775807) (hn:aH t=false) (hl:0<t.length) :
  Calls Try.prog 37 #[.string (bs t),.bool true,.bool true] w (fun e w'=>e = .returned (.tuple #[.int .i64 (ar true t).1,.bool (ar true t).2])∧Ext w w'):=by
 have hf:(if true&&aH t then 1 else 0)=0:=by simp[hn]
 have hb:=kU hn hl;clear hn;by_cases h48:((t.drop 0).head? == some 48)=true
 ·have H:=hd_ (eH hf h48);obtain⟨hl48,hb48⟩:=kR h48;have hb48':((byt t 0:Int) == 48)=true:=by rw[beq_iff_eq];omega
  replace hf:=hd_ hf;clear h48 hb48;go_enter Try.func37,Try.ntmps37;go_wp2;go_ret2;exact⟨by rw[H.out];rfl,Ext.rf _⟩
 ·have h48:((t.drop 0).head? == some 48)=false:=by simpa using h48
  have H:Hd (∀k:Nat,(0:Nat)+bH (t.drop 0)=k→ar true t=(k,decide (0<k))):=hd_ (fun k hk=>dI hf h48 hk);have hnb:∀h:0<t.length,((byt t 0:Int) == 48)=false:=fun h=>by rw[beq_eq_false_iff_ne];have:=kS h48 h;omega
  replace hf:=hd_ hf;clear h48;by_cases hl48:0<t.length
  ·have hnb:=hnb hl48;go_enter Try.func37,Try.ntmps37;go_wp2;go_loop [9] (fun i => ∃k:Nat,i = .int .i64 k∧0≤k∧k≤t.length∧∀j,0≤j→j<k→48≤byt t j∧byt t j≤57) (fun n=>t.length-(intOf n).toNat)
   case atStart=>exact⟨0,rfl,Nat.le_refl _,by omega,fun j h1 h2=>by omega⟩
   case round =>
    obtain⟨k,rfl,hk1,hk2,hall⟩:=hrel;replace hall:=hd_ hall;by_cases hlt:k<t.length
    ·by_cases hd:48≤byt t k∧byt t k≤57
     ·obtain⟨hd1,hd2⟩:=hd;go_wp2;go_round
      case rel=>exact⟨k+1,by go_num,by omega,by omega,fun j h1 h2=>if e:j=k then by subst e;exact⟨hd1,hd2⟩ else hall.out j h1 (by omega)⟩
      case measure=>first | (simp[intOf];done) | (simp[intOf];omega)
     ·have HK:=hd_ (H.out k (cO hk1 hk2 hall.out (.inr hd)));by_cases hd1:48≤byt t k
      ·have hd2:¬ byt t k≤57:=fun h=>hd ⟨hd1,h⟩
       clear hd;go_wp2;go_ret2;exact⟨bS (by rw[HK.out]) (by rw[HK.out];try exact decide_eq_decide.2 (by omega)),Ext.rf _⟩
      ·clear hd;go_wp2;go_ret2;exact⟨bS (by rw[HK.out]) (by rw[HK.out];try exact decide_eq_decide.2 (by omega)),Ext.rf _⟩
    ·have HK:=hd_ (H.out k (cO hk1 hk2 hall.out (.inl (by omega))));go_wp2;go_ret2;exact⟨bS (by rw[HK.out]) (by rw[HK.out];try exact decide_eq_decide.2 (by omega)),Ext.rf _⟩
  ·clear hnb;first
   |(exfalso;omega)
   |(
     go_enter Try.func37,Try.ntmps37;go_wp2;go_loop [9] (fun i=>i = .int .i64 t.length∧0=t.length) (fun _=>0)
     case atStart=>exact⟨by congr 1;omega,by omega⟩
     case round =>
      obtain⟨rfl,hk⟩:=hrel;have HK:=hd_ (H.out t.length (cO (by omega) (Nat.le_refl _) (fun j h1 h2=>by omega) (.inl rfl)));replace hk:=hd_ hk;go_wp2;go_ret2;exact⟨bS (by rw[HK.out]) (by rw[HK.out];try first | exact decide_eq_decide.2 (by omega) | exact (decide_eq_false (by omega)).symm),Ext.rf _⟩)
theorem EG (t:List UInt8) (w:World) (hs:t.length≤9223372036854775807)  :
  Calls Try.prog 37 #[.string (bs t),.bool false,.bool false] w (fun e w'=>e = .returned (.tuple #[.int .i64 (ar false t).1,.bool (ar false t).2])∧Ext w w'):=by
 have hf:(if false&&aH t then 1 else 0)=0:=by simp[aH]
 skip
 by_cases h48:((t.drop 0).head? == some 48)=true
 ·have H:=hd_ (eH hf h48);obtain⟨hl48,hb48⟩:=kR h48;have hb48':((byt t 0:Int) == 48)=true:=by rw[beq_iff_eq];omega
  replace hf:=hd_ hf;clear h48 hb48;go_enter Try.func37,Try.ntmps37;go_wp2;go_ret2;exact⟨by rw[H.out];rfl,Ext.rf _⟩
 ·have h48:((t.drop 0).head? == some 48)=false:=by simpa using h48
  have H:Hd (∀k:Nat,(0:Nat)+bH (t.drop 0)=k→ar false t=(k,decide (0<k))):=hd_ (fun k hk=>dI hf h48 hk);have hnb:∀h:0<t.length,((byt t 0:Int) == 48)=false:=fun h=>by rw[beq_eq_false_iff_ne];have:=kS h48 h;omega
  replace hf:=hd_ hf;clear h48;by_cases hl48:0<t.length
  ·have hnb:=hnb hl48;go_enter Try.func37,Try.ntmps37;go_wp2;go_loop [9] (fun i => ∃k:Nat,i = .int .i64 k∧0≤k∧k≤t.length∧∀j,0≤j→j<k→48≤byt t j∧byt t j≤57) (fun n=>t.length-(intOf n).toNat)
   case atStart=>exact⟨0,rfl,Nat.le_refl _,by omega,fun j h1 h2=>by omega⟩
   case round =>
    obtain⟨k,rfl,hk1,hk2,hall⟩:=hrel;replace hall:=hd_ hall;by_cases hlt:k<t.length
    ·by_cases hd:48≤byt t k∧byt t k≤57
     ·obtain⟨hd1,hd2⟩:=hd;go_wp2;go_round
      case rel=>exact⟨k+1,by go_num,by omega,by omega,fun j h1 h2=>if e:j=k then by subst e;exact⟨hd1,hd2⟩ else hall.out j h1 (by omega)⟩
      case measure=>first | (simp[intOf];done) | (simp[intOf];omega)
     ·have HK:=hd_ (H.out k (cO hk1 hk2 hall.out (.inr hd)));by_cases hd1:48≤byt t k
      ·have hd2:¬ byt t k≤57:=fun h=>hd ⟨hd1,h⟩
       clear hd;go_wp2;go_ret2;exact⟨bS (by rw[HK.out]) (by rw[HK.out];try exact decide_eq_decide.2 (by omega)),Ext.rf _⟩
      ·clear hd;go_wp2;go_ret2;exact⟨bS (by rw[HK.out]) (by rw[HK.out];try exact decide_eq_decide.2 (by omega)),Ext.rf _⟩
    ·have HK:=hd_ (H.out k (cO hk1 hk2 hall.out (.inl (by omega))));go_wp2;go_ret2;exact⟨bS (by rw[HK.out]) (by rw[HK.out];try exact decide_eq_decide.2 (by omega)),Ext.rf _⟩
  ·clear hnb;first
   |(exfalso;omega)
   |(
     go_enter Try.func37,Try.ntmps37;go_wp2;go_loop [9] (fun i=>i = .int .i64 t.length∧0=t.length) (fun _=>0)
     case atStart=>exact⟨by congr 1;omega,by omega⟩
     case round =>
      obtain⟨rfl,hk⟩:=hrel;have HK:=hd_ (H.out t.length (cO (by omega) (Nat.le_refl _) (fun j h1 h2=>by omega) (.inl rfl)));replace hk:=hd_ hk;go_wp2;go_ret2;exact⟨bS (by rw[HK.out]) (by rw[HK.out];try first | exact decide_eq_decide.2 (by omega) | exact (decide_eq_false (by omega)).symm),Ext.rf _⟩)
theorem EH (w:World) :
  Calls Try.prog 37 #[.string (bs []),.bool true,.bool true] w (fun e w'=>e = .returned (.tuple #[.int .i64 (ar true []).1,.bool (ar true []).2])∧Ext w w'):=by
 go_enter Try.func37,Try.ntmps37;go_wp2;go_loop [9] (fun i=>i = .int .i64 0) (fun _=>0)
 case atStart=>rfl
 case round =>
  subst hrel;go_wp2;go_ret2;exact⟨rfl,Ext.rf _⟩
theorem word_any (t:List UInt8) (sg:Bool) (w:World) (hs:t.length≤9223372036854775807) :
  Calls Try.prog 37 #[.string (bs t),.bool sg,.bool sg] w (fun e w'=>e = .returned (.tuple #[.int .i64 (ar sg t).1,.bool (ar sg t).2])∧Ext w w'):=by
 cases sg
 ·exact EG t w hs
 ·cases hn:aH t
  ·rcases Nat.eq_zero_or_pos t.length with h | h
   ·rw[List.eq_nil_of_length_eq_zero h];exact EH w
   ·exact EF t w hs hn h
  ·exact EE t w hs hn
theorem digitsOf_any (t:List UInt8) (w:World) (hs:t.length≤9223372036854775807) :
  Calls Try.prog 38 #[.string (bs t)] w (fun e w'=>e = .returned (.int .i64 (body t).length)∧Ext w w'):=by
 have hb:=fL t;cases hn:aH t
 ·rw[hn] at hb;have H:Hd ((body t).length=t.length):=hd_ (by simpa using hb);clear hb;by_cases hl:0<t.length
  ·have hb:=kU hn hl;clear hn;go_enter Try.func38,Try.ntmps38;go_wp2;go_ret;exact⟨kZ (by rw[H.out]),Ext.rf _⟩
  ·clear hn;go_enter Try.func38,Try.ntmps38;go_wp2;go_ret;exact⟨kZ (by rw[H.out]),Ext.rf _⟩
 ·obtain⟨hl,hb2⟩:=kT hn;have H:Hd (((body t).length:Int)=t.length-1):=hd_ (by rw[hb,hn];simp;omega);clear hb hn;go_enter Try.func38,Try.ntmps38;go_wp2;go_ret;exact⟨kZ (by rw[H.out]),Ext.rf _⟩
end Go.Proofs.Ytdchbabgopglcaa.Z4
namespace Go.Proofs.Ytdchbabgopglcaa.M
open Go.RowKit
inductive CC where
 |skip
 |ops (ap:List (Nat×Nat)) (l:List COp)
 |seq (a b:CC)
 |cond (x:Opd) (a b:CC)
 |block (id:Nat) (a:CC)
 |loop (a:CC)
 |exit (id:Nat)
 |ret
 |stuck
inductive AExit where
 |normal
 |exit (id:Nat)
 |ret
def Sub (OT:List TypeId) (s t:St):Prop:=∀(C:Ctx) (a:Act) (w:World),C.OT=OT→Is C s a w→Is C t a w
theorem Sub.rf {OT:List TypeId} (s:St):Sub OT s s:=fun _ _ _ _ h=>h
theorem Sub.tr {OT:List TypeId}{s t u:St} (h:Sub OT s t) (k:Sub OT t u):Sub OT s u:=fun C a w e hs=>k C a w e (h C a w e hs)
def cw (OT:List TypeId) (G:FuncId→List D→D→Prop):CC→(AExit→St→Prop)→St→Prop
 |.skip,Q,s=>Q .normal s
 |.ops ap l,Q,s=>em ap s.r=true∧bl G l (Q .normal) s
 |.seq a b,Q,s=>cw OT G a (fun e t=>match e with
  |.normal => ∃u,Sub OT t u∧cw OT G b Q u
  |e=>Q e t) s
 |.cond x a b,Q,s=>match x.ev s.r with
  |.p (.bool c)=>(c=true→cw OT G a Q s)∧(c=false→cw OT G b Q s)
  |_=>False
 |.block id a,Q,s=>cw OT G a (fun e t=>match e with
  |.exit j=>if j=id then Q .normal t else Q (.exit j) t
  |e=>Q e t) s
 |.loop a,Q,s => ∀R:St→Prop,(∀t,cw OT G a (fun e t=>match e with
  |.normal => ∃u,Sub OT t u∧R u
  |e=>Q e t) t→R t)→∃u,Sub OT s u∧R u
 |.exit id,Q,s=>Q (.exit id) s
 |.ret,Q,s=>Q .ret s
 |.stuck,_,_=>False
structure Hint where
 id:Nat
 ord:List Nat
 am:List Nat
 ap:List (Nat×Nat)
def gw (P:Program) (nt:Nat) (OT:List TypeId) (ops:Array Oper):List Nat→Option (List (Nat×COp))
 |[]=>some []
 |i::l=>match ops[i]? with
  |some o=>match cop P nt OT ops o,gw P nt OT ops l with
   |some c,some m=>some ((i,c)::m)
   |_,_=>none
  |none=>none
def bW (P:Program) (nt:Nat) (OT:List TypeId) (H:List Hint):Code→Option CC
 |.skip=>some .skip
 |.region id ops draw=>if draw then
   match H.find? (·.id == id) with
   |some h=>match gw P nt OT ops h.ord with
    |some l=>if nA ops h.am h.ap l then some (.ops h.ap (l.map (·.2))) else some .stuck
    |none=>some .stuck
   |none=>some .stuck
  else match gw P nt OT ops (List.range ops.size) with
   |some l=>some (.ops [] (l.map (·.2)))
   |none=>some .stuck
 |.seq a b=>match bW P nt OT H a,bW P nt OT H b with
  |some x,some y=>some (.seq x y)
  |_,_=>none
 |.cond c a b=>match bW P nt OT H a,bW P nt OT H b with
  |some x,some y=>some (.cond (opd P none c) x y)
  |_,_=>none
 |.block id a=>(bW P nt OT H a).map (.block id)
 |.loop a=>(bW P nt OT H a).map .loop
 |.exit id=>some (.exit id)
 |.ret=>some .ret
 |_=>some .stuck
section
variable {C:Ctx}{s:St}{a:Act}{w:World}
def Qm (C:Ctx) (Q:AExit→St→Prop):Exit→Act→World→Prop
 |.normal,a,w => ∃t,Is C t a w∧Q .normal t
 |.exit id,a,w => ∃t,Is C t a w∧Q (.exit id) t
 |.ret,a,w => ∃t,Is C t a w∧Q .ret t
 |_,_,_=>False
theorem kP {P:Program}{nt:Nat}{OT:List TypeId}{ops:Array Oper}:∀{l:List Nat}{m:List (Nat×COp)},gw P nt OT ops l=some m→m.map (·.1)=l∧∀x∈m,∃o,ops[x.1]? = some o∧cop P nt OT ops o=some x.2
 |[],m,h=>by simp only[gw,Option.some.injEq] at h;subst h;exact⟨rfl,by simp⟩
 |i::l,m,h=>by
  simp only[gw] at h;split at h
  case h_2=>cases h
  rename_i o ho;split at h
  case h_2=>cases h
  rename_i c m' h1 h2;simp only[Option.some.injEq] at h;subst h;obtain⟨g1,g2⟩:=kP h2;refine⟨by simp[g1],fun x hx => ?_⟩;rcases List.mem_cons.1 hx with rfl | hx
  ·exact⟨o,ho,h1⟩
  ·exact g2 x hx
theorem nY {ops:Array Oper}{Q:Exit→Act→World→Prop}{K:St→Prop} (hC:C.Ok) (hQ:∀t a' w',Is C t a' w'→K t→Q .normal a' w'):∀(m:List (Nat×COp)) (s:St) (a:Act) (w:World),
  (∀x∈m,∃o,ops[x.1]? = some o∧cop C.P C.nt C.OT ops o=some x.2)→Is C s a w→bl (ConX C.P C.A) (m.map (·.2)) K s→wpOps C.P ops Q (m.map (·.1)) a w
 |[],s,a,w,_,his,hK=>hQ s a w his hK
 |x::m,s,a,w,hm,his,hK=>by
  obtain⟨o,ho,hc⟩:=hm x (by simp);rw[List.map_cons,wpOps_cons];exact qo hC ho hc his (fun t a' w' ht hk=>nY hC hQ m t a' w' (fun y hy=>hm y (by simp[hy])) ht hk) hK
theorem Is.later (h:Is C s a w){w':World} (he:Ext w w'):Is C s a w':=⟨h.1.elim fun loc hr=>⟨loc,hr.later he⟩,h.2⟩
theorem nZ (hC:C.Ok) (hm:C.P.follows .mixedOrders=true) (H:List Hint):∀(c:Code) (cc:CC) (Q:AExit→St→Prop) (s:St) (a:Act) (w:World),bW C.P C.nt C.OT H c=some cc→cw C.OT (ConX C.P C.A) cc Q s→Is C s a w→c.wp C.P (Qm C Q) a w:=by
 intro c;induction c with
 |skip=>intro cc Q s a w h1 h2 h3;simp only[bW,Option.some.injEq] at h1;subst h1;exact wp_skip ⟨s,h3,h2⟩
 |region id ops draw =>
  intro cc Q s a w h1 h2 h3;simp only[bW] at h1;cases draw with
  |true =>
   simp only[if_true] at h1;split at h1
   case h_2=>cases h1;exact h2.elim
   rename_i h _;split at h1
   case h_2=>cases h1;exact h2.elim
   rename_i l hl;split at h1
   case isFalse=>cases h1;exact h2.elim
   rename_i hok;simp only[Option.some.injEq] at h1;subst h1;obtain⟨hap,hcw⟩:=h2;simp only[nA,Bool.and_eq_true,beq_iff_eq,List.all_eq_true,decide_eq_true_eq] at hok;obtain⟨⟨⟨⟨hlen,hevery⟩,hall⟩,hanc⟩,hpairs⟩:=hok;obtain⟨g1,g2⟩:=kP hl;obtain⟨p1,p2⟩:=nC hpairs;refine wp_region_any hm ?_;have hw:Is C s a { w with drawn:=w.drawn+1 }:=h3.later (Below.drew (Below.refl _ _));have hfull:∀i,i<ops.size→i∈l.map (·.1):=by
    intro i hi;have:=hevery i (List.mem_range.2 hi);simpa using this
   have hfree:ApI (fun t => ∃c∈l.map (·.2),c.alc=true∧c.dst=some t) h.ap s.r:=by
    refine⟨hap,fun p hp ⟨c,hc,hca,hct⟩ j o he => ?_⟩;have hk5:∀c∈l.map (·.2),c.op.kind≠5:=fun c hc=>by
     obtain⟨x,hx,rfl⟩:=List.mem_map.1 hc;have hne:h.ap.isEmpty=false:=by cases hq:h.ap with
      |nil=>rw[hq] at hp;cases hp
      |cons=>rfl
     have:=(hall x hx).2;simp only[dM,hne,Bool.false_or,Bool.and_eq_true,bne_iff_ne,ne_eq] at this;exact this.1
    have hm:=mR _ s hk5 hcw c hc hca _ hct;obtain⟨⟨loc,hR⟩,-⟩:=h3;have h5:=hR.tmps p.1;rw[he] at h5;generalize a.tmps.getD p.1 undef=vv at h5;cases h5 with
    |ptr L id i off h1 h2=>rw[hR.dom _ hm] at h1;cases h1
   have:=yG (Q:=Qm C Q) (K:=Q .normal) (ap:=h.ap) hC hanc (fun t a' w' ht hk=>⟨t,ht,hk⟩) l.length l (Array.replicate ops.size false) s a _ rfl (by simp) (fun i hi=>by
     simp only[Array.getD_eq_getD_getElem?,Array.getElem?_replicate,hi,if_true,Option.getD_some,true_iff];exact hfull i hi) p1 (fun x hx=>⟨p2 x hx,(hall x hx).1,⟨(hall x hx).2,fun ha t ht=>⟨x.2,List.mem_map.2 ⟨x,hx,rfl⟩,ha,ht⟩⟩,g2 x hx⟩) (fun j hj hlj=>by simp[hj] at hlj) hw hfree hcw
   rwa[hlen] at this
  |false =>
   simp only[Bool.false_eq_true,if_false] at h1;split at h1
   case h_2=>cases h1;exact h2.elim
   rename_i l hl;simp only[Option.some.injEq] at h1;subst h1;obtain⟨hap,hcw⟩:=h2;obtain⟨g1,g2⟩:=kP hl;refine wp_region ?_;rw[←g1];exact nY hC (fun t a' w' ht hk=>⟨t,ht,hk⟩) l s a w g2 h3 hcw
 |seq x y ihx ihy =>
  intro cc Q s a w h1 h2 h3;simp only[bW] at h1;split at h1
  case h_2=>cases h1
  rename_i cx cy hx hy;simp only[Option.some.injEq] at h1;subst h1;refine wp_seq (wp_mono (ihx cx _ s a w hx h2 h3) ?_);intro e a' w' hq;cases e with
  |normal =>
   obtain⟨t,ht,u,hsub,hu⟩:=hq;exact ihy cy Q u a' w' hy hu (hsub C a' w' rfl ht)
  |exit id=>exact hq
  |ret=>exact hq
  |_=>exact hq.elim
 |cond o x y ihx ihy =>
  intro cc Q s a w h1 h2 h3;simp only[bW] at h1;split at h1
  case h_2=>cases h1
  rename_i cx cy hx hy;simp only[Option.some.injEq] at h1;subst h1;simp only[cw] at h2;split at h2
  case h_2=>exact h2.elim
  rename_i b hb;obtain⟨loc,hr⟩:=h3.1;have hv:=hr.opd (P:=C.P) none o;rw[hb] at hv;have hv:=hv.inv;generalize hov:a.eval o=v at hv;cases hv;cases b with
  |true=>exact wp_cond_true hov (ihx cx Q s a w hx (h2.1 rfl) h3)
  |false=>exact wp_cond_false hov (ihy cy Q s a w hy (h2.2 rfl) h3)
 |block id x ih =>
  intro cc Q s a w h1 h2 h3;simp only[bW,Option.map_eq_some_iff] at h1;obtain⟨cx,hx,rfl⟩:=h1;refine wp_block (wp_mono (ih cx _ s a w hx h2 h3) ?_);intro e a' w' hq;cases e with
  |normal=>exact hq
  |exit j =>
   obtain⟨t,ht,hq⟩:=hq;simp only[Exit.inBlock];by_cases hj:j=id
   ·rw[if_pos hj];simp only[hj,if_true] at hq;exact⟨t,ht,hq⟩
   ·rw[if_neg hj];simp only[hj,if_false] at hq;exact⟨t,ht,hq⟩
  |ret=>exact hq
  |_=>exact hq.elim
 |loop x ih =>
  intro cc Q s a w h1 h2 h3;simp only[bW,Option.map_eq_some_iff] at h1;obtain⟨cx,hx,rfl⟩:=h1;intro b k cs;have key:=h2 (fun t => ∀(a:Act) (w:World),Is C t a w→∃e a' w',Qm C Q e a' w'∧Arrives C.P (lone (b.at a (.code x::.inLoop x::k)) cs w) b k cs e a' w') (fun t ht a w hI=>by
   obtain⟨e,a₁,w₁,hq,harr⟩:=ih cx _ t a w hx ht hI b (.inLoop x::k) cs;cases e with
   |normal =>
    obtain⟨t',ht',u,hsub,hu⟩:=hq;obtain⟨e₂,a₂,w₂,hq₂,harr₂⟩:=hu a₁ w₁ (hsub C a₁ w₁ rfl ht');exact⟨e₂,a₂,w₂,hq₂,.of_steps (Steps.trans harr (.one step_inLoop)) harr₂⟩
   |exit id=>exact⟨.exit id,a₁,w₁,hq,.pass (x:=.inLoop x) rfl (fun _ _ => .inl (by simp)) harr⟩
   |ret=>exact⟨.ret,a₁,w₁,hq,.pass (x:=.inLoop x) rfl (fun _ _ => .inl (by simp)) harr⟩
   |_=>exact hq.elim)
  obtain⟨u,hsub,hu⟩:=key;obtain⟨e,a',w',hq,harr⟩:=hu a w (hsub C a w rfl h3);exact⟨e,a',w',hq,.of_steps (.one step_loop) harr⟩
 |exit id=>intro cc Q s a w h1 h2 h3;simp only[bW,Option.some.injEq] at h1;subst h1;exact wp_exit ⟨s,h3,h2⟩
 |ret=>intro cc Q s a w h1 h2 h3;simp only[bW,Option.some.injEq] at h1;subst h1;exact wp_ret ⟨s,h3,h2⟩
 |_ =>
  intro cc Q s a w h1 h2;simp only[bW,Option.some.injEq] at h1;subst h1;exact h2.elim
end
end Go.Proofs.Ytdchbabgopglcaa.M
