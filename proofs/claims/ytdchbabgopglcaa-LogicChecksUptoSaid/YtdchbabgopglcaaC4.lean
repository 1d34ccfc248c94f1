/- Lemmas. -/
import Derived.Test.YtdchbabgopglcaaC3
import Derived.Test.YtdchbabgopglcaaC2
namespace Go.Proofs.Ytdchbabgopglcaa
open Go.RowKit
set_option maxHeartbeats 400000
theorem dZ:(Try.prog.info? 100).map (fun i=>(i.zero,i.size,i.bytes))=some (some (.int .u32 0),1,4):=by kernel_rfl
theorem iD (x y c:Int) (w:World) (hx:0≤x∧x≤4294967295) (hy:0≤y∧y≤4294967295) (hc:0≤c∧c≤1) :
  Calls Try.prog 86 #[.int .u32 x,.int .u32 y,.int .u32 c] w (fun e w'=>e = .returned (.tuple #[.int .u32 ((x+y+c) % 4294967296),.int .u32 ((x+y+c) / 4294967296)])∧w=w'):=by
 go_enter Try.func86,Try.ntmps86;go_wp2;go_ret2;exact⟨rfl,rfl⟩
def bor (x y c:Int):Int:=if x-y-c<0 then 1 else 0
theorem pT (a b:Nat) (ha:a<4294967296) (hb:b<4294967296):(a &&& b) / 2147483648=(a / 2147483648)*(b / 2147483648):=by
 have h:(a &&& b) / 2^31=(a / 2^31) &&& (b / 2^31):=Nat.and_div_two_pow;simp only[Nat.reducePow] at h;rw[h];have h1:a / 2147483648<2:=by omega
 have h2:b / 2147483648<2:=by omega
 generalize a / 2147483648=p at *;generalize b / 2147483648=q at *
 match p,h1,q,h2 with
 |0,_,0,_=>rfl
 |0,_,1,_=>rfl
 |1,_,0,_=>rfl
 |1,_,1,_=>rfl
theorem Nq (a b:Nat) (ha:a<4294967296) (hb:b<4294967296):(a ||| b) / 2147483648=max (a / 2147483648) (b / 2147483648):=by
 have h:(a ||| b) / 2^31=(a / 2^31) ||| (b / 2^31):=Nat.or_div_two_pow
 simp only[Nat.reducePow] at h;rw[h];have h1:a / 2147483648<2:=by omega
 have h2:b / 2147483648<2:=by omega
 generalize a / 2147483648=p at *;generalize b / 2147483648=q at *
 match p,h1,q,h2 with
 |0,_,0,_=>rfl
 |0,_,1,_=>rfl
 |1,_,0,_=>rfl
 |1,_,1,_=>rfl
theorem lO (a b:Nat) (ha:a<4294967296) (hb:b<4294967296):(a ^^^ b) / 2147483648=(a / 2147483648+b / 2147483648) % 2:=by
 have h:(a ^^^ b) / 2^31=(a / 2^31) ^^^ (b / 2^31):=Nat.xor_div_two_pow;simp only[Nat.reducePow] at h;rw[h];have h1:a / 2147483648<2:=by omega
 have h2:b / 2147483648<2:=by omega
 generalize a / 2147483648=p at *;generalize b / 2147483648=q at *
 match p,h1,q,h2 with
 |0,_,0,_=>rfl
 |0,_,1,_=>rfl
 |1,_,0,_=>rfl
 |1,_,1,_=>rfl
theorem jR (a:Nat) (ha:a<4294967296):4294967295 ^^^ a<4294967296:=Nat.xor_lt_two_pow (n:=32) (by omega) ha
theorem Nr (x y d:Nat) (hx:x<4294967296) (hy:y<4294967296) (hd:d<4294967296) :
  (((4294967295 ^^^ x) &&& y) ||| ((4294967295 ^^^ (x ^^^ y)) &&& d)) / 2147483648=max ((1-x / 2147483648)*(y / 2147483648)) ((1-(x / 2147483648+y / 2147483648) % 2)*(d / 2147483648)):=by
 have hxy:x ^^^ y<4294967296:=Nat.xor_lt_two_pow (n:=32) hx hy;have h1:=jR x hx;have h2:=jR _ hxy;have h3:(4294967295 ^^^ x) &&& y<4294967296:=Nat.and_lt_two_pow (n:=32) _ hy;have h4:(4294967295 ^^^ (x ^^^ y)) &&& d<4294967296:=Nat.and_lt_two_pow (n:=32) _ hd;rw[Nq _ _ h3 h4,pT _ _ h1 hy,pT _ _ h2 hd,lO _ _ (by omega) hx,lO _ _ (by omega) hxy,lO _ _ hx hy];congr 1
 ·congr 1;omega
 ·congr 1;omega
theorem Ns (x y c:Int) (hx:0≤x∧x≤4294967295) (hy:0≤y∧y≤4294967295) (hc:0≤c∧c≤1) :
  bits BinOp.or IntKind.u32 (bits BinOp.and IntKind.u32 (bits BinOp.xor IntKind.u32 IntKind.u32.max x) y)
   (bits BinOp.and IntKind.u32 (bits BinOp.xor IntKind.u32 IntKind.u32.max (bits BinOp.xor IntKind.u32 x y)) ((x-y-c) % 4294967296)) / 2147483648=bor x y c:=by
 obtain⟨a,rfl⟩:=Int.eq_ofNat_of_zero_le hx.1;obtain⟨b,rfl⟩:=Int.eq_ofNat_of_zero_le hy.1;obtain⟨d,hd⟩:=Int.eq_ofNat_of_zero_le (a:=((a:Int)-b-c) % 4294967296) (by omega);have hd':d<4294967296:=by omega
 have ha:a<4294967296:=by omega
 have hb:b<4294967296:=by omega
 have hm:IntKind.u32.max=((4294967295:Nat):Int):=by decide
 have hxy:a ^^^ b<4294967296:=Nat.xor_lt_two_pow (n:=32) ha hb;have h1:=jR a ha;have h2:=jR _ hxy;have h3:(4294967295 ^^^ a) &&& b<4294967296:=Nat.and_lt_two_pow (n:=32) _ hb;have h4:(4294967295 ^^^ (a ^^^ b)) &&& d<4294967296:=Nat.and_lt_two_pow (n:=32) _ hd';rw[hd,hm,u32_xor_nat _ _ (by omega) ha,u32_xor_nat _ _ ha hb,u32_xor_nat _ _ (by omega) hxy,u32_and_nat _ _ h1 hb,u32_and_nat _ _ h2 hd',u32_or_nat _ _ h3 h4];have:=Nr a b d ha hb hd';have e:(((((4294967295 ^^^ a) &&& b) ||| ((4294967295 ^^^ (a ^^^ b)) &&& d):Nat):Int)) / 2147483648=((((((4294967295 ^^^ a) &&& b) ||| ((4294967295 ^^^ (a ^^^ b)) &&& d)) / 2147483648:Nat)):Int):=by omega
 rw[e,this];unfold bor;have ha2:a / 2147483648<2:=by omega
 have hb2:b / 2147483648<2:=by omega
 have hd2:d / 2147483648<2:=by omega
 split
 ·generalize hp:a / 2147483648=p at *;generalize hq:b / 2147483648=q at *;generalize hr:d / 2147483648=r at *
  match p,ha2,q,hb2,r,hd2 with
  |0,_,0,_,0,_=>omega
  |0,_,0,_,1,_=>rfl
  |0,_,1,_,0,_=>rfl
  |0,_,1,_,1,_=>rfl
  |1,_,0,_,0,_=>omega
  |1,_,0,_,1,_=>omega
  |1,_,1,_,0,_=>omega
  |1,_,1,_,1,_=>rfl
 ·generalize hp:a / 2147483648=p at *;generalize hq:b / 2147483648=q at *;generalize hr:d / 2147483648=r at *
  match p,ha2,q,hb2,r,hd2 with
  |0,_,0,_,0,_=>rfl
  |0,_,0,_,1,_=>omega
  |0,_,1,_,0,_=>omega
  |0,_,1,_,1,_=>omega
  |1,_,0,_,0,_=>rfl
  |1,_,0,_,1,_=>rfl
  |1,_,1,_,0,_=>rfl
  |1,_,1,_,1,_=>omega
theorem pU (x y c:Int) (w:World) (hx:0≤x∧x≤4294967295) (hy:0≤y∧y≤4294967295) (hc:0≤c∧c≤1) :
  Calls Try.prog 77 #[.int .u32 x,.int .u32 y,.int .u32 c] w (fun e w'=>e = .returned (.tuple #[.int .u32 ((x-y-c) % 4294967296),.int .u32 (bor x y c)])∧w=w'):=by
 have H:=Ns x y c hx hy hc;go_enter Try.func77,Try.ntmps77;go_wp2;go_ret2;exact⟨rfl,rfl⟩
theorem lP (x y:Int) (w:World) :
  Calls Try.prog 68 #[.int .i64 x,.int .i64 y] w (fun e w'=>e = .returned (.int .i64 (cmpZ x y))∧w=w'):=by
 rcases Int.lt_trichotomy x y with h | h | h
 ·have H:=hd_ (ei h);go_enter Try.func68,Try.ntmps68;go_wp2;go_ret;exact⟨by rw[H.out];rfl,rfl⟩
 ·subst h;have H:=hd_ (gT (x:=x) rfl);go_enter Try.func68,Try.ntmps68;go_wp2;go_ret;exact⟨by rw[H.out];rfl,rfl⟩
 ·have H:=hd_ (fq h);go_enter Try.func68,Try.ntmps68;go_wp2;go_ret;exact⟨by rw[H.out];rfl,rfl⟩
theorem lQ (x y:Int) (w:World) :
  Calls Try.prog 69 #[.int .u32 x,.int .u32 y] w (fun e w'=>e = .returned (.int .i64 (cmpZ x y))∧w=w'):=by
 rcases Int.lt_trichotomy x y with h | h | h
 ·have H:=hd_ (ei h);go_enter Try.func69,Try.ntmps69;go_wp2;go_ret;exact⟨by rw[H.out];rfl,rfl⟩
 ·subst h;have H:=hd_ (gT (x:=x) rfl);go_enter Try.func69,Try.ntmps69;go_wp2;go_ret;exact⟨by rw[H.out];rfl,rfl⟩
 ·have H:=hd_ (fq h);go_enter Try.func69,Try.ntmps69;go_wp2;go_ret;exact⟨by rw[H.out];rfl,rfl⟩
def eF (c:UInt8):Bool:=decide (48≤c.toNat)&&decide (c.toNat≤57)
def bH (t:List UInt8):Nat:=(t.takeWhile eF).length
def aH (t:List UInt8):Bool:=t.head? == some 45
def body (t:List UInt8):List UInt8:=if aH t then t.tail else t
theorem iX {t:List UInt8} (h:aH t=true):body t=t.tail:=by simp[body,h]
theorem gV {t:List UInt8} (h:aH t=false):body t=t:=by simp[body,h]
def ar (signed:Bool) (t:List UInt8):Nat×Bool:=
 let f:=if signed&&aH t then 1 else 0
 if (t.drop f).head? == some 48 then (if !signed||f == 1 then (f,false) else (1,true))
 else (f+bH (t.drop f),decide (0<bH (t.drop f)))
theorem eG (c:UInt8) (t:List UInt8):byt (c::t) 0=c.toNat:=rfl
theorem km (c:UInt8) (t:List UInt8) (i:Nat):byt (c::t) (i+1)=byt t i:=by simp[byt]
theorem ko (t:List UInt8) (f i:Nat):byt (t.drop f) i=byt t (f+i):=by simp[byt,List.getElem?_drop]
theorem iY {t:List UInt8}{i:Nat} (h:i<t.length):byt t i=t[i].toNat:=by simp[byt,h]
theorem RL {l:List UInt8}{m:Nat} (hm:m≤l.length) (h:∀j,j<m→48≤byt l j∧byt l j≤57) (hs:m=l.length∨¬ (48≤byt l m∧byt l m≤57)):bH l=m:=by
 induction l generalizing m with
 |nil=>simp at hm;subst hm;rfl
 |cons c t ih =>
  match m with
  |0 =>
   rcases hs with hs | hs
   ·simp at hs
   ·rw[eG] at hs;have:eF c=false:=by unfold eF;simpa using hs
    simp[bH,this]
  |m+1 =>
   have h0:=h 0 (by omega);rw[eG] at h0;have hd:eF c=true:=by unfold eF;simpa using h0
   have:=ih (m:=m) (by simpa using hm) (fun j hj=>by have:=h (j+1) (by omega);rwa[km] at this) (by
    rcases hs with hs | hs
    ·left;simpa using hs
    ·right;rwa[km] at hs)
   simp only[bH] at this ⊢;simp[hd,this]
theorem cO {t:List UInt8}{f k:Nat} (hf:f≤k) (hk:k≤t.length) (h:∀j,f≤j→j<k→48≤byt t j∧byt t j≤57) (hs:k=t.length∨¬ (48≤byt t k∧byt t k≤57)):f+bH (t.drop f)=k:=by
 rw[RL (l:=t.drop f) (m:=k-f) (by simp;omega) (fun j hj=>by rw[ko];exact h _ (by omega) (by omega)) (by
  rcases hs with hs | hs
  ·left;simp;omega
  ·right;rw[ko,show f+(k-f)=k by omega];exact hs)]
 omega
theorem mv (t:List UInt8) (c:UInt8) (h:1≤t.length):(t.take 1 == [c])=(t.head? == some c):=by
 match t,h with
 |x::r,_=>simp
theorem gW (t:List UInt8) (c:UInt8) (w:World) (hs:t.length≤9223372036854775807) :
  Calls Try.prog 42 #[.string (bs t),.string ⟨#[c]⟩] w (fun e w'=>e = .returned (.bool (t.head? == some c))∧w=w'):=by
 by_cases h0:1≤t.length
 ·have H:=hd_ (mv t c h0);go_enter Try.func42,Try.ntmps42;go_wp2;go_ret;exact⟨oL (by rw[←H.out]),rfl⟩
 ·have H:Hd ((t.head? == some c)=false):=hd_ (by
   have:t=[]:=List.eq_nil_of_length_eq_zero (by omega);subst this;rfl)
  go_enter Try.func42,Try.ntmps42;go_wp2;go_ret;exact⟨oL H.out.symm,rfl⟩
theorem mw (t:List UInt8) (w:World) (hs:t.length≤9223372036854775807) :
  Calls Try.prog 32 #[.string (bs t),.string ⟨#[45]⟩] w (fun e w'=>e = .returned (.string (bs (body t)))∧w=w'):=by
 by_cases h0:1≤t.length
 ·by_cases hn:aH t=true
  ·have h:(t.take 1 == [45])=true:=(mv t 45 h0).trans hn;replace hn:=hd_ hn;go_enter Try.func32,Try.ntmps32;go_wp2;go_ret;exact⟨gB (by rw[iX hn.out]),rfl⟩
  ·have h:(t.take 1 == [45])=false:=(mv t 45 h0).trans (by simpa[aH] using hn);have hn:=hd_ (Bool.eq_false_iff.2 hn);go_enter Try.func32,Try.ntmps32;go_wp2;go_ret;exact⟨gB (by rw[gV hn.out]),rfl⟩
 ·have h0':t=[]:=List.eq_nil_of_length_eq_zero (by omega);subst h0';go_enter Try.func32,Try.ntmps32;go_wp2;go_ret;exact⟨rfl,rfl⟩
theorem bS {k:IntKind}{a b:Int}{p q:Bool} (h:a=b) (h':p=q):Ending.returned (.tuple #[.int k a,.bool p]) = .returned (.tuple #[.int k b,.bool q]):=by rw[h,h']
theorem eH {sg:Bool}{t:List UInt8}{f:Nat} (hf:(if sg&&aH t then 1 else 0)=f) (h:((t.drop f).head? == some 48)=true):ar sg t=if !sg||f == 1 then (f,false) else (1,true):=by
 subst hf;simp only[ar];rw[if_pos h]
theorem dI {sg:Bool}{t:List UInt8}{f k:Nat} (hf:(if sg&&aH t then 1 else 0)=f) (h:((t.drop f).head? == some 48)=false) (hk:f+bH (t.drop f)=k):ar sg t=(k,decide (f<k)):=by
 subst hf;subst hk;simp only[ar];rw[if_neg (by rw[h];simp)];simp
theorem RM (t:List UInt8) (w:World) (hs:t.length≤9223372036854775807) (hn:aH t=true) :
  Calls Try.prog 31 #[.string (bs t),.bool true] w (fun e w'=>e = .returned (.tuple #[.int .i64 (ar true t).1,.bool (ar true t).2])∧Ext w w'):=by
 have hf:(if true&&aH t then 1 else 0)=1:=by simp[hn]
 have hl:1≤t.length:=by
  rcases Nat.eq_zero_or_pos t.length with h | h
  ·rw[List.eq_nil_of_length_eq_zero h] at hn;cases hn
  ·exact h
 have hn':(t.head? == some 45)=true:=hn;clear hn;by_cases h48:((t.drop 1).head? == some 48)=true
 ·have H:=hd_ (eH hf h48);have h48':(t[1]? == some 48)=true:=by simpa using h48
  replace hf:=hd_ hf;clear h48;go_enter Try.func31,Try.ntmps31;go_wp2_with (go_at_call 42;((with_reducible refine (gW _ _ _ (by first | exact hs | (simp;omega))).mono ?_);rintro e w' ⟨rfl,rfl⟩));go_ret2;exact⟨by rw[H.out];rfl,Ext.rf _⟩
 ·have h48:((t.drop 1).head? == some 48)=false:=by simpa using h48
  have H:Hd (∀k:Nat,(1:Nat)+bH (t.drop 1)=k→ar true t=(k,decide (1<k))):=hd_ (fun k hk=>dI hf h48 hk);have h48':(t[1]? == some 48)=false:=by simpa using h48
  replace hf:=hd_ hf;clear h48;go_enter Try.func31,Try.ntmps31;go_wp2_with (go_at_call 42;((with_reducible refine (gW _ _ _ (by first | exact hs | (simp;omega))).mono ?_);rintro e w' ⟨rfl,rfl⟩));go_loop [7] (fun i => ∃k:Nat,i = .int .i64 k∧1≤k∧k≤t.length∧∀j,1≤j→j<k→48≤byt t j∧byt t j≤57) (fun n=>t.length-(intOf n).toNat)
  case atStart=>exact⟨1,rfl,Nat.le_refl _,by omega,fun j h1 h2=>by omega⟩
  case round =>
   obtain⟨k,rfl,hk1,hk2,hall⟩:=hrel;replace hall:=hd_ hall;by_cases hlt:k<t.length
   ·by_cases hd:48≤byt t k∧byt t k≤57
    ·obtain⟨hd1,hd2⟩:=hd;go_wp2;go_round
     case rel=>exact⟨k+1,by go_num,by omega,by omega,fun j h1 h2=>if e:j=k then by subst e;exact⟨hd1,hd2⟩ else hall.out j h1 (by omega)⟩
     case measure=>first | (simp[intOf];done) | (simp[intOf];omega)
    ·have HK:=hd_ (H.out k (cO hk1 hk2 hall.out (.inr hd)));by_cases hd1:48≤byt t k
     ·have hd2:¬ byt t k≤57:=fun h=>hd ⟨hd1,h⟩
      clear hd;go_wp2;go_ret2;exact⟨bS (by rw[HK.out]) (by rw[HK.out];try exact decide_eq_decide.2 (by omega)),Ext.rf _⟩
     ·clear hd;go_wp2;go_ret2;exact⟨bS (by rw[HK.out]) (by rw[HK.out];try exact decide_eq_decide.2 (by omega)),Ext.rf _⟩
   ·have HK:=hd_ (H.out k (cO hk1 hk2 hall.out (.inl (by omega))));go_wp2;go_ret2;exact⟨bS (by rw[HK.out]) (by rw[HK.out];try exact decide_eq_decide.2 (by omega)),Ext.rf _⟩
theorem RN (t:List UInt8) (w:World) (hs:t.length≤9223372036854775807) (hn:aH t=false) :
  Calls Try.prog 31 #[.string (bs t),.bool true] w (fun e w'=>e = .returned (.tuple #[.int .i64 (ar true t).1,.bool (ar true t).2])∧Ext w w'):=by
 have hf:(if true&&aH t then 1 else 0)=0:=by simp[hn]
 have hn':(t.head? == some 45)=false:=hn;clear hn;by_cases h48:((t.drop 0).head? == some 48)=true
 ·have H:=hd_ (eH hf h48);have h48':(t.head? == some 48)=true:=by simpa using h48
  replace hf:=hd_ hf;clear h48;go_enter Try.func31,Try.ntmps31;go_wp2_with (go_at_call 42;((with_reducible refine (gW _ _ _ (by first | exact hs | (simp;omega))).mono ?_);rintro e w' ⟨rfl,rfl⟩));go_ret2;exact⟨by rw[H.out];rfl,Ext.rf _⟩
 ·have h48:((t.drop 0).head? == some 48)=false:=by simpa using h48
  have H:Hd (∀k:Nat,(0:Nat)+bH (t.drop 0)=k→ar true t=(k,decide (0<k))):=hd_ (fun k hk=>dI hf h48 hk);have h48':(t.head? == some 48)=false:=by simpa using h48
  replace hf:=hd_ hf;clear h48;go_enter Try.func31,Try.ntmps31;go_wp2_with (go_at_call 42;((with_reducible refine (gW _ _ _ (by first | exact hs | (simp;omega))).mono ?_);rintro e w' ⟨rfl,rfl⟩));go_loop [7] (fun i => ∃k:Nat,i = .int .i64 k∧0≤k∧k≤t.length∧∀j,0≤j→j<k→48≤byt t j∧byt t j≤57) (fun n=>t.length-(intOf n).toNat)
  case atStart=>exact⟨0,rfl,Nat.le_refl _,by omega,fun j h1 h2=>by omega⟩
  case round =>
   obtain⟨k,rfl,hk1,hk2,hall⟩:=hrel;replace hall:=hd_ hall;by_cases hlt:k<t.length
   ·by_cases hd:48≤byt t k∧byt t k≤57
    ·obtain⟨hd1,hd2⟩:=hd;go_wp2;go_round
     case rel=>exact⟨k+1,by go_num,by omega,by omega,fun j h1 h2=>if e:j=k then by subst e;exact⟨hd1,hd2⟩ else hall.out j h1 (by omega)⟩
     case measure=>first | (simp[intOf];done) | (simp[intOf];omega)
    ·have HK:=hd_ (H.out k (cO hk1 hk2 hall.out (.inr hd)));by_cases hd1:48≤byt t k
     ·have hd2:¬ byt t k≤57:=fun h=>hd ⟨hd1,h⟩
      clear hd;go_wp2;go_ret2;exact⟨bS (by rw[HK.out]) (by rw[HK.out];try exact decide_eq_decide.2 (by omega)),Ext.rf _⟩
     ·clear hd;go_wp2;go_ret2;exact⟨bS (by rw[HK.out]) (by rw[HK.out];try exact decide_eq_decide.2 (by omega)),Ext.rf _⟩
   ·have HK:=hd_ (H.out k (cO hk1 hk2 hall.out (.inl (by omega))));go_wp2;go_ret2;exact⟨bS (by rw[HK.out]) (by rw[HK.out];try exact decide_eq_decide.2 (by omega)),Ext.rf _⟩
theorem RO (t:List UInt8) (w:World) (hs:t.length≤9223372036854775807)  :
  Calls Try.prog 31 #[.string (bs t),.bool false] w (fun e w'=>e = .returned (.tuple #[.int .i64 (ar false t).1,.bool (ar false t).2])∧Ext w w'):=by
 have hf:(if false&&aH t then 1 else 0)=0:=by simp[aH]
 skip
 by_cases h48:((t.drop 0).head? == some 48)=true
 ·have H:=hd_ (eH hf h48);have h48':(t.head? == some 48)=true:=by simpa using h48
  replace hf:=hd_ hf;clear h48;go_enter Try.func31,Try.ntmps31;go_wp2_with (go_at_call 42;((with_reducible refine (gW _ _ _ (by first | exact hs | (simp;omega))).mono ?_);rintro e w' ⟨rfl,rfl⟩));go_ret2;exact⟨by rw[H.out];rfl,Ext.rf _⟩
 ·have h48:((t.drop 0).head? == some 48)=false:=by simpa using h48
  have H:Hd (∀k:Nat,(0:Nat)+bH (t.drop 0)=k→ar false t=(k,decide (0<k))):=hd_ (fun k hk=>dI hf h48 hk);have h48':(t.head? == some 48)=false:=by simpa using h48
  replace hf:=hd_ hf;clear h48;go_enter Try.func31,Try.ntmps31;go_wp2_with (go_at_call 42;((with_reducible refine (gW _ _ _ (by first | exact hs | (simp;omega))).mono ?_);rintro e w' ⟨rfl,rfl⟩));go_loop [7] (fun i => ∃k:Nat,i = .int .i64 k∧0≤k∧k≤t.length∧∀j,0≤j→j<k→48≤byt t j∧byt t j≤57) (fun n=>t.length-(intOf n).toNat)
  case atStart=>exact⟨0,rfl,Nat.le_refl _,by omega,fun j h1 h2=>by omega⟩
  case round =>
   obtain⟨k,rfl,hk1,hk2,hall⟩:=hrel;replace hall:=hd_ hall;by_cases hlt:k<t.length
   ·by_cases hd:48≤byt t k∧byt t k≤57
    ·obtain⟨hd1,hd2⟩:=hd;go_wp2;go_round
     case rel=>exact⟨k+1,by go_num,by omega,by omega,fun j h1 h2=>if e:j=k then by subst e;exact⟨hd1,hd2⟩ else hall.out j h1 (by omega)⟩
     case measure=>first | (simp[intOf];done) | (simp[intOf];omega)
    ·have HK:=hd_ (H.out k (cO hk1 hk2 hall.out (.inr hd)));by_cases hd1:48≤byt t k
     ·have hd2:¬ byt t k≤57:=fun h=>hd ⟨hd1,h⟩
      clear hd;go_wp2;go_ret2;exact⟨bS (by rw[HK.out]) (by rw[HK.out];try exact decide_eq_decide.2 (by omega)),Ext.rf _⟩
     ·clear hd;go_wp2;go_ret2;exact⟨bS (by rw[HK.out]) (by rw[HK.out];try exact decide_eq_decide.2 (by omega)),Ext.rf _⟩
   ·have HK:=hd_ (H.out k (cO hk1 hk2 hall.out (.inl (by omega))));go_wp2;go_ret2;exact⟨bS (by rw[HK.out]) (by rw[HK.out];try exact decide_eq_decide.2 (by omega)),Ext.rf _⟩
theorem iZ (t:List UInt8) (sg:Bool) (w:World) (hs:t.length≤9223372036854775807) :
  Calls Try.prog 31 #[.string (bs t),.bool sg] w (fun e w'=>e = .returned (.tuple #[.int .i64 (ar sg t).1,.bool (ar sg t).2])∧Ext w w'):=by
 cases sg
 ·exact RO t w hs
 ·cases hn:aH t
  ·exact RN t w hs hn
  ·exact RM t w hs hn
theorem qY (t:List UInt8):bH t≤t.length:=(List.takeWhile_sublist _).length_le
theorem i4 (sg:Bool) (t:List UInt8):(ar sg t).1≤t.length:=by
 have hneg:aH t=true→1≤t.length:=by
  intro hn;rcases Nat.eq_zero_or_pos t.length with h | h
  ·rw[List.eq_nil_of_length_eq_zero h] at hn;cases hn
  ·exact h
 have hf:(if sg&&aH t then 1 else 0)≤t.length:=by
  split
  ·rename_i h;simp at h;exact hneg h.2
  ·omega
 simp only[ar];generalize (if sg&&aH t then 1 else 0)=f at *;split
 ·rename_i h;split
  ·exact hf
  ·have:t.drop f≠[]:=by intro e;rw[e] at h;simp at h
   have:0<(t.drop f).length:=List.length_pos_iff.2 this;simp at this;show 1≤t.length
   omega
 ·have:=qY (t.drop f);simp at this;show f+bH (t.drop f)≤t.length
  omega
end Go.Proofs.Ytdchbabgopglcaa
namespace Go.Proofs.Ytdchbabgopglcaa.M
open Go.RowKit
section
variable {w:World}{N:Nat→Prop}{loc:aU}
theorem RV.inv {v:Value}{d:D} (h:RV w N loc v (.p d)):V w N v d:=by cases h;assumption
theorem jP {cs:Array Value}{l:List AV} (h1:cs.size=l.length) (h2:∀d∈l,d.one=true) (h3:∀i d,l[i]? = some d→RV w N loc (cs.getD i undef) d):RV w N loc (.agg cs) (.agg l):=.agg cs l h1 h2 h3
theorem lM:∀{l:List AV}{ds:List D},dV l=some ds→l.length=ds.length∧∀(i:Nat) (d:D),ds[i]? = some d→∃e:AV,l[i]? = some e∧e.pure=some d
 |[],ds,h=>by
  simp only[dV,Option.some.injEq] at h;subst h;exact⟨rfl,fun i d h=>by simp at h⟩
 |v::l,ds,h=>by
  simp only[dV] at h;split at h
  ·rename_i d ds' h1 h2;simp only[Option.some.injEq] at h;subst h;obtain⟨g1,g2⟩:=lM h2;refine⟨by simp[g1],fun i d' hi => ?_⟩
   match i,hi with
   |0,hi=>simp at hi;subst hi;exact⟨v,rfl,h1⟩
   |i+1,hi=>simpa using g2 i d' (by simpa using hi)
  ·cases h
theorem RV.pure:∀{v:Value}{x:AV}{d:D},RV w N loc v x→x.pure=some d→V w N v d:=by
 intro v x d h;induction h generalizing d with
 |p v e h=>intro hx;simp only[AV.pure,Option.some.injEq] at hx;subst hx;exact h
 |nils T sz=>intro hx;simp only[AV.pure,Option.some.injEq] at hx;subst hx;exact .empty _ _ _ _ (by omega)
 |agg cs l h1 h2 _ ih =>
  intro hx;simp only[AV.pure,Option.map_eq_some_iff] at hx;obtain⟨ds,hds,rfl⟩:=hx;obtain⟨g1,g2⟩:=lM hds;refine .agg cs ds (h1.trans g1) (fun e he => ?_) (fun i e hi => ?_)
  ·obtain⟨i,hi⟩:=List.getElem?_of_mem he;obtain⟨x,hx,hp⟩:=g2 i e hi;have:=h2 x (List.mem_of_getElem? hx);cases x<;>simp[AV.one] at this<;>simp[AV.pure] at hp
   ·subst hp;exact this
   ·subst hp;rfl
  ·obtain⟨x,hx,hp⟩:=g2 i e hi;exact ih i x hx hp
 |_=>intro hx;simp[AV.pure] at hx
theorem pO {cs:Array Value}{l:List AV} (h1:cs.size=l.length) (h2:∀d∈l,d.one=true) (h3:∀i d,l[i]? = some d→RV w N loc (cs.getD i undef) d):RV w N loc (.agg cs) (AV.mk l):=by
 unfold AV.mk;split
 ·rename_i ds hds;exact .p _ _ (RV.pure (jP h1 h2 h3) (by simp[AV.pure,hds]))
 ·exact jP h1 h2 h3
theorem pP {c:Array Value}{T:TypeId}{fr:Nat×Nat}{b o osz off sz:Nat}{v u:AV}{ag:Bool}{P:Program}{T':TypeId} (hb:w.heap[b]? = some (.cells c T fr)) (ho:o+osz≤c.size) (hl:v.cells.length=osz) (h1:∀e∈v.cells,e.one=true)
  (hc:∀j d,v.cells[j]? = some d→RV w N loc (c.getD (o+j) undef) d) (hg:v.get off sz osz ag=some u) (hT:bM P T' ag sz) (hs:ag=false→sz=1) :
  ∃x,(Instr.loadAt T' (.pointer (some ⟨b,o+off,none⟩))).run P w = .ok x w∧RV w N loc x u:=by
 have hload:(Instr.loadAt T' (.pointer (some ⟨b,o+off,none⟩))).run P w=(loadVar T' ⟨b,o+off,none⟩).run P w:=by
  simp[Instr.loadAt,Instr.sureAddr]
 rw[hload];have hpart:v.part off sz ag=some u→∃x,(loadVar T' ⟨b,o+off,none⟩).run P w = .ok x w∧RV w N loc x u:=by
  intro hp;have hp':fS v.cells off sz ag=some u∨∃d,v = .p d∧∃e,d.part off sz ag=some e∧u = .p e:=by
   cases v with
   |p d =>
    simp only[AV.part,Option.map_eq_some_iff] at hp;obtain⟨e,he,rfl⟩:=hp;exact .inr ⟨d,rfl,e,he,rfl⟩
   |_=>exact .inl hp
  clear hp;rcases hp' with hp | ⟨d,rfl,e,hp,rfl⟩
  ·unfold fS at hp;cases ag with
   |true =>
    simp only[if_true] at hp;split at hp
    ·rename_i hle;simp only[Option.some.injEq] at hp;subst hp;refine⟨_,jW hT hb (by omega),jP (by simp;omega) (fun d hd=>h1 d (List.mem_of_mem_drop (List.mem_of_mem_take hd))) (fun i d hi => ?_)⟩;have hlt:i<sz:=by have:=(List.getElem?_eq_some_iff.1 hi).1;simp at this;omega
     rw[d7 _ _ _ _ hlt,Nat.add_assoc];refine hc (off+i) d ?_;rw[List.getElem?_take_of_lt hlt,List.getElem?_drop] at hi;exact hi
    ·cases hp
   |false =>
    simp only[Bool.false_eq_true,if_false] at hp;have hlt:=(List.getElem?_eq_some_iff.1 hp).1;exact⟨_,jX hT hb (by omega),hc off u hp⟩
  ·have hl':d.cells.length=osz:=by simpa[AV.cells] using hl
   have hV:∀j e,d.cells[j]? = some e→e.one=true∧V w N (c.getD (o+j) undef) e:=by
    intro j e he;have hm:(AV.p d).cells[j]? = some (.p e):=by simp[AV.cells,he]
    refine⟨h1 (.p e) (List.mem_of_getElem? hm),?_⟩;exact (hc j (.p e) hm).inv
   unfold D.part eW at hp;cases ag with
   |true =>
    simp only[if_true] at hp;split at hp
    ·rename_i hle;simp only[Option.some.injEq] at hp;subst hp;refine⟨_,jW hT hb (by omega),.p _ _ (.agg _ _ (by simp;omega) (fun d' hd => ?_) (fun i d' hi => ?_))⟩
     ·obtain⟨i,hi⟩:=List.getElem?_of_mem (List.mem_of_mem_drop (List.mem_of_mem_take hd));exact (hV i d' hi).1
     ·have hlt:i<sz:=by have:=(List.getElem?_eq_some_iff.1 hi).1;simp at this;omega
      rw[d7 _ _ _ _ hlt,Nat.add_assoc];rw[List.getElem?_take_of_lt hlt,List.getElem?_drop] at hi;exact (hV (off+i) d' hi).2
    ·cases hp
   |false =>
    simp only[Bool.false_eq_true,if_false] at hp;have hlt:=(List.getElem?_eq_some_iff.1 hp).1;exact⟨_,jX hT hb (by omega),.p _ _ (hV off e hp).2⟩
 unfold AV.get at hg;split at hg
 ·rename_i hcond;obtain⟨rfl,rfl,hag⟩:=hcond;simp only[Option.some.injEq] at hg;subst hg;cases ag with
  |true =>
   refine⟨_,jW hT hb (by omega),?_⟩;cases v with
   |p d =>
    cases d with
    |agg l =>
     have hl':l.length=sz:=by simpa[AV.cells,D.cells] using hl
     have hm:∀(j:Nat) (e:D),l[j]? = some e→(AV.p (.agg l)).cells[j]? = some (AV.p e):=fun j e he=>by simp[AV.cells,D.cells,he]
     refine .p _ _ (.agg _ _ (by simp;omega) (fun d' hd => ?_) (fun i d' hi => ?_))
     ·obtain⟨i,hi⟩:=List.getElem?_of_mem hd;exact h1 (.p d') (List.mem_of_getElem? (hm i d' hi))
     ·have hlt:i<sz:=by have:=(List.getElem?_eq_some_iff.1 hi).1;omega
      rw[d7 _ _ _ _ hlt];exact (hc i _ (hm i d' hi)).inv
    |_=>simp[AV.isAgg,D.isAgg] at hag
   |agg l =>
    have hl':l.length=sz:=by simpa[AV.cells] using hl
    refine jP (by simp;omega) (fun d' hd=>h1 d' hd) (fun i d' hi => ?_);have hlt:i<sz:=by have:=(List.getElem?_eq_some_iff.1 hi).1;omega
    rw[d7 _ _ _ _ hlt];exact hc i d' hi
   |_=>simp[AV.isAgg] at hag
  |false =>
   have hs':=hs rfl;subst hs';refine⟨_,jX hT hb (by omega),?_⟩;rw[Nat.add_zero];have h0:v.cells[0]? = some v:=by
    cases v with
    |p d=>cases d<;>simp[AV.isAgg,D.isAgg] at hag<;>rfl
    |agg l=>simp[AV.isAgg] at hag
    |und=>simp[AV.isAgg] at hag
    |_=>rfl
   have:=hc 0 v h0
   rwa[Nat.add_zero] at this
 ·exact hpart hg
end
end Go.Proofs.Ytdchbabgopglcaa.M
