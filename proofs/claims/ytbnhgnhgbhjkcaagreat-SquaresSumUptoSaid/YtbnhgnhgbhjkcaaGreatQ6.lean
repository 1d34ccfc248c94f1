/- Lemmas. -/
import Derived.Test.YtbnhgnhgbhjkcaaGreatQ5
namespace Go.Proofs.YtbnhgnhgbhjkcaaGreat
set_option linter.unusedSimpArgs false
set_option maxHeartbeats 400000
open Go.RowKit
def fH (c:UInt8):Bool:=decide (48≤c.toNat)&&decide (c.toNat≤57)
def bP (t:List UInt8):Nat:=(t.takeWhile fH).length
def aK (t:List UInt8):Bool:=t.head? == some 45
def body (t:List UInt8):List UInt8:=if aK t then t.tail else t
theorem jV {t:List UInt8} (h:aK t=true):body t=t.tail:=by simp[body,h]
theorem iZ {t:List UInt8} (h:aK t=false):body t=t:=by simp[body,h]
def ay (signed:Bool) (t:List UInt8):Nat×Bool:=
 let f:=if signed&&aK t then 1 else 0
 if (t.drop f).head? == some 48 then (if !signed||f == 1 then (f,false) else (1,true))
 else (f+bP (t.drop f),decide (0<bP (t.drop f)))
theorem fI (c:UInt8) (t:List UInt8):byt (c::t) 0=c.toNat:=rfl
theorem mt (c:UInt8) (t:List UInt8) (i:Nat):byt (c::t) (i+1)=byt t i:=by simp[byt]
theorem mu (t:List UInt8) (f i:Nat):byt (t.drop f) i=byt t (f+i):=by simp[byt,z9s]
theorem jW {t:List UInt8}{i:Nat} (h:i<t.length):byt t i=t[i].toNat:=by simp[byt,h]
theorem zia {l:List UInt8}{m:Nat} (hm:m≤l.length) (h:∀j,j<m→48≤byt l j∧byt l j≤57) (hs:m=l.length∨¬ (48≤byt l m∧byt l m≤57)):bP l=m:=by
 induction l generalizing m with
 |nil=>simp at hm;subst hm;rfl
 |cons c t ih =>
  match m with
  |0 =>
   rcases hs with hs | hs
   ·simp at hs
   ·rw[fI] at hs;have:fH c=false:=by unfold fH;simpa using hs
    simp[bP,this]
  |m+1 =>
   have h0:=h 0 (by omega);rw[fI] at h0;have hd:fH c=true:=by unfold fH;simpa using h0
   have:=ih (m:=m) (by simpa using hm) (fun j hj=>by have:=h (j+1) (by omega);rwa[mt] at this) (by
    rcases hs with hs | hs
    ·left;simpa using hs
    ·right;rwa[mt] at hs)
   simp only[bP] at this ⊢;simp[hd,this]
theorem dq {t:List UInt8}{f k:Nat} (hf:f≤k) (hk:k≤t.length) (h:∀j,f≤j→j<k→48≤byt t j∧byt t j≤57) (hs:k=t.length∨¬ (48≤byt t k∧byt t k≤57)):f+bP (t.drop f)=k:=by
 rw[zia (l:=t.drop f) (m:=k-f) (by simp;omega) (fun j hj=>by rw[mu];exact h _ (by omega) (by omega)) (by
  rcases hs with hs | hs
  ·left;simp;omega
  ·right;rw[mu,show f+(k-f)=k by omega];exact hs)]
 omega
theorem pV (t:List UInt8) (c:UInt8) (h:1≤t.length):(t.take 1 == [c])=(t.head? == some c):=by
 match t,h with
 |x::r,_=>simp
theorem i4 (t:List UInt8) (c:UInt8) (w:World) (hs:t.length≤9223372036854775807) :
  Calls Tryz.prog 101 #[.string (bs t),.string ⟨#[c]⟩] w (fun e w'=>e = .returned (.bool (t.head? == some c))∧w=w'):=by
 by_cases h0:1≤t.length
 ·have H:=hd_ (pV t c h0);go_enter Tryz.func101,Tryz.ntmps101;go_wp2;go_ret;exact⟨tA (by rw[←H.out]),rfl⟩
 ·have H:Hd ((t.head? == some c)=false):=hd_ (by
   have:t=[]:=z9Z (by omega);subst this;rfl)
  go_enter Tryz.func101,Tryz.ntmps101;go_wp2;go_ret;exact⟨tA H.out.symm,rfl⟩
theorem pW (t:List UInt8) (w:World) (hs:t.length≤9223372036854775807) :
  Calls Tryz.prog 80 #[.string (bs t),.string ⟨#[45]⟩] w (fun e w'=>e = .returned (.string (bs (body t)))∧w=w'):=by
 by_cases h0:1≤t.length
 ·by_cases hn:aK t=true
  ·have h:(t.take 1 == [45])=true:=(pV t 45 h0).trans hn;replace hn:=hd_ hn;go_enter Tryz.func80,Tryz.ntmps80;go_wp2;go_ret;exact⟨iz (by rw[jV hn.out]),rfl⟩
  ·have h:(t.take 1 == [45])=false:=(pV t 45 h0).trans (by simpa[aK] using hn);have hn:=hd_ (Bool.eq_false_iff.2 hn);go_enter Tryz.func80,Tryz.ntmps80;go_wp2;go_ret;exact⟨iz (by rw[iZ hn.out]),rfl⟩
 ·have h0':t=[]:=z9Z (by omega);subst h0';go_enter Tryz.func80,Tryz.ntmps80;go_wp2;go_ret;exact⟨rfl,rfl⟩
theorem cB {k:IntKind}{a b:Int}{p q:Bool} (h:a=b) (h':p=q):Ending.returned (.tuple #[.int k a,.bool p]) = .returned (.tuple #[.int k b,.bool q]):=by rw[h,h']
theorem fJ {sg:Bool}{t:List UInt8}{f:Nat} (hf:(if sg&&aK t then 1 else 0)=f) (h:((t.drop f).head? == some 48)=true):ay sg t=if !sg||f == 1 then (f,false) else (1,true):=by
 subst hf;simp only[ay];rw[if_pos h]
theorem eo {sg:Bool}{t:List UInt8}{f k:Nat} (hf:(if sg&&aK t then 1 else 0)=f) (h:((t.drop f).head? == some 48)=false) (hk:f+bP (t.drop f)=k):ay sg t=(k,decide (f<k)):=by
 subst hf;subst hk;simp only[ay];rw[if_neg (by rw[h];simp)];simp
theorem zib (t:List UInt8) (w:World) (hs:t.length≤9223372036854775807) (hn:aK t=true) :
  Calls Tryz.prog 79 #[.string (bs t),.bool true] w (fun e w'=>e = .returned (.tuple #[.int .i64 (ay true t).1,.bool (ay true t).2])∧Ext w w'):=by
 have hf:(if true&&aK t then 1 else 0)=1:=by simp[hn]
 have hl:1≤t.length:=by
  rcases z9D t.length with h | h
  ·rw[z9Z h] at hn;cases hn
  ·exact h
 have hn':(t.head? == some 45)=true:=hn;clear hn;by_cases h48:((t.drop 1).head? == some 48)=true
 ·have H:=hd_ (fJ hf h48);have h48':(t[1]? == some 48)=true:=by simpa using h48
  replace hf:=hd_ hf;clear h48;go_enter Tryz.func79,Tryz.ntmps79;go_wp2_with (go_at_call 101;((with_reducible refine (i4 _ _ _ (by first | exact hs | (simp;omega))).mono ?_);rintro e w' ⟨rfl,rfl⟩));go_ret2;exact⟨by rw[H.out];rfl,Ext.rf _⟩
 ·have h48:((t.drop 1).head? == some 48)=false:=by simpa using h48
  have H:Hd (∀k:Nat,(1:Nat)+bP (t.drop 1)=k→ay true t=(k,decide (1<k))):=hd_ (fun k hk=>eo hf h48 hk);have h48':(t[1]? == some 48)=false:=by simpa using h48
  replace hf:=hd_ hf;clear h48;go_enter Tryz.func79,Tryz.ntmps79;go_wp2_with (go_at_call 101;((with_reducible refine (i4 _ _ _ (by first | exact hs | (simp;omega))).mono ?_);rintro e w' ⟨rfl,rfl⟩));go_loop [7] (fun i => ∃k:Nat,i = .int .i64 k∧1≤k∧k≤t.length∧∀j,1≤j→j<k→48≤byt t j∧byt t j≤57) (fun n=>t.length-(intOf n).toNat)
  case atStart=>exact⟨1,rfl,z95 _,by omega,fun j h1 h2=>by omega⟩
  case round =>
   obtain⟨k,rfl,hk1,hk2,hall⟩:=hrel;replace hall:=hd_ hall;by_cases hlt:k<t.length
   ·by_cases hd:48≤byt t k∧byt t k≤57
    ·obtain⟨hd1,hd2⟩:=hd;go_wp2;go_round
     case rel=>exact⟨k+1,by go_num,by omega,by omega,fun j h1 h2=>if e:j=k then by subst e;exact⟨hd1,hd2⟩ else hall.out j h1 (by omega)⟩
     case measure=>first | (simp[intOf];done) | (simp[intOf];omega)
    ·have HK:=hd_ (H.out k (dq hk1 hk2 hall.out (.inr hd)));by_cases hd1:48≤byt t k
     ·have hd2:¬ byt t k≤57:=fun h=>hd ⟨hd1,h⟩
      clear hd;go_wp2;go_ret2;exact⟨cB (by rw[HK.out]) (by rw[HK.out];try exact decide_eq_decide.2 (by omega)),Ext.rf _⟩
     ·clear hd;go_wp2;go_ret2;exact⟨cB (by rw[HK.out]) (by rw[HK.out];try exact decide_eq_decide.2 (by omega)),Ext.rf _⟩
   ·have HK:=hd_ (H.out k (dq hk1 hk2 hall.out (.inl (by omega))));go_wp2;go_ret2;exact⟨cB (by rw[HK.out]) (by rw[HK.out];try exact decide_eq_decide.2 (by omega)),Ext.rf _⟩
theorem zic (t:List UInt8) (w:World) (hs:t.length≤9223372036854775807) (hn:aK t=false) :
  Calls Tryz.prog 79 #[.string (bs t),.bool true] w (fun e w'=>e = .returned (.tuple #[.int .i64 (ay true t).1,.bool (ay true t).2])∧Ext w w'):=by
 have hf:(if true&&aK t then 1 else 0)=0:=by simp[hn]
 have hn':(t.head? == some 45)=false:=hn;clear hn;by_cases h48:((t.drop 0).head? == some 48)=true
 ·have H:=hd_ (fJ hf h48);have h48':(t.head? == some 48)=true:=by simpa using h48
  replace hf:=hd_ hf;clear h48;go_enter Tryz.func79,Tryz.ntmps79;go_wp2_with (go_at_call 101;((with_reducible refine (i4 _ _ _ (by first | exact hs | (simp;omega))).mono ?_);rintro e w' ⟨rfl,rfl⟩));go_ret2;exact⟨by rw[H.out];rfl,Ext.rf _⟩
 ·have h48:((t.drop 0).head? == some 48)=false:=by simpa using h48
  have H:Hd (∀k:Nat,(0:Nat)+bP (t.drop 0)=k→ay true t=(k,decide (0<k))):=hd_ (fun k hk=>eo hf h48 hk);have h48':(t.head? == some 48)=false:=by simpa using h48
  replace hf:=hd_ hf;clear h48;go_enter Tryz.func79,Tryz.ntmps79;go_wp2_with (go_at_call 101;((with_reducible refine (i4 _ _ _ (by first | exact hs | (simp;omega))).mono ?_);rintro e w' ⟨rfl,rfl⟩));go_loop [7] (fun i => ∃k:Nat,i = .int .i64 k∧0≤k∧k≤t.length∧∀j,0≤j→j<k→48≤byt t j∧byt t j≤57) (fun n=>t.length-(intOf n).toNat)
  case atStart=>exact⟨0,rfl,z95 _,by omega,fun j h1 h2=>by omega⟩
  case round =>
   obtain⟨k,rfl,hk1,hk2,hall⟩:=hrel;replace hall:=hd_ hall;by_cases hlt:k<t.length
   ·by_cases hd:48≤byt t k∧byt t k≤57
    ·obtain⟨hd1,hd2⟩:=hd;go_wp2;go_round
     case rel=>exact⟨k+1,by go_num,by omega,by omega,fun j h1 h2=>if e:j=k then by subst e;exact⟨hd1,hd2⟩ else hall.out j h1 (by omega)⟩
     case measure=>first | (simp[intOf];done) | (simp[intOf];omega)
    ·have HK:=hd_ (H.out k (dq hk1 hk2 hall.out (.inr hd)));by_cases hd1:48≤byt t k
     ·have hd2:¬ byt t k≤57:=fun h=>hd ⟨hd1,h⟩
      clear hd;go_wp2;go_ret2;exact⟨cB (by rw[HK.out]) (by rw[HK.out];try exact decide_eq_decide.2 (by omega)),Ext.rf _⟩
     ·clear hd;go_wp2;go_ret2;exact⟨cB (by rw[HK.out]) (by rw[HK.out];try exact decide_eq_decide.2 (by omega)),Ext.rf _⟩
   ·have HK:=hd_ (H.out k (dq hk1 hk2 hall.out (.inl (by omega))));go_wp2;go_ret2;exact⟨cB (by rw[HK.out]) (by rw[HK.out];try exact decide_eq_decide.2 (by omega)),Ext.rf _⟩
theorem zid (t:List UInt8) (w:World) (hs:t.length≤9223372036854775807)  :
  Calls Tryz.prog 79 #[.string (bs t),.bool false] w (fun e w'=>e = .returned (.tuple #[.int .i64 (ay false t).1,.bool (ay false t).2])∧Ext w w'):=by
 have hf:(if false&&aK t then 1 else 0)=0:=by simp[aK]
 skip
 by_cases h48:((t.drop 0).head? == some 48)=true
 ·have H:=hd_ (fJ hf h48);have h48':(t.head? == some 48)=true:=by simpa using h48
  replace hf:=hd_ hf;clear h48;go_enter Tryz.func79,Tryz.ntmps79;go_wp2_with (go_at_call 101;((with_reducible refine (i4 _ _ _ (by first | exact hs | (simp;omega))).mono ?_);rintro e w' ⟨rfl,rfl⟩));go_ret2;exact⟨by rw[H.out];rfl,Ext.rf _⟩
 ·have h48:((t.drop 0).head? == some 48)=false:=by simpa using h48
  have H:Hd (∀k:Nat,(0:Nat)+bP (t.drop 0)=k→ay false t=(k,decide (0<k))):=hd_ (fun k hk=>eo hf h48 hk);have h48':(t.head? == some 48)=false:=by simpa using h48
  replace hf:=hd_ hf;clear h48;go_enter Tryz.func79,Tryz.ntmps79;go_wp2_with (go_at_call 101;((with_reducible refine (i4 _ _ _ (by first | exact hs | (simp;omega))).mono ?_);rintro e w' ⟨rfl,rfl⟩));go_loop [7] (fun i => ∃k:Nat,i = .int .i64 k∧0≤k∧k≤t.length∧∀j,0≤j→j<k→48≤byt t j∧byt t j≤57) (fun n=>t.length-(intOf n).toNat)
  case atStart=>exact⟨0,rfl,z95 _,by omega,fun j h1 h2=>by omega⟩
  case round =>
   obtain⟨k,rfl,hk1,hk2,hall⟩:=hrel;replace hall:=hd_ hall;by_cases hlt:k<t.length
   ·by_cases hd:48≤byt t k∧byt t k≤57
    ·obtain⟨hd1,hd2⟩:=hd;go_wp2;go_round
     case rel=>exact⟨k+1,by go_num,by omega,by omega,fun j h1 h2=>if e:j=k then by subst e;exact⟨hd1,hd2⟩ else hall.out j h1 (by omega)⟩
     case measure=>first | (simp[intOf];done) | (simp[intOf];omega)
    ·have HK:=hd_ (H.out k (dq hk1 hk2 hall.out (.inr hd)));by_cases hd1:48≤byt t k
     ·have hd2:¬ byt t k≤57:=fun h=>hd ⟨hd1,h⟩
      clear hd;go_wp2;go_ret2;exact⟨cB (by rw[HK.out]) (by rw[HK.out];try exact decide_eq_decide.2 (by omega)),Ext.rf _⟩
     ·clear hd;go_wp2;go_ret2;exact⟨cB (by rw[HK.out]) (by rw[HK.out];try exact decide_eq_decide.2 (by omega)),Ext.rf _⟩
   ·have HK:=hd_ (H.out k (dq hk1 hk2 hall.out (.inl (by omega))));go_wp2;go_ret2;exact⟨cB (by rw[HK.out]) (by rw[HK.out];try exact decide_eq_decide.2 (by omega)),Ext.rf _⟩
theorem jX (t:List UInt8) (sg:Bool) (w:World) (hs:t.length≤9223372036854775807) :
  Calls Tryz.prog 79 #[.string (bs t),.bool sg] w (fun e w'=>e = .returned (.tuple #[.int .i64 (ay sg t).1,.bool (ay sg t).2])∧Ext w w'):=by
 cases sg
 ·exact zid t w hs
 ·cases hn:aK t
  ·exact zic t w hs hn
  ·exact zib t w hs hn
theorem wJ (t:List UInt8):bP t≤t.length:=(List.takeWhile_sublist _).length_le
theorem jY (sg:Bool) (t:List UInt8):(ay sg t).1≤t.length:=by
 have hneg:aK t=true→1≤t.length:=by
  intro hn;rcases z9D t.length with h | h
  ·rw[z9Z h] at hn;cases hn
  ·exact h
 have hf:(if sg&&aK t then 1 else 0)≤t.length:=by
  split
  ·rename_i h;simp at h;exact hneg h.2
  ·omega
 simp only[ay];generalize (if sg&&aK t then 1 else 0)=f at *;split
 ·rename_i h;split
  ·exact hf
  ·have:t.drop f≠[]:=by intro e;rw[e] at h;simp at h
   have:0<(t.drop f).length:=List.length_pos_iff.2 this;simp at this;show 1≤t.length
   omega
 ·have:=wJ (t.drop f);simp at this;show f+bP (t.drop f)≤t.length
  omega
end Go.Proofs.YtbnhgnhgbhjkcaaGreat
namespace Go.Proofs.YtbnhgnhgbhjkcaaGreat.M
set_option linter.unusedSimpArgs false
open Go.RowKit
section
variable {w:World}{N:Nat→Prop}{loc:aX}
theorem RV.inv {v:Value}{d:D} (h:RV w N loc v (.p d)):V w N v d:=by cases h;assumption
theorem km {cs:Array Value}{l:List AV} (h1:cs.size=l.length) (h2:∀d∈l,d.one=true) (h3:∀i d,l[i]? = some d→RV w N loc (cs.getD i undef) d):RV w N loc (.agg cs) (.agg l):=.agg cs l h1 h2 h3
theorem mJ:∀{l:List AV}{ds:List D},dK l=some ds→l.length=ds.length∧∀(i:Nat) (d:D),ds[i]? = some d→∃e:AV,l[i]? = some e∧e.pure=some d
 |[],ds,h=>by
  simp only[dK,z99] at h;subst h;exact⟨rfl,fun i d h=>by simp at h⟩
 |v::l,ds,h=>by
  simp only[dK] at h;split at h
  ·rename_i d ds' h1 h2;simp only[z99] at h;subst h;obtain⟨g1,g2⟩:=mJ h2;refine⟨by simp[g1],fun i d' hi => ?_⟩
   match i,hi with
   |0,hi=>simp at hi;subst hi;exact⟨v,rfl,h1⟩
   |i+1,hi=>simpa using g2 i d' (by simpa using hi)
  ·cases h
theorem RV.pure:∀{v:Value}{x:AV}{d:D},RV w N loc v x→x.pure=some d→V w N v d:=by
 intro v x d h;induction h generalizing d with
 |p v e h=>intro hx;simp only[AV.pure,z99] at hx;subst hx;exact h
 |nils T sz=>intro hx;simp only[AV.pure,z99] at hx;subst hx;exact .empty _ _ _ _ (by omega)
 |agg cs l h1 h2 _ ih =>
  intro hx;simp only[AV.pure,z94] at hx;obtain⟨ds,hds,rfl⟩:=hx;obtain⟨g1,g2⟩:=mJ hds;refine .agg cs ds (h1.trans g1) (fun e he => ?_) (fun i e hi => ?_)
  ·obtain⟨i,hi⟩:=z9q he;obtain⟨x,hx,hp⟩:=g2 i e hi;have:=h2 x (z90 hx);cases x<;>simp[AV.one] at this<;>simp[AV.pure] at hp
   ·subst hp;exact this
   ·subst hp;rfl
  ·obtain⟨x,hx,hp⟩:=g2 i e hi;exact ih i x hx hp
 |_=>intro hx;simp[AV.pure] at hx
theorem qz {cs:Array Value}{l:List AV} (h1:cs.size=l.length) (h2:∀d∈l,d.one=true) (h3:∀i d,l[i]? = some d→RV w N loc (cs.getD i undef) d):RV w N loc (.agg cs) (AV.mk l):=by
 unfold AV.mk;split
 ·rename_i ds hds;exact .p _ _ (RV.pure (km h1 h2 h3) (by simp[AV.pure,hds]))
 ·exact km h1 h2 h3
theorem qA {c:Array Value}{T:TypeId}{fr:Nat×Nat}{b o osz off sz:Nat}{v u:AV}{ag:Bool}{P:Program}{T':TypeId} (hb:w.heap[b]? = some (.cells c T fr)) (ho:o+osz≤c.size) (hl:v.cells.length=osz) (h1:∀e∈v.cells,e.one=true)
  (hc:∀j d,v.cells[j]? = some d→RV w N loc (c.getD (o+j) undef) d) (hg:v.get off sz osz ag=some u) (hT:bU P T' ag sz) (hs:ag=false→sz=1) :
  ∃x,(Instr.loadAt T' (.pointer (some ⟨b,o+off,none⟩))).run P w = .ok x w∧RV w N loc x u:=by
 have hload:(Instr.loadAt T' (.pointer (some ⟨b,o+off,none⟩))).run P w=(loadVar T' ⟨b,o+off,none⟩).run P w:=by
  simp[Instr.loadAt,Instr.sureAddr]
 rw[hload];have hpart:v.part off sz ag=some u→∃x,(loadVar T' ⟨b,o+off,none⟩).run P w = .ok x w∧RV w N loc x u:=by
  intro hp;have hp':jE v.cells off sz ag=some u∨∃d,v = .p d∧∃e,d.part off sz ag=some e∧u = .p e:=by
   cases v with
   |p d =>
    simp only[AV.part,z94] at hp;obtain⟨e,he,rfl⟩:=hp;exact .inr ⟨d,rfl,e,he,rfl⟩
   |_=>exact .inl hp
  clear hp;rcases hp' with hp | ⟨d,rfl,e,hp,rfl⟩
  ·unfold jE at hp;cases ag with
   |true =>
    simp only[if_true] at hp;split at hp
    ·rename_i hle;simp only[z99] at hp;subst hp;refine⟨_,kU hT hb (by omega),km (by simp;omega) (fun d hd=>h1 d (z9r (z9M hd))) (fun i d hi => ?_)⟩;have hlt:i<sz:=by have:=(z98.1 hi).1;simp at this;omega
     rw[eD _ _ _ _ hlt,Nat.add_assoc];refine hc (off+i) d ?_;rw[z9t hlt,z9s] at hi;exact hi
    ·cases hp
   |false =>
    simp only[z9m,if_false] at hp;have hlt:=(z98.1 hp).1;exact⟨_,kW hT hb (by omega),hc off u hp⟩
  ·have hl':d.cells.length=osz:=by simpa[AV.cells] using hl
   have hV:∀j e,d.cells[j]? = some e→e.one=true∧V w N (c.getD (o+j) undef) e:=by
    intro j e he;have hm:(AV.p d).cells[j]? = some (.p e):=by simp[AV.cells,he]
    refine⟨h1 (.p e) (z90 hm),?_⟩;exact (hc j (.p e) hm).inv
   unfold D.part f5 at hp;cases ag with
   |true =>
    simp only[if_true] at hp;split at hp
    ·rename_i hle;simp only[z99] at hp;subst hp;refine⟨_,kU hT hb (by omega),.p _ _ (.agg _ _ (by simp;omega) (fun d' hd => ?_) (fun i d' hi => ?_))⟩
     ·obtain⟨i,hi⟩:=z9q (z9r (z9M hd));exact (hV i d' hi).1
     ·have hlt:i<sz:=by have:=(z98.1 hi).1;simp at this;omega
      rw[eD _ _ _ _ hlt,Nat.add_assoc];rw[z9t hlt,z9s] at hi;exact (hV (off+i) d' hi).2
    ·cases hp
   |false =>
    simp only[z9m,if_false] at hp;have hlt:=(z98.1 hp).1;exact⟨_,kW hT hb (by omega),.p _ _ (hV off e hp).2⟩
 unfold AV.get at hg;split at hg
 ·rename_i hcond;obtain⟨rfl,rfl,hag⟩:=hcond;simp only[z99] at hg;subst hg;cases ag with
  |true =>
   refine⟨_,kU hT hb (by omega),?_⟩;cases v with
   |p d =>
    cases d with
    |agg l =>
     have hl':l.length=sz:=by simpa[AV.cells,D.cells] using hl
     have hm:∀(j:Nat) (e:D),l[j]? = some e→(AV.p (.agg l)).cells[j]? = some (AV.p e):=fun j e he=>by simp[AV.cells,D.cells,he]
     refine .p _ _ (.agg _ _ (by simp;omega) (fun d' hd => ?_) (fun i d' hi => ?_))
     ·obtain⟨i,hi⟩:=z9q hd;exact h1 (.p d') (z90 (hm i d' hi))
     ·have hlt:i<sz:=by have:=(z98.1 hi).1;omega
      rw[eD _ _ _ _ hlt];exact (hc i _ (hm i d' hi)).inv
    |_=>simp[AV.isAgg,D.isAgg] at hag
   |agg l =>
    have hl':l.length=sz:=by simpa[AV.cells] using hl
    refine km (by simp;omega) (fun d' hd=>h1 d' hd) (fun i d' hi => ?_);have hlt:i<sz:=by have:=(z98.1 hi).1;omega
    rw[eD _ _ _ _ hlt];exact hc i d' hi
   |_=>simp[AV.isAgg] at hag
  |false =>
   have hs':=hs rfl;subst hs';refine⟨_,kW hT hb (by omega),?_⟩;rw[Nat.add_zero];have h0:v.cells[0]? = some v:=by
    cases v with
    |p d=>cases d<;>simp[AV.isAgg,D.isAgg] at hag<;>rfl
    |agg l=>simp[AV.isAgg] at hag
    |und=>simp[AV.isAgg] at hag
    |_=>rfl
   have:=hc 0 v h0
   rwa[Nat.add_zero] at this
 ·exact hpart hg
end
end Go.Proofs.YtbnhgnhgbhjkcaaGreat.M
namespace Go.Proofs.YtbnhgnhgbhjkcaaGreat
set_option linter.unusedSimpArgs false
set_option maxHeartbeats 1000000
open Go.RowKit
theorem oZ (s t:SV) (a b:List Int) (w:World) (ha:IsL w s .u32 a) (hb:IsL w t .u32 b) (na:Norm a) (nb:Norm b) :
  Calls Tryz.prog 127 #[.slice s.a s.len s.cap,.slice t.a t.len t.cap] w (fun e w'=>e = .returned (.int .i64 (cmpZ (valL a) (valL b)))∧Ext w w'):=by
 have da:Dig a:=ha.2;have db:Dig b:=hb.2;obtain⟨ao,ca,rfl,hca,hcam,hopa⟩:=ha.open_;obtain⟨bo,cb,rfl,hcb,hcbm,hopb⟩:=hb.open_;rcases Nat.lt_trichotomy a.length b.length with hl | hl | hl
 ·have H:=hd_ (eO (valL_lt_of_len da db nb hl));have H2:cmpZ (a.length:Int) b.length = -1:=eO (by omega);go_enter Tryz.func127,Tryz.ntmps127;go_wp2_with (go_at_call 132;refine (cmpI _ _ _).mono ?_;rintro e w' ⟨rfl,rfl⟩);go_ret;exact⟨by rw[H.out];rfl,Ext.rf _⟩
 ·have H2:cmpZ (a.length:Int) b.length=0:=iT (by omega);go_enter Tryz.func127,Tryz.ntmps127;have Hl:=hd_ hl;clear hl;go_wp2_with (go_at_call 132;refine (cmpI _ _ _).mono ?_;rintro e w' ⟨rfl,rfl⟩);go_loopw [6] (fun i wr=>((i = .int .i64 (-1)∧∀j,at_ a j=at_ b j)∨∃k:Nat,i = .int .i64 k∧k<a.length∧∀j,k<j→at_ a j=at_ b j)∧Ext w wr) (fun i _=>(intOf i+1).toNat)
  case atStart =>
   refine⟨?_,Ext.rf _⟩;have Hl:=Hl.out;rcases z9D a.length with h0 | h0
   ·exact .inl ⟨by rw[h0];rfl,fun j=>by rw[bx (by omega),bx (by omega)]⟩
   ·refine .inr ⟨a.length-1,?_,by omega,fun j hj=>by rw[bx (by omega),bx (by omega)]⟩;congr 1;omega
  case round =>
   obtain⟨hrel,hx⟩:=hrel;rcases hrel with⟨rfl,heq⟩ | ⟨k,rfl,hk,heq⟩
   ·have H:=hd_ (iT (congrArg valL (iS Hl.out heq)));clear heq;go_wp2;go_ret;exact⟨by rw[H.out];rfl,hx⟩
   ·replace heq:=hd_ heq;have hkb:k<b.length:=by have:=Hl.out;omega
    obtain⟨ba,oa,rfl,hba,ga⟩:=hopa (by omega);obtain⟨bb,ob,rfl,hbb,gb⟩:=hopb (by omega);have ga:=(hx.cell (p:=⟨ba,oa+k,none⟩) hba.lt).trans (ga k hk);have gb:=(hx.cell (p:=⟨bb,ob+k,none⟩) hbb.lt).trans (gb k hkb);rcases Int.lt_trichotomy (at_ a k) (at_ b k) with h | h | h
    ·have H:=hd_ (eO (valL_lt_of_at da db Hl.out hk heq.out h));have H2:=eO h;clear h;go_wp2;go_quiet ((go_at_call 139;exact Calls.quiet_of_same ((nF _ _ _).mono fun _ _ h=>⟨h.1,h.2.symm⟩)));go_wp2;go_ret;exact⟨by rw[H.out,←H2];rfl,below_drewN hx _⟩
    ·have H2:=iT h;have H:=hd_ h;clear h;go_wp2;go_quiet ((go_at_call 139;exact Calls.quiet_of_same ((nF _ _ _).mono fun _ _ h=>⟨h.1,h.2.symm⟩)));go_wp2;go_roundw
     case rel =>
      refine⟨?_,below_drewN hx _⟩;rcases z9D k with h0 | h0
      ·exact .inl ⟨by rw[h0];rfl,fun j=>by
        rcases z9D j with h1 | h1
        ·subst h1;subst h0;exact H.out
        ·exact heq.out j (by omega)⟩
      ·exact .inr ⟨k-1,by congr 1;omega,by omega,fun j hj=>if e:j=k then by rw[e];exact H.out else heq.out j (by omega)⟩
     case measure=>first | (simp[intOf];done) | (simp[intOf];omega)
    ·have H:=hd_ (gh (valL_lt_of_at db da Hl.out.symm hkb (fun j hj=>(heq.out j hj).symm) h));have H2:=gh h;clear h;go_wp2;go_quiet ((go_at_call 139;exact Calls.quiet_of_same ((nF _ _ _).mono fun _ _ h=>⟨h.1,h.2.symm⟩)));go_wp2;go_ret;exact⟨by rw[H.out,←H2];rfl,below_drewN hx _⟩
 ·have H:=hd_ (gh (valL_lt_of_len db da na hl));have H2:cmpZ (a.length:Int) b.length=1:=gh (by omega);go_enter Tryz.func127,Tryz.ntmps127;go_wp2_with (go_at_call 132;refine (cmpI _ _ _).mono ?_;rintro e w' ⟨rfl,rfl⟩);go_ret;exact⟨by rw[H.out];rfl,Ext.rf _⟩
def uX (w:World) (n:Nat) (z:Int) (e:Ending) (w':World):Prop:=
 ∃(s:SV) (l:List Int),e = .returned (.slice s.a s.len s.cap)∧IsL w' s .u32 l∧l.length=n∧valL l=z∧Ext w w'
theorem fA (n:Nat):Dig (List.replicate n 0):=by
 intro x hx;have:=z9b hx;omega
def zaT (w:World) (z:Int) (e:Ending) (w':World):Prop:=
 ∃(s:SV) (l:List Int),e = .returned (.slice s.a s.len s.cap)∧IsL w' s .u32 l∧valL l=z∧Ext w w'
theorem lT {va vb vo c p x y q:Int} (h:vo+c*p=va+vb) (hq:p*4294967296=q):vo+(x+y+c) % 4294967296*p+(x+y+c) / 4294967296*q=va+x*p+(vb+y*p):=by
 have h1:(x+y+c) % 4294967296=(x+y+c)-4294967296*((x+y+c) / 4294967296):=by omega
 rw[h1,←hq];generalize (x+y+c) / 4294967296=d;grind
theorem zaU (s t:SV) (a b:List Int) (w:World) (ha:IsL w s .u32 a) (hb:IsL w t .u32 b) (hla:a.length≤1099511627776) (hlb:b.length≤1099511627776) :
  Calls Tryz.prog 136 #[.slice s.a s.len s.cap,.slice t.a t.len t.cap] w (uX w (max a.length b.length+1) (valL a+valL b)):=by
 have da:Dig a:=ha.2;have db:Dig b:=hb.2;obtain⟨ao,ca,rfl,hca,hcam,hopa⟩:=ha.open_;obtain⟨bo,cb,rfl,hcb,hcbm,hopb⟩:=hb.open_;by_cases hl:a.length<b.length
 ·have hm:=hd_ (show max a.length b.length+1=b.length+1 by omega);have hv:=hd_ (Int.add_comm (valL a) (valL b));go_enter Tryz.func136,Tryz.ntmps136;go_wp2_with (at_make;refine fq _ rfl _ _ 84 rfl 173 .u32 4 Tryz.underlying84 d8 _ _ _ _ (b.length+1) rfl rfl (by omega) (by omega) (by omega) (by omega) ?_;intro w1 hown1 hx1 hlt1);go_loopw [6,23] (fun c i wr => ∃(k:Nat) (cc:Int) (o:List Int),c = .int .u32 cc∧i = .int .i64 k∧k≤b.length∧Own wr w.heap.size 173 .u32 o∧o.length=b.length+1∧Dig o∧(0≤cc∧cc≤1) ∧
    valL (o.take k)+cc*4294967296^k=valL (b.take k)+valL (a.take k)∧Ext w wr) (fun _ i _=>b.length-(intOf i).toNat)
  case atStart=>exact⟨0,0,_,rfl,rfl,z9O _,hown1,by simp,fA _,by omega,by simp[valL],hx1⟩
  case round =>
   obtain⟨k,cc,o,rfl,rfl,hk,hown,hol,hdo,hcc,hval,hx⟩:=hrel;clear hown1;replace hval:=hd_ hval;replace hol:=hd_ hol;by_cases hlt:k<b.length
   ·obtain⟨bb,ob,rfl,hbb,gb⟩:=hopb (by omega);have gb:=(hx.cell (p:=⟨bb,ob+k,none⟩) hbb.lt).trans (gb k hlt);have go:=hown.cell (i:=k) (by have:=hol.out;omega);have gf:=hown.frozen k;have fa:=da.at_ k;have fb:=db.at_ k;by_cases hlt2:k<a.length
    ·obtain⟨ba,oa,rfl,hba,ga⟩:=hopa (by omega);have ga:=(hx.cell (p:=⟨ba,oa+k,none⟩) hba.lt).trans (ga k hlt2);go_wp2_with (go_at_call 150;refine (jk _ _ _ _ fb fa hcc).mono ?_;rintro e w' ⟨rfl,rfl⟩);go_roundw
     case rel =>
      refine⟨k+1,_,o.set k _,rfl,by go_num,by omega,hown.set k _,by rw[z9R];exact hol.out,hdo.set k (by omega),by omega,?_,hx.st (z95 _) _⟩;rw[valL_set (by have:=hol.out;omega),valL_take_succ,valL_take_succ];exact lT hval.out (z9H ..).symm
     case measure=>first | (simp[intOf];done) | (simp[intOf];omega)
    ·have h0:at_ a k=0:=bx (by omega);replace h0:=hd_ h0;go_wp2_with (go_at_call 150;refine (jk _ _ _ _ fb (by omega) hcc).mono ?_;rintro e w' ⟨rfl,rfl⟩);go_roundw
     case rel =>
      refine⟨k+1,_,o.set k _,rfl,by go_num,by omega,hown.set k _,by rw[z9R];exact hol.out,hdo.set k (by omega),by omega,?_,hx.st (z95 _) _⟩;rw[valL_set (by have:=hol.out;omega),valL_take_succ,valL_take_succ,h0.out];have S:=lT (x:=at_ b k) (y:=0) hval.out (z9H 4294967296 k).symm;rw[z8Y] at S;exact S
     case measure=>first | (simp[intOf];done) | (simp[intOf];omega)
   ·obtain rfl:k=b.length:=by omega
    have go:=hown.cell (i:=b.length) (by have:=hol.out;omega);have gf:=hown.frozen b.length;go_wp2;go_ret;refine⟨⟨some ⟨w.heap.size,0,none⟩,b.length+1,b.length+1⟩,o.set b.length cc,rfl,?_,by rw[z9R,hol.out,hm.out],?_,hx.st (z95 _) _⟩
    ·have:=(hown.set b.length cc).isL (by rw[z9R,hol.out];omega) (hdo.set _ (by omega));rw[z9R,hol.out] at this;exact this
    ·have h1:=valL_set (l:=o) (i:=b.length) (by have:=hol.out;omega) cc;rw[z93 (by rw[z9R];have:=hol.out;omega)] at h1;exact (h1.trans (by rw[hval.out,z93 (z95 _),z93 (by omega)])).trans (by first | exact hv.out.symm | rfl)
 ·have hm:=hd_ (show max a.length b.length+1=a.length+1 by omega);have hv:=hd_ (rfl:valL a+valL b=valL a+valL b);go_enter Tryz.func136,Tryz.ntmps136;go_wp2_with (at_make;refine fq _ rfl _ _ 84 rfl 173 .u32 4 Tryz.underlying84 d8 _ _ _ _ (a.length+1) rfl rfl (by omega) (by omega) (by omega) (by omega) ?_;intro w1 hown1 hx1 hlt1);go_loopw [6,23] (fun c i wr => ∃(k:Nat) (cc:Int) (o:List Int),c = .int .u32 cc∧i = .int .i64 k∧k≤a.length∧Own wr w.heap.size 173 .u32 o∧o.length=a.length+1∧Dig o∧(0≤cc∧cc≤1) ∧
    valL (o.take k)+cc*4294967296^k=valL (a.take k)+valL (b.take k)∧Ext w wr) (fun _ i _=>a.length-(intOf i).toNat)
  case atStart=>exact⟨0,0,_,rfl,rfl,z9O _,hown1,by simp,fA _,by omega,by simp[valL],hx1⟩
  case round =>
   obtain⟨k,cc,o,rfl,rfl,hk,hown,hol,hdo,hcc,hval,hx⟩:=hrel;clear hown1;replace hval:=hd_ hval;replace hol:=hd_ hol;by_cases hlt:k<a.length
   ·obtain⟨ba,oa,rfl,hbb,gb⟩:=hopa (by omega);have gb:=(hx.cell (p:=⟨ba,oa+k,none⟩) hbb.lt).trans (gb k hlt);have go:=hown.cell (i:=k) (by have:=hol.out;omega);have gf:=hown.frozen k;have fa:=db.at_ k;have fb:=da.at_ k;by_cases hlt2:k<b.length
    ·obtain⟨bb,ob,rfl,hba,ga⟩:=hopb (by omega);have ga:=(hx.cell (p:=⟨bb,ob+k,none⟩) hba.lt).trans (ga k hlt2);go_wp2_with (go_at_call 150;refine (jk _ _ _ _ fb fa hcc).mono ?_;rintro e w' ⟨rfl,rfl⟩);go_roundw
     case rel =>
      refine⟨k+1,_,o.set k _,rfl,by go_num,by omega,hown.set k _,by rw[z9R];exact hol.out,hdo.set k (by omega),by omega,?_,hx.st (z95 _) _⟩;rw[valL_set (by have:=hol.out;omega),valL_take_succ,valL_take_succ];exact lT hval.out (z9H ..).symm
     case measure=>first | (simp[intOf];done) | (simp[intOf];omega)
    ·have h0:at_ b k=0:=bx (by omega);replace h0:=hd_ h0;go_wp2_with (go_at_call 150;refine (jk _ _ _ _ fb (by omega) hcc).mono ?_;rintro e w' ⟨rfl,rfl⟩);go_roundw
     case rel =>
      refine⟨k+1,_,o.set k _,rfl,by go_num,by omega,hown.set k _,by rw[z9R];exact hol.out,hdo.set k (by omega),by omega,?_,hx.st (z95 _) _⟩;rw[valL_set (by have:=hol.out;omega),valL_take_succ,valL_take_succ,h0.out];have S:=lT (x:=at_ a k) (y:=0) hval.out (z9H 4294967296 k).symm;rw[z8Y] at S;exact S
     case measure=>first | (simp[intOf];done) | (simp[intOf];omega)
   ·obtain rfl:k=a.length:=by omega
    have go:=hown.cell (i:=a.length) (by have:=hol.out;omega);have gf:=hown.frozen a.length;go_wp2;go_ret;refine⟨⟨some ⟨w.heap.size,0,none⟩,a.length+1,a.length+1⟩,o.set a.length cc,rfl,?_,by rw[z9R,hol.out,hm.out],?_,hx.st (z95 _) _⟩
    ·have:=(hown.set a.length cc).isL (by rw[z9R,hol.out];omega) (hdo.set _ (by omega));rw[z9R,hol.out] at this;exact this
    ·have h1:=valL_set (l:=o) (i:=a.length) (by have:=hol.out;omega) cc;rw[z93 (by rw[z9R];have:=hol.out;omega)] at h1;exact (h1.trans (by rw[hval.out,z93 (z95 _),z93 (by omega)])).trans (by first | exact hv.out.symm | rfl)
theorem uY {va vb vo c p x y q:Int} (h:vo-c*p=va-vb) (hq:p*4294967296=q):vo+(x-y-c) % 4294967296*p-bor x y c*q=va+x*p-(vb+y*p)∨¬ (0≤x∧x≤4294967295∧0≤y∧y≤4294967295∧0≤c∧c≤1):=by
 by_cases hh:0≤x∧x≤4294967295∧0≤y∧y≤4294967295∧0≤c∧c≤1
 ·left
  have h1:(x-y-c) % 4294967296=(x-y-c)+4294967296*bor x y c:=by unfold bor;split<;>omega
  rw[h1,←hq];generalize bor x y c=d;grind
 ·exact .inr hh
theorem o6 (x y c:Int):0≤bor x y c∧bor x y c≤1:=by unfold bor;split<;>omega
theorem o7 (s t:SV) (a b:List Int) (w:World) (ha:IsL w s .u32 a) (hb:IsL w t .u32 b) (hla:a.length≤1099511627776) (hlb:b.length≤a.length) (hge:valL b≤valL a) :
  Calls Tryz.prog 130 #[.slice s.a s.len s.cap,.slice t.a t.len t.cap] w (uX w a.length (valL a-valL b)):=by
 have da:Dig a:=ha.2;have db:Dig b:=hb.2;replace hge:=hd_ hge;obtain⟨ao,ca,rfl,hca,hcam,hopa⟩:=ha.open_;obtain⟨bo,cb,rfl,hcb,hcbm,hopb⟩:=hb.open_;go_enter Tryz.func130,Tryz.ntmps130;go_wp2_with (at_make;refine fq _ rfl _ _ 84 rfl 173 .u32 4 Tryz.underlying84 d8 _ _ _ _ a.length rfl rfl (by omega) (by omega) (by omega) (by omega) ?_;intro w1 hown1 hx1 hlt1);go_loopw [6,15] (fun c i wr => ∃(k:Nat) (cc:Int) (o:List Int),c = .int .u32 cc∧i = .int .i64 k∧k≤a.length∧Own wr w.heap.size 173 .u32 o∧o.length=a.length∧Dig o∧(0≤cc∧cc≤1) ∧
   valL (o.take k)-cc*4294967296^k=valL (a.take k)-valL (b.take k)∧Ext w wr) (fun _ i _=>a.length-(intOf i).toNat)
 case atStart=>exact⟨0,0,_,rfl,rfl,z9O _,hown1,by simp,fA _,by omega,by simp[valL],hx1⟩
 case round =>
  obtain⟨k,cc,o,rfl,rfl,hk,hown,hol,hdo,hcc,hval,hx⟩:=hrel;clear hown1;replace hval:=hd_ hval;replace hol:=hd_ hol;by_cases hlt:k<a.length
  ·obtain⟨ba,oa,rfl,hba,ga⟩:=hopa (by omega);have ga:=(hx.cell (p:=⟨ba,oa+k,none⟩) hba.lt).trans (ga k hlt);have go:=hown.cell (i:=k) (by have:=hol.out;omega);have gf:=hown.frozen k;have fa:=da.at_ k;have fb:=db.at_ k;by_cases hlt2:k<b.length
   ·obtain⟨bb,ob,rfl,hbb,gb⟩:=hopb (by omega);have gb:=(hx.cell (p:=⟨bb,ob+k,none⟩) hbb.lt).trans (gb k hlt2);have hb01:=o6 (at_ a k) (at_ b k) cc;go_wp2_with (go_at_call 146;refine (nE _ _ _ _ fa fb hcc).mono ?_;rintro e w' ⟨rfl,rfl⟩);go_roundw
    case rel =>
     refine⟨k+1,_,o.set k _,rfl,by go_num,by omega,hown.set k _,by rw[z9R];exact hol.out,hdo.set k (by omega),hb01,?_,hx.st (z95 _) _⟩;rw[valL_set (by have:=hol.out;omega),valL_take_succ,valL_take_succ];exact (uY hval.out (z9H ..).symm).resolve_right (by omega)
    case measure=>first | (simp[intOf];done) | (simp[intOf];omega)
   ·have h0:at_ b k=0:=bx (by omega);replace h0:=hd_ h0;have hb01:=o6 (at_ a k) 0 cc;go_wp2_with (go_at_call 146;refine (nE _ _ _ _ fa (by omega) hcc).mono ?_;rintro e w' ⟨rfl,rfl⟩);go_roundw
    case rel =>
     refine⟨k+1,bor (at_ a k) 0 cc,o.set k ((at_ a k-cc) % 4294967296),rfl,by go_num,by omega,hown.set k _,by rw[z9R];exact hol.out,hdo.set k (by omega),hb01,?_,hx.st (z95 _) _⟩;rw[valL_set (by have:=hol.out;omega),valL_take_succ,valL_take_succ,h0.out];have S:=(uY (x:=at_ a k) (y:=0) hval.out (z9H 4294967296 k).symm).resolve_right (by omega);rw[z9G] at S;exact S
    case measure=>first | (simp[intOf];done) | (simp[intOf];omega)
  ·obtain rfl:k=a.length:=by omega
   go_wp2;go_ret;refine⟨⟨some ⟨w.heap.size,0,none⟩,a.length,a.length⟩,o,rfl,?_,hol.out,?_,hx⟩
   ·have:=hown.isL (by have:=hol.out;omega) hdo;rw[hol.out] at this;exact this
   ·have h1:=hval.out;have h2:=valL_lt hdo;have h3:=valL_nonneg hdo;have h4:=hge.out;rw[z93 (by have:=hol.out;omega),z93 (z95 _),z93 (by omega)] at h1;rw[hol.out] at h2;have hc:cc=0:=by
     rcases (show cc=0∨cc=1 by omega) with h | h
     ·exact h
     ·rw[h,Int.one_mul] at h1;omega
    rw[hc,Int.zero_mul] at h1;omega
end Go.Proofs.YtbnhgnhgbhjkcaaGreat
