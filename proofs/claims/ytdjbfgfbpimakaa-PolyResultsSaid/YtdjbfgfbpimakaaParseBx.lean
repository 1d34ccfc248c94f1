/- Parse: the plain law and the walk. -/
import Derived.Test.YtdjbfgfbpimakaaDigx
namespace Go.Proofs.Ytdjbfgfbpimakaa
open Go.RowKit
def numOk (t:List UInt8):Bool:=(numLen true t).2&&decide (t.length≤(numLen true t).1)
def numVal (t:List UInt8):Int:=sg (isNeg t) (readN (body t))
def parseZ (t:List UInt8):Int:=if numOk t then (if (body t).length≤1000 then numVal t else 0) else 0
def parseC (t:List UInt8):Int:=if numOk t then (if (body t).length≤1000 then 0 else 2) else 1
def parseP (t:List UInt8):Int:=if numOk t then 0 else (numLen true t).1
theorem body_length (t:List UInt8):(body t).length=t.length-(if isNeg t then 1 else 0):=by
 unfold body;split<;>simp
theorem isNeg_pos {t:List UInt8} (h:isNeg t=true):1≤t.length:=by
 rcases Nat.eq_zero_or_pos t.length with h0 | h0
 ·rw[List.eq_nil_of_length_eq_zero h0] at h;cases h
 ·exact h0
theorem digRun_all {l:List UInt8} (h:l.length≤digRun l):∀ j,j<l.length→48≤byt l j∧byt l j≤57:=by
 induction l with
 | nil=>intro j hj;simp at hj
 | cons c t ih =>
  have hd:isDig c=true:=by
   cases hc:isDig c
   ·simp[digRun,hc] at h
   ·rfl
  have ht:t.length≤digRun t:=by simpa[digRun,hd] using h
  intro j hj
  match j with
  | 0=>rw[byt_cons_zero];unfold isDig at hd;simpa using hd
  | j+1=>rw[byt_cons_succ];exact ih ht j (by simpa using hj)
structure Canon (l:List UInt8):Prop where
 digs:∀ j,j<l.length→48≤byt l j∧byt l j≤57
 pos:0<l.length
 lead:byt l 0=48→l.length=1
theorem numOk_canon {t:List UInt8} (h:numOk t=true):Canon (body t)∧(isNeg t=true→byt (body t) 0≠48):=by
 unfold numOk at h
 rw[Bool.and_eq_true,decide_eq_true_eq] at h
 obtain⟨h1,h2⟩:=h
 have hbd:∀ f,(if true&&isNeg t then 1 else 0)=f→t.drop f=body t:=by
  intro f hf
  subst hf
  cases hn:isNeg t
  ·rw[body_pos hn];simp
  ·rw[body_neg hn];simp
 cases h48:((t.drop (if true&&isNeg t then 1 else 0)).head? == some 48)
 ·have hr:=numLen_run (sg:=true) rfl h48 rfl
  rw[hr] at h1 h2
  rw[hbd _ rfl] at h48 h1 h2
  simp only[decide_eq_true_eq] at h1 h2
  have hb:=body_length t
  have hlen:(body t).length≤digRun (body t):=by
   cases hn:isNeg t
   ·simp[hn] at hb h2;omega
   ·have:=isNeg_pos hn;simp[hn] at hb h2;omega
  have hpos:0<(body t).length:=by have:=digRun_le (body t);omega
  have hne:byt (body t) 0≠48:=by
   intro e
   match hbt:body t,hpos with
   | c::r,_ =>
    rw[hbt] at e h48
    rw[byt_cons_zero] at e
    have:c=48:=UInt8.toNat_inj.1 e
    subst this
    simp at h48
  exact⟨⟨digRun_all hlen,hpos,fun e=>absurd e hne⟩,fun _=>hne⟩
 ·have hr:=numLen_zero (sg:=true) rfl h48
  cases hn:isNeg t
  ·rw[hr] at h1 h2
   simp[hn] at h1 h2
   simp[hn] at h48
   rw[body_pos hn]
   match t,h2,h48 with
   | [c],_,h48 =>
    simp at h48
    subst h48
    refine⟨⟨fun j hj => ?_,by simp,fun _=>rfl⟩,fun h=>by cases h⟩
    match j,hj with
    | 0,_=>rw[byt_cons_zero];decide
  ·rw[hr] at h1
   simp[hn] at h1
theorem readN_bound {t:List UInt8} (h:∀ j,j<t.length→48≤byt t j∧byt t j≤57):0≤readN t∧readN t<10^t.length:=by
 have:∀ n,n≤t.length→0≤readN (t.take n)∧readN (t.take n)<10^n:=by
  intro n
  induction n with
  | zero=>intro _;simp[readN]
  | succ n ih =>
   intro hn
   have h1:=ih (by omega)
   have h2:=h n (by omega)
   rw[readN_take_succ (by omega),Int.pow_succ]
   omega
 have:=this t.length (Nat.le_refl _)
 rwa[List.take_of_length_le (Nat.le_refl _)] at this
theorem pow10_bt (n:Nat):(10:Nat)^n≤2^(4*n):=by
 rw[Nat.pow_mul]
 exact Nat.pow_le_pow_left (by omega) n
theorem readN_bt {t:List UInt8} (h:∀ j,j<t.length→48≤byt t j∧byt t j≤57):Bt (readN t) (4*t.length):=by
 have h1:=readN_bound h
 have h2:=pow10_bt t.length
 have e:(10:Int)^t.length=((10^t.length:Nat):Int):=by rw[Int.natCast_pow];rfl
 rw[e] at h1
 unfold Bt
 omega
theorem sg_bt {n:Bool} {z:Int} {k:Nat} (h:Bt z k):Bt (sg n z) k:=h.le (by rw[natAbs_sg];exact Nat.le_refl _)
theorem numVal_bt {t:List UInt8} (h:numOk t=true):Bt (numVal t) (4*(body t).length):=sg_bt (readN_bt (numOk_canon h).1.digs)
theorem parseZ_bt (t:List UInt8):Bt (parseZ t) 4000:=by
 unfold parseZ
 split
 ·rename_i h
  split
  ·rename_i hl
   exact (numVal_bt h).mono (by omega)
  ·exact bt_zero _
 ·exact bt_zero _
def RetIF (w:World) (z c p:Int) (e:Ending) (w':World):Prop:=
 ∃ x:IV,e = .returned (.tuple #[.agg #[.bool x.n,.slice x.s.a x.s.len x.s.cap],.agg #[.int .i64 c,.int .i64 p]])∧IsI w' x z∧Ext w w'
set_option maxRecDepth 100000 in
set_option maxHeartbeats 1000000 in
theorem parse_any (t:List UInt8) (w:World) (hs:t.length≤9223372036854775807) :
  Calls Try.prog 58 #[.string (bs t)] w (RetIF w (parseZ t) (parseC t) (parseP t)):=by
 have hle:=numLen_le true t
 have he0:=((Ext.rf w).al (Obj.cells #[Value.bool false,Value.slice none 0 0] 37)).al (Obj.cells #[Value.int .i64 0,Value.int .i64 0] 27)
 by_cases h1:(numLen true t).2=true
 ·by_cases h2:(numLen true t).1<t.length
  ·have hok:numOk t=false:=by simp[numOk];intro _;omega
   have HZ:Hd (parseZ t=0):=hd_ (by simp[parseZ,hok])
   have HC:Hd (parseC t=1):=hd_ (by simp[parseC,hok])
   have HP:Hd (parseP t=(numLen true t).1):=hd_ (by simp[parseP,hok])
   clear hok
   go_enter Try.func58,Try.ntmps58
   go_wp2_with (go_at_call 56;((with_reducible refine (number_any _ _ _ hs).mono ?_);rintro e w1 ⟨rfl,hx⟩;obtain⟨hc1,hf1⟩:=bcell hx))
   have k0:w1.cell? ⟨w.heap.size,0,none⟩=some (Value.bool false):=cell_later hx (by simp[go_sem])
   have k1:w1.cell? ⟨w.heap.size,1,none⟩=some (Value.slice none 0 0):=cell_later hx (by simp[go_sem])
   have k2:w1.cell? ⟨w.heap.size+1,0,none⟩=some (Value.int .i64 0):=cell_later hx (by simp[go_sem])
   have k3:w1.cell? ⟨w.heap.size+1,1,none⟩=some (Value.int .i64 0):=cell_later hx (by simp[go_sem])
   refine bodyPost_ret (v:=.tuple #[.agg #[.bool false,.slice none 0 0],.agg #[.int .i64 1,.int .i64 ((numLen true t).1:Int)]]) (by simp[results,Try.results58,go_sem,k0,k1,k2,k3]) rfl ?_
   rw[HC.out,HP.out,HZ.out]
   exact⟨⟨false,⟨none,0,0⟩⟩,rfl,isI_zero _,(((he0.tr hx).st2 (by simp) _ _).st2 (by simp) _ _)⟩
  ·have hok:numOk t=true:=by simp[numOk,h1];omega
   have hcan:=(numOk_canon hok).1
   have hbl:=body_length t
   by_cases h3:(body t).length≤1000
   ·have HZ:Hd (parseZ t=numVal t):=hd_ (by simp[parseZ,hok,h3])
    have HC:Hd (parseC t=0):=hd_ (by simp[parseC,hok,h3])
    have HP:Hd (parseP t=0):=hd_ (by simp[parseP,hok])
    have HS:Hd (Sm (numVal t)):=hd_ ((numVal_bt hok).sm (by omega))
    have hlb:Hd ((decide ((body t).length<t.length))=isNeg t):=hd_ (by
     cases hn:isNeg t
     ·rw[hn] at hbl;simp at hbl;simp;omega
     ·have:=isNeg_pos hn;rw[hn] at hbl;simp at hbl;simp;omega)
    replace hcan:=hd_ hcan
    clear hok hbl
    go_enter Try.func58,Try.ntmps58
    go_wp2_with (first
     | (go_at_call 56;((with_reducible refine (number_any _ _ _ hs).mono ?_);rintro e w1 ⟨rfl,hx⟩;obtain⟨hc1,hf1⟩:=bcell hx))
     | (go_at_call 57;((with_reducible refine (trimPre _ _ hs).mono ?_);rintro e w2 ⟨rfl,rfl⟩))
     | (go_at_call 90;((with_reducible refine (digits_any _ _ (by omega) hcan.out.digs).mono ?_);rintro e w2 ⟨s2,l2,rfl,hl2,hv2,hx2⟩)))
    have hE:sg (decide ((body t).length<t.length)) (valL l2)=numVal t:=by rw[hlb.out,hv2];rfl
    refine (made_any _ s2 l2 _ hl2 (by rw[hE];exact HS.out)).mono ?_
    rintro e w3 ⟨y,rfl,hy,hx3⟩
    rw[hE] at hy
    clear hE hc1 hf1
    replace hx:=(hx.tr hx2).tr hx3
    clear hx2 hx3 hl2
    obtain⟨hc1,hf1⟩:=bcell hx
    obtain⟨w1,rfl⟩:∃ w1,w1=w3:=⟨_,rfl⟩
    have k0:w1.cell? ⟨w.heap.size,0,none⟩=some (Value.bool false):=cell_later hx (by simp[go_sem])
    have k1:w1.cell? ⟨w.heap.size,1,none⟩=some (Value.slice none 0 0):=cell_later hx (by simp[go_sem])
    have k2:w1.cell? ⟨w.heap.size+1,0,none⟩=some (Value.int .i64 0):=cell_later hx (by simp[go_sem])
    have k3:w1.cell? ⟨w.heap.size+1,1,none⟩=some (Value.int .i64 0):=cell_later hx (by simp[go_sem])
    go_wp2
    refine bodyPost_ret (v:=.tuple #[.agg #[.bool y.n,.slice y.s.a y.s.len y.s.cap],.agg #[.int .i64 0,.int .i64 0]]) (by simp[results,Try.results58,go_sem,k0,k1,k2,k3]) rfl ?_
    rw[HC.out,HP.out,HZ.out]
    exact⟨y,rfl,hy.kept ((((Kept.rf _ _).st2 (T':=37) (Ty.keep ((Ty.new' (by simp)).al _) hx) (by decide) _ _)).st2 (T':=27) (((Ty.keep (Ty.new' (by simp)) hx).st _ _).st _ _) (by decide) _ _),(((he0.tr hx).st2 (by simp) _ _).st2 (by simp) _ _)⟩
   ·have HZ:Hd (parseZ t=0):=hd_ (by simp[parseZ,hok,h3])
    have HC:Hd (parseC t=2):=hd_ (by simp[parseC,hok,h3])
    have HP:Hd (parseP t=0):=hd_ (by simp[parseP,hok])
    clear hok hcan hbl
    go_enter Try.func58,Try.ntmps58
    go_wp2_with (first
     | (go_at_call 56;((with_reducible refine (number_any _ _ _ hs).mono ?_);rintro e w1 ⟨rfl,hx⟩;obtain⟨hc1,hf1⟩:=bcell hx))
     | (go_at_call 57;((with_reducible refine (trimPre _ _ hs).mono ?_);rintro e w2 ⟨rfl,rfl⟩)))
    have k0:w1.cell? ⟨w.heap.size,0,none⟩=some (Value.bool false):=cell_later hx (by simp[go_sem])
    have k1:w1.cell? ⟨w.heap.size,1,none⟩=some (Value.slice none 0 0):=cell_later hx (by simp[go_sem])
    have k2:w1.cell? ⟨w.heap.size+1,0,none⟩=some (Value.int .i64 0):=cell_later hx (by simp[go_sem])
    have k3:w1.cell? ⟨w.heap.size+1,1,none⟩=some (Value.int .i64 0):=cell_later hx (by simp[go_sem])
    refine bodyPost_ret (v:=.tuple #[.agg #[.bool false,.slice none 0 0],.agg #[.int .i64 2,.int .i64 0]]) (by simp[results,Try.results58,go_sem,k0,k1,k2,k3]) rfl ?_
    rw[HC.out,HP.out,HZ.out]
    exact⟨⟨false,⟨none,0,0⟩⟩,rfl,isI_zero _,(((he0.tr hx).st2 (by simp) _ _).st2 (by simp) _ _)⟩
 ·have hok:numOk t=false:=by simp[numOk,h1]
  have HZ:Hd (parseZ t=0):=hd_ (by simp[parseZ,hok])
  have HC:Hd (parseC t=1):=hd_ (by simp[parseC,hok])
  have HP:Hd (parseP t=(numLen true t).1):=hd_ (by simp[parseP,hok])
  replace h1:(numLen true t).2=false:=by simpa using h1
  clear hok
  go_enter Try.func58,Try.ntmps58
  go_wp2_with (go_at_call 56;((with_reducible refine (number_any _ _ _ hs).mono ?_);rintro e w1 ⟨rfl,hx⟩;obtain⟨hc1,hf1⟩:=bcell hx))
  have k0:w1.cell? ⟨w.heap.size,0,none⟩=some (Value.bool false):=cell_later hx (by simp[go_sem])
  have k1:w1.cell? ⟨w.heap.size,1,none⟩=some (Value.slice none 0 0):=cell_later hx (by simp[go_sem])
  have k2:w1.cell? ⟨w.heap.size+1,0,none⟩=some (Value.int .i64 0):=cell_later hx (by simp[go_sem])
  have k3:w1.cell? ⟨w.heap.size+1,1,none⟩=some (Value.int .i64 0):=cell_later hx (by simp[go_sem])
  refine bodyPost_ret (v:=.tuple #[.agg #[.bool false,.slice none 0 0],.agg #[.int .i64 1,.int .i64 ((numLen true t).1:Int)]]) (by simp[results,Try.results58,go_sem,k0,k1,k2,k3]) rfl ?_
  rw[HC.out,HP.out,HZ.out]
  exact⟨⟨false,⟨none,0,0⟩⟩,rfl,isI_zero _,(((he0.tr hx).st2 (by simp) _ _).st2 (by simp) _ _)⟩
end Go.Proofs.Ytdjbfgfbpimakaa
