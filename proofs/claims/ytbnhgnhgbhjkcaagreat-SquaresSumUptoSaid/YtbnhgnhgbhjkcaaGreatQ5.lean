/- Lemmas. -/
import Derived.Test.YtbnhgnhgbhjkcaaGreatQ3
import Derived.Shelf.Small.Bits
import Derived.Test.YtbnhgnhgbhjkcaaGreatQ4
namespace Go.Proofs.YtbnhgnhgbhjkcaaGreat
set_option linter.unusedSimpArgs false
open Go.RowKit
def bs (l:List UInt8):ByteArray:=⟨l.toArray⟩
def byt (l:List UInt8) (i:Nat):Nat:=(l.getD i 0).toNat
@[simp,go_sem] theorem zbs (l:List UInt8):(bs l).size=l.length:=by simp[bs,ByteArray.size]
@[simp,go_sem] theorem zih (l:List UInt8):(bs l).data=l.toArray:=rfl
@[simp,go_sem] theorem zii (l:List UInt8):(bs l).toList=l:=by
 rw[ByteArray.toList_eq];simp[bs]
@[simp,go_sem] theorem zij (l:List UInt8) (i:Nat) (h:i<(bs l).size):((bs l)[i]'h).toNat=byt l i:=by
 have h':i<l.length:=by simpa using h
 simp[byt,h',bs,ByteArray.getElem_eq_getElem_data]
@[simp,go_sem] theorem zik (l:List UInt8) (a b:Nat):(bs l).extract a b=bs ((l.drop a).take (b-a)):=ByteArray.extract_mk l a b
@[simp,go_sem] theorem zil (l m:List UInt8):bs l++bs m=bs (l++m):=ByteArray.mk_append_mk l m
@[simp,go_sem] theorem zim (l:List UInt8):List.take (l.length-1) l.tail=l.tail:=z93 (by simp)
@[simp,go_sem] theorem zin (l:List UInt8) (a:Nat):List.take (l.length-a) (List.drop a l)=List.drop a l:=z93 (by simp)
def aW (m:List UInt8):List Int:=m.map fun c=>(c.toNat:Int)
@[simp] theorem zbt (m:List UInt8):(aW m).length=m.length:=by simp[aW]
theorem jI (m:List UInt8) (i:Nat):at_ (aW m) i=byt m i:=by
 by_cases h:i<m.length
 ·simp[at_,aW,byt,h]
 ·simp[at_,aW,byt,h]
theorem pu (m:List UInt8):∀x∈aW m,Fit .u8 x:=by
 intro x hx;simp only[aW,z9Q] at hx;obtain⟨c,_,rfl⟩:=hx;have:=UInt8.toNat_lt c;show 0≤_∧_≤_
 omega
theorem zbu {P:Program} (w:World){ops:Array Oper}{rest:List Oper}{o:Oper}{a:Act}{Q:Exit→Act→World→Prop} (hgd:o.guard=none) (src dst:TypeId) (x:Operand) (hop:o.op=Op.convert src dst x)
  (hs:P.underlying src=some .string) (hd:P.underlying dst=some (.slice (ET .u8))) (he:P.underlying (ET .u8)=some (.int .u8)) (m:List UInt8) (hx:a.eval x = .string (bs m)) (hm:m.length≤9223372036854775807)
  (h:∀(cap:Nat) (w':World),IsL w' ⟨some ⟨w.heap.size,0,none⟩,m.length,cap⟩ .u8 (aW m)→Ext w w'→(∀j,j<m.length→w'.cell? ⟨w.heap.size,j,none⟩=some (.int .u8 (byt m j)))→wpList P ops Q rest (a.put o.dst (.slice (some ⟨w.heap.size,0,none⟩) m.length cap)) w') :
  wpList P ops Q (o::rest) a w:=by
 refine wpList_plain hgd fun K hK' => ?_
 have hrun:=run_bytes_of_string (P:=P) w src dst (ET .u8) (bs m) hs hd he;rw[zbs] at hrun;unfold Oper.wp;simp[execOp,hop,hx,hrun,Result.andThen];have hge:=grownCap_ge w m.length 0 (ET .u8);have hle:=grownCap_le_maxLen w m.length 0 (ET .u8) hm;have hcell:∀j,j<m.length→(w.drew.alloc (.cells (bytesRow (bs m) (grownCap w m.length 0 (ET .u8))) (ET .u8) ((bytesRow (bs m) (grownCap w m.length 0 (ET .u8))).size,(bytesRow (bs m) (grownCap w m.length 0 (ET .u8))).size+1))).cell? ⟨w.heap.size,j,none⟩=some (.int .u8 (byt m j)):=by
  intro j hj;have:=World.cell?_alloc_mark w.drew (bytesRow (bs m) (grownCap w m.length 0 (ET .u8))) (ET .u8) ((bytesRow (bs m) (grownCap w m.length 0 (ET .u8))).size,(bytesRow (bs m) (grownCap w m.length 0 (ET .u8))).size+1) j;refine this.trans ?_;rw[bytesRow_at (bs m) _ j (by simpa[bs] using hj)];simp[bs,byt,hj]
 refine hK' _ _ (h _ _ ?_ ((Ext.rf w).dr.al _) hcell);have hl:(aW m).length=m.length:=zbt m;have:=IsL.mk_ (w:=w.drew.alloc (.cells (bytesRow (bs m) (grownCap w m.length 0 (ET .u8))) (ET .u8) ((bytesRow (bs m) (grownCap w m.length 0 (ET .u8))).size,(bytesRow (bs m) (grownCap w m.length 0 (ET .u8))).size+1))) (ao:=some ⟨w.heap.size,0,none⟩) (cap:=grownCap w m.length 0 (ET .u8)) (k:=.u8) (l:=aW m) (by rw[hl];exact hge) hle
  (fun _=>⟨w.heap.size,0,rfl,⟨_,_,heap_alloc_new w.drew _⟩,fun j hj=>by rw[z9o,jI];exact hcell j (by rw[←hl];exact hj)⟩) (pu m)
 rw[hl] at this;exact this
end Go.Proofs.YtbnhgnhgbhjkcaaGreat
namespace Go.Proofs.YtbnhgnhgbhjkcaaGreat.Z4
set_option linter.unusedSimpArgs false
def valL:List Int→Int
 |[]=>0
 |x::t=>x+10000*valL t
def Dig (l:List Int):Prop:=∀x∈l,0≤x∧x≤9999
def Norm (l:List Int):Prop:=l=[]∨at_ l (l.length-1)≠0
theorem Dig.at_ {l:List Int} (h:Dig l) (i:Nat):0≤at_ l i∧at_ l i≤9999:=by
 by_cases hi:i<l.length
 ·exact h _ (at_mem hi)
 ·rw[bx (by omega)];omega
theorem Dig.tail {x:Int}{t:List Int} (h:Dig (x::t)):Dig t:=fun y hy=>h y (z9T _ hy)
theorem valL_nonneg {l:List Int} (h:Dig l):0≤valL l:=by
 induction l with
 |nil=>simp[valL]
 |cons x t ih=>have:=ih h.tail;have:=h x (z9X ..);simp only[valL];omega
theorem valL_zero {l:List Int} (h:∀j,at_ l j=0):valL l=0:=by
 induction l with
 |nil=>rfl
 |cons x t ih =>
  have h0:=h 0;have ht:∀j,at_ t j=0:=fun j=>by have:=h (j+1);rwa[ch] at this
  rw[eN] at h0;simp[valL,h0,ih ht]
theorem valL_take {l:List Int}{k:Nat} (h:∀j,k≤j→at_ l j=0):valL (l.take k)=valL l:=by
 induction l generalizing k with
 |nil=>simp
 |cons x t ih =>
  match k with
  |0=>rw[valL_zero (l:=x::t) (fun j=>h j (by omega))];rfl
  |k+1 =>
   simp only[List.take_succ_cons,valL];rw[ih (fun j hj=>by have:=h (j+1) (by omega);rwa[ch] at this)]
theorem valL_pos {l:List Int} (hd:Dig l){i:Nat} (hi:at_ l i≠0):0<valL l:=by
 induction l generalizing i with
 |nil=>simp[at_] at hi
 |cons x t ih =>
  have hx:=hd x (z9X ..);have ht:=valL_nonneg hd.tail;simp only[valL]
  match i with
  |0=>rw[eN] at hi;omega
  |i+1=>rw[ch] at hi;have:=ih hd.tail hi;omega
theorem valL_pos' {l:List Int} (hd:Dig l) (hn:Norm l) (hne:l≠[]):0<valL l:=by
 rcases hn with h | h
 ·exact absurd h hne
 ·exact valL_pos hd h
theorem valL_eq_zero {l:List Int} (hd:Dig l) (hn:Norm l):valL l=0↔l=[]:=by
 constructor
 ·intro h;by_cases hne:l=[]
  ·exact hne
  ·have:=valL_pos' hd hn hne;omega
 ·rintro rfl;rfl
theorem valL_take_succ (l:List Int) (i:Nat):valL (l.take (i+1))=valL (l.take i)+at_ l i*10000^i:=by
 induction l generalizing i with
 |nil=>simp[valL,at_]
 |cons x t ih =>
  match i with
  |0=>simp[valL,at_]
  |i+1 =>
   simp only[List.take_succ_cons,valL,ch];rw[ih i,z9H];grind
theorem valL_take_all {l:List Int}{i:Nat} (h:l.length≤i):valL (l.take i)=valL l:=by rw[z93 h]
theorem valL_lt {l:List Int} (hd:Dig l):valL l<10000^l.length:=by
 induction l with
 |nil=>simp[valL]
 |cons x t ih =>
  have h1:=ih hd.tail;have hx:=hd x (z9X ..);simp only[valL,List.length_cons,z9H];generalize (10000:Int)^t.length=p at *;omega
theorem pow_pos' (i:Nat):(0:Int)<10000^i:=Int.pow_pos (by omega)
theorem pow_mono' {i j:Nat} (h:i≤j):(10000:Int)^i≤10000^j:=by
 induction j with
 |zero =>
      obtain rfl:i=0:=by omega
      exact Int.le_refl _
 |succ j ih =>
  by_cases e:i=j+1
  ·subst e;exact Int.le_refl _
  ·have:=ih (by omega);have hp:=pow_pos' j;rw[z9H];omega
theorem valL_ge {l:List Int} (hd:Dig l){i:Nat} (hi:at_ l i≠0):10000^i≤valL l:=by
 induction l generalizing i with
 |nil=>simp[at_] at hi
 |cons x t ih =>
  have hx:=hd x (z9X ..);have ht:=valL_nonneg hd.tail;simp only[valL]
  match i with
  |0=>rw[eN] at hi;simp;omega
  |i+1 =>
   rw[ch] at hi;have:=ih hd.tail hi;rw[z9H];generalize (10000:Int)^i=p at *;omega
theorem valL_lt_of_len {a b:List Int} (ha:Dig a) (hb:Dig b) (hn:Norm b) (h:a.length<b.length):valL a<valL b:=by
 rcases hn with rfl | hn
 ·simp at h
 ·have h1:=valL_lt ha;have h2:=valL_ge hb hn;have h3:=pow_mono' (i:=a.length) (j:=b.length-1) (by omega);omega
theorem valL_lt_of_at {a b:List Int} (ha:Dig a) (hb:Dig b) (hl:a.length=b.length){i:Nat} (hi:i<a.length) (heq:∀j,i<j→at_ a j=at_ b j) (hlt:at_ a i<at_ b i):valL a<valL b:=by
 induction a generalizing b i with
 |nil=>simp at hi
 |cons x s ih =>
  match b,hl with
  |y::t,hl =>
   have hx:=ha x (z9X ..);have hy:=hb y (z9X ..);simp only[List.length_cons,Nat.add_right_cancel_iff] at hl;simp only[valL]
   match i,hi,heq,hlt with
   |0,_,heq,hlt =>
    have:s=t:=iS hl (fun j=>by have:=heq (j+1) (by omega);rwa[ch,ch] at this);subst this;rw[eN,eN] at hlt;omega
   |i+1,hi,heq,hlt =>
    rw[ch,ch] at hlt;have:=ih ha.tail hb.tail hl (i:=i) (by simpa using hi) (fun j hj=>by have:=heq (j+1) (by omega);rwa[ch,ch] at this) hlt;omega
theorem valL_set {l:List Int}{i:Nat} (h:i<l.length) (v:Int):valL ((l.set i v).take (i+1))=valL (l.take i)+v*10000^i:=by
 rw[valL_take_succ,vO,gi h]
theorem Dig.set {l:List Int} (hd:Dig l) (i:Nat){v:Int} (hv:0≤v∧v≤9999):Dig (l.set i v):=by
 intro x hx;rcases List.mem_or_eq_of_mem_set hx with h | h
 ·exact hd x h
 ·subst h;exact hv
theorem neg_iff {n:Bool}{l:List Int} (hd:Dig l) (hn:Norm l) (h0:l=[]→n=false):sg n (valL l)<0↔n=true:=by
 by_cases hl:l=[]
 ·subst hl;rw[h0 rfl];simp[sg,valL]
 ·have:=valL_pos' hd hn hl;cases n
  ·simp[sg];omega
  ·simp[sg];omega
theorem valL_set_full {l:List Int}{i:Nat} (h:i<l.length) (v:Int):valL (l.set i v)=valL l+(v-at_ l i)*10000^i:=by
 induction l generalizing i with
 |nil=>simp at h
 |cons x t ih =>
  match i with
  |0=>simp[valL,at_];omega
  |i+1 =>
   simp only[List.set_cons_succ,valL,ch];rw[ih (by simpa using h),z9H];grind
theorem zcp (i:Nat):((2^(13*i):Nat):Int)≤(10000:Int)^i:=by
 have h:(2^13)^i≤10000^i:=Nat.pow_le_pow_left (by decide) i;rw[←Nat.pow_mul] at h;have e:(10000:Int)^i=((10000^i:Nat):Int):=by rw[Int.natCast_pow];rfl
 rw[e];omega
theorem len_of_bt {l:List Int}{n:Nat} (hd:Dig l) (hn:Norm l) (h:Bt (valL l) n):13*l.length≤n+13:=by
 rcases hn with rfl | hn
 ·simp
 ·have h1:=valL_ge hd hn;have h2:=valL_nonneg hd;have h0:=zcp (l.length-1);unfold Bt at h;have h3:2^(13*(l.length-1))<2^n:=by omega
  rcases z8V (13*(l.length-1)) n with h4 | h4
  ·omega
  ·have:=z9j (n:=2) (by omega) h4;omega
theorem mul_bound {x y:Int} (hx:0≤x∧x≤9999) (hy:0≤y∧y≤9999):0≤x*y∧x*y≤99980001:=by
 refine⟨Int.mul_nonneg hx.1 hy.1,?_⟩;have:=Int.mul_le_mul hx.2 hy.2 hy.1 (by omega);omega
theorem valL_snoc (l:List Int) (x:Int):valL (l++[x])=valL l+x*10000^l.length:=by
 induction l with
 |nil=>simp[valL]
 |cons y t ih=>simp only[List.cons_append,valL,ih,List.length_cons,z9H];grind
theorem Dig.snoc {l:List Int} (h:Dig l){x:Int} (hx:0≤x∧x≤9999):Dig (l++[x]):=by
 intro y hy;rcases z9y.1 hy with hy | hy
 ·exact h y hy
 ·rw[z9e.1 hy];exact hx
theorem Dig.fit {l:List Int} (h:Dig l):∀x∈l,Fit .i64 x:=by
 intro x hx;have:=h x hx;show _≤_∧_≤_
 omega
end Go.Proofs.YtbnhgnhgbhjkcaaGreat.Z4
namespace Go.Proofs.YtbnhgnhgbhjkcaaGreat
set_option linter.unusedSimpArgs false
open Go.Shelf
def S1:Go.Shelf.Ren:=⟨fun | 133=>141 | 128=>152 | n=>n,fun | 51=>173 | 3=>3 | 4=>4 | 46=>127 | 5=>5 | 9=>9 | n=>n,fun | n=>n⟩
theorem S2:Go.Proofs.Lays.n133 Tryz.prog S1:={
 mixed:=by kernel_rfl
 f128:=Tryz.func152.trans (congrArg some (by kernel_rfl))
 f133:=Tryz.func141.trans (congrArg some (by kernel_rfl))
 t3:=Tryz.underlying3
 a3:=Tryz.isAgg3
 z3:=Tryz.sizeOf3
 v3:=Tryz.zeroValue3
 t4:=Tryz.underlying4
 a4:=Tryz.isAgg4
 z4:=Tryz.sizeOf4
 v4:=Tryz.zeroValue4
 t5:=Tryz.underlying5
 a5:=Tryz.isAgg5
 z5:=Tryz.sizeOf5
 v5:=Tryz.zeroValue5
 t9:=Tryz.underlying9
 a9:=Tryz.isAgg9
 z9:=Tryz.sizeOf9
 v9:=Tryz.zeroValue9
 t46:=Tryz.underlying127
 a46:=Tryz.isAgg127
 z46:=Tryz.sizeOf127
 v46:=Tryz.zeroValue127
 t51:=Tryz.underlying173
 a51:=Tryz.isAgg173
 z51:=Tryz.sizeOf173
 v51:=Tryz.zeroValue173 }
theorem S3 (x:Int) (w:World) (h0:0≤x) (h1:x≤4294967295) :
  Calls Tryz.prog 141 #[.int .u32 x] w fun e w'=>e = .returned (.int .i64 (32-(Lib.bitLen x.toNat:Int)))∧w=w':=(Any.bits_LeadingZeros32 S2 x w h0 h1).mono fun _ _ h=>⟨h.1,h.2.symm⟩
theorem S4 (n:Nat) (h0:0<n) (h:n<18446744073709551616):0<Lib.bitLen n∧2^(Lib.bitLen n-1)≤n∧n<2^Lib.bitLen n:=by
 induction n using Nat.strongRecOn with
 |ind n ih =>
  rcases z8V n 2 with h1 | h1
  ·obtain rfl:n=1:=by omega
   decide
  ·have h2:=Lib.bitLen_half n (by omega) h;have h3:=ih (n / 2) (by omega) (by omega) (by omega);rw[h2];generalize Lib.bitLen (n / 2)=k at *;have e:1+k-1=k-1+1:=by omega
   have e2:1+k=k+1:=by omega
   rw[e,e2,Nat.pow_succ,Nat.pow_succ];refine⟨by omega,by omega,by omega⟩
theorem S5 {x:Int} (h0:0<x) (h1:x≤4294967295):∃s:Nat,s<32∧(32-(Lib.bitLen x.toNat:Int))=s∧2147483648≤x*2^s∧x*2^s≤4294967295:=by
 obtain⟨n,rfl⟩:=z9W (Int.le_of_lt h0);rw[show ((n:Int)).toNat=n by omega];have hb:=S4 n (by omega) (by omega);have h32:Lib.bitLen n≤32:=by
  refine Nat.not_lt.1 fun hc => ?_
  have:2^32≤2^(Lib.bitLen n-1):=z9j (by omega) (by omega);omega
 generalize Lib.bitLen n=k at *;have e1:2^(32-k)*2^(k-1)=2147483648:=by rw[←z9p,show 32-k+(k-1)=31 by omega]
 have e2:2^(32-k)*2^k=4294967296:=by rw[←z9p,show 32-k+k=32 by omega]
 have g1:=z9d (2^(32-k)) hb.2.1;have g2:2^(32-k)*(n+1)≤2^(32-k)*2^k:=z9d _ hb.2.2;have g3:1≤2^(32-k):=Nat.one_le_two_pow;rw[Nat.mul_add,Nat.mul_one] at g2;have e3:(n:Int)*2^(32-k)=((2^(32-k)*n:Nat):Int):=by rw[Int.natCast_mul,Int.mul_comm];simp
 refine⟨32-k,by omega,by omega,?_,?_⟩<;>rw[e3]<;>omega
end Go.Proofs.YtbnhgnhgbhjkcaaGreat
namespace Go.Proofs.YtbnhgnhgbhjkcaaGreat.M
set_option linter.unusedSimpArgs false
open Go.RowKit
def sk:TypeDesc→Bool
 |.struct _=>true
 |.array _ _=>true
 |_=>false
def bU (P:Program) (T:TypeId) (ag:Bool) (sz:Nat):Prop:=∃d i,P.underlying T=some d∧sk d=ag∧P.info? T=some i∧i.size=sz
section
variable {P:Program}{w:World}
theorem kT {T:TypeId}{ag:Bool}{sz:Nat} (h:bU P T ag sz):(isAgg T).run P w = .ok ag w:=by
 obtain⟨d,i,h1,h2,h3,h4⟩:=h;subst h2;unfold isAgg;simp only[Sem.run_bind,run_underlying h1,Result.andThen];cases d<;>rfl
theorem c8 {T:TypeId}{ag:Bool}{sz:Nat} (h:bU P T ag sz):(sizeOf T).run P w = .ok sz w:=by
 obtain⟨d,i,h1,h2,h3,h4⟩:=h;simp[sizeOf,typeInfo,h3,h4]
def rd (c:Array Value) (o n:Nat):Array Value:=((List.range n).map fun j=>c.getD (o+j) undef).toArray
@[simp] theorem zif (c:Array Value) (o n:Nat):(rd c o n).size=n:=by simp[rd]
theorem eD (c:Array Value) (o n i:Nat) (h:i<n):(rd c o n).getD i undef=c.getD (o+i) undef:=by
 simp[rd,z9Y,h]
theorem dE (b o j:Nat):(⟨b,o,none⟩:Addr).add j=⟨b,o+j,none⟩:=by
 unfold Addr.add;split<;>simp_all
theorem d9 {b o:Nat}{c:Array Value}{T:TypeId}{fr:Nat×Nat} (hb:w.heap[b]? = some (.cells c T fr)) (ho:o<c.size):w.cell? ⟨b,o,none⟩=some (c.getD o undef):=by
 rw[cell_of_row w b o c T fr hb];simp[ho]
theorem Uv {b o n:Nat}{c:Array Value}{T:TypeId}{fr:Nat×Nat} (hb:w.heap[b]? = some (.cells c T fr)) (hn:o+n≤c.size):(loadCells ⟨b,o,none⟩ n).run P w = .ok (rd c o n) w:=by
 rw[run_loadCells (P:=P) w ⟨b,o,none⟩ n (fun j=>c.getD (o+j) undef) (fun j hj=>by rw[dE];exact d9 hb (by omega))];rfl
theorem kU {T:TypeId}{b o n:Nat}{c:Array Value}{T':TypeId}{fr:Nat×Nat} (hT:bU P T true n) (hb:w.heap[b]? = some (.cells c T' fr)) (hn:o+n≤c.size) :
  (loadVar T ⟨b,o,none⟩).run P w = .ok (.agg (rd c o n)) w:=by
 unfold loadVar;simp only[Sem.run_bind,kT hT,Result.andThen,if_true,c8 hT,Uv hb hn];rfl
theorem kW {T:TypeId}{b o n:Nat}{c:Array Value}{T':TypeId}{fr:Nat×Nat} (hT:bU P T false n) (hb:w.heap[b]? = some (.cells c T' fr)) (hn:o<c.size) :
  (loadVar T ⟨b,o,none⟩).run P w = .ok (c.getD o undef) w:=by
 unfold loadVar;simp only[Sem.run_bind,kT hT,Result.andThen,z9m,if_false];simp[d9 hb hn]
theorem Uw {T:TypeId}{ag:Bool}{b o n:Nat}{c:Array Value}{T':TypeId}{fr:Nat×Nat}{v:Value} (hT:bU P T ag n) (hb:w.heap[b]? = some (.cells c T' fr)) (hn:o+n≤c.size) (hv:v.cells.size=n)
  (hfr:∀x,x<c.size→(decide (fr.1≤x)&&decide (x<fr.2))=false) (h1:∀u∈v.cells.toList,u.oneCell'=true) :
  (Instr.storeAt T (.pointer (some ⟨b,o,none⟩)) v).run P w = .ok () (w.setCells b o v.cells.toList):=by
 have hl:v.cells.toList.length=n:=by simpa using hv
 have:=run_storeCells_cells (P:=P) b o v.cells.toList 0 w (fun j hj=>by rw[Nat.add_zero,d9 hb (by omega)];rfl) (fun j hj=>by
  rw[Nat.add_zero];have:=hfr (o+j) (by omega);simp only[World.frozen?,hb];exact this) h1
 rw[Nat.add_zero] at this;unfold Instr.storeAt Instr.sureAddr storeVar;simp only[Sem.run_bind,Result.andThen,c8 hT,hv,ne_eq,not_true,if_false];simp[this]
def cq (c:Array Value):Nat→List Value→Array Value
 |_,[]=>c
 |o,v::r=>cq (c.setIfInBounds o v) (o+1) r
theorem jm {b:Nat}{T:TypeId}{fr:Nat×Nat}:∀(vs:List Value) (o:Nat) (w:World) (c:Array Value),w.heap[b]? = some (.cells c T fr)→(w.setCells b o vs).heap[b]? = some (.cells (cq c o vs) T fr)
 |[],_,_,_,h=>h
 |v::r,o,w,c,h=>by
  rw[World.setCells,cq];refine jm r (o+1) _ _ ?_;simp[World.setCell,Array.getElem?_modify,h]
theorem gF {b b':Nat} (hne:b'≠b):∀(vs:List Value) (o:Nat) (w:World),(w.setCells b o vs).heap[b']? = w.heap[b']?
 |[],_,_=>rfl
 |v::r,o,w=>by
  rw[World.setCells,gF hne r (o+1)];exact Below.heap_setCell _ _ _ _ hne
theorem sq {B b:Nat} (hb:B≤b):∀(vs:List Value) (o:Nat) (w:World),Below B w (w.setCells b o vs)
 |[],_,_=>Below.refl _ _
 |v::r,o,_=>((Below.refl _ _).setCell (p:=⟨b,o,none⟩) hb v).trans (sq hb r (o+1) _)
theorem kX {b:Nat}:∀(vs:List Value) (o:Nat) (w:World),(w.setCells b o vs).heap.size=w.heap.size
 |[],_,_=>rfl
 |v::r,o,_=>by rw[World.setCells,kX r (o+1)];simp[World.setCell]
@[simp] theorem fP:∀(vs:List Value) (o:Nat) (c:Array Value),(cq c o vs).size=c.size
 |[],_,_=>rfl
 |v::r,o,c=>by rw[cq,fP r (o+1)];simp
theorem dc:∀(vs:List Value) (o:Nat) (c:Array Value) (i:Nat),(i<o∨o+vs.length≤i)→(cq c o vs).getD i undef=c.getD i undef
 |[],_,_,_,_=>rfl
 |v::r,o,c,i,h=>by
  simp only[List.length_cons] at h;rw[cq,dc r (o+1) _ i (by omega)];simp only[z9Y];rw[Array.getElem?_setIfInBounds_ne (by omega)]
theorem eE:∀(vs:List Value) (o:Nat) (c:Array Value) (i:Nat),o+vs.length≤c.size→i<vs.length→(cq c o vs).getD (o+i) undef=vs.getD i undef
 |v::r,o,c,0,hc,_=>by
  simp only[List.length_cons] at hc;rw[cq,dc r (o+1) _ _ (by omega)];simp only[z9Y,Nat.add_zero,Array.getElem?_setIfInBounds_self,z9J];rw[if_pos (by omega)];rfl
 |v::r,o,c,i+1,hc,hi=>by
  simp only[List.length_cons] at hc hi;have:=eE r (o+1) (c.setIfInBounds o v) i (by simp;omega) (by omega);rw[cq,show o+(i+1)=o+1+i by omega,this];simp
end
section
variable {w0:World}{base:Bs}{nt:Nat}{loc:aX}{s:St}{a:Act}{w:World}
theorem ExtL.set {B:Bs}{a u:World} (h:ExtL B a u){b p:Nat} (hb:a.heap.size≤b∨B.lent b){vs:List Value}{c0:Array Value}{T0:TypeId}{fr0:Nat×Nat} (hc0:u.heap[b]? = some (.cells c0 T0 fr0)):ExtL B a (u.setCells b p vs):=by
 have h0:=sq (B:=0) (z9O b) vs p u;refine⟨h0.os.trans h.os,h0.tape.trans h.tape,h0.output.trans h.output,by rw[kX];exact h.size,fun k hk hl => ?_,fun k c T fr hc => ?_,fun k c T fr hk hc => ?_⟩
 ·rw[gF (fun e=>by
                   rcases hb with hb | hb;· omega
                   ·exact hl (e ▸ hb))]
  exact h.block k hk hl
 ·obtain⟨c',h1,h2⟩:=h.lentB k c T fr hc;by_cases e:k=b
  ·subst e;exact⟨cq c' p vs,by rw[fP];exact h1,jm _ _ _ _ h2⟩
  ·exact⟨c',h1,by rw[gF e];exact h2⟩
 ·by_cases e:k=b
  ·subst e;rw[jm _ _ _ _ hc0] at hc;injection hc with hc
   injection hc with h1 h2 h3
   obtain⟨c',g1,g2⟩:=h.lentT k c0 T0 fr0 hk hc0;refine⟨c',?_,?_⟩
   ·rw[g1,←h1,fP]
   ·rw[g2,h2,h3]
  ·rw[gF e] at hc;exact h.lentT k c T fr hk hc
theorem Rel.write (h:Rel w0 base nt loc s a w){id:Nat}{o:AObj}{L:Loc} (ho:s.m id=some o) (hf:o.frz=false) (hL:loc id=some L) (hn:L.nil=false){k:Cont}{p:Nat}{vs:List Value}
  (hk:∀(w':World) (c:Array Value),w.heap.size≤w'.heap.size→(∀b,NB base s.m loc w b→w'.heap[b]? = w.heap[b]?)→bF w' (NB base s.m loc w') loc c L.o o.sz o.cont→c.size=L.n→bF w' (NB base s.m loc w') loc (cq c p vs) L.o o.sz k) :
  Rel w0 base nt loc ⟨s.r,upd s.m id (some ⟨o.T,o.sz,k,false⟩)⟩ a (w.setCells L.b p vs):=by
 obtain⟨L',hL',hok⟩:=h.objs id o ho;rw[hL] at hL';cases hL';obtain⟨c,fr,h1,h2,h3,h4,h5⟩:=hok.at_ hn;have h4:=h4 hf;have hlt:=h.obj_lt ho hL hn;have hown:∀b,cV (upd s.m id (some ⟨o.T,o.sz,k,false⟩)) loc b↔cV s.m loc b:=by
  intro b;constructor
  ·rintro⟨i,o',L',ho',hf',hL',hn',hb'⟩;by_cases e:i=id
   ·subst e;exact⟨i,o,L',ho,hf,hL',hn',hb'⟩
   ·rw[aC _ _ e] at ho';exact⟨i,o',L',ho',hf',hL',hn',hb'⟩
  ·rintro⟨i,o',L',ho',hf',hL',hn',hb'⟩;by_cases e:i=id
   ·subst e;exact⟨i,_,L',aD _ _ _,rfl,hL',hn',hb'⟩
   ·exact⟨i,o',L',by rw[aC _ _ e];exact ho',hf',hL',hn',hb'⟩
 have hself:cV s.m loc L.b:=⟨id,o,L,ho,hf,hL,hn,rfl⟩
 have hsz:(w.setCells L.b p vs).heap.size=w.heap.size:=kX _ _ _;have hs:∀b,b≠L.b→(w.setCells L.b p vs).heap[b]? = w.heap[b]?:=fun b hb=>gF hb _ _ _
 have hNs:∀b,NB base s.m loc w b→(w.setCells L.b p vs).heap[b]? = w.heap[b]?:=fun b hb=>hs b (fun e=>hb.2.2 (e ▸ hself))
 have hN:∀b,NB base s.m loc w b→NB base (upd s.m id (some ⟨o.T,o.sz,k,false⟩)) loc (w.setCells L.b p vs) b:=fun b hb=>⟨by rw[hsz];exact hb.1,hb.2.1,fun e=>hb.2.2 ((hown b).1 e)⟩
 have hN':∀b,NB base s.m loc (w.setCells L.b p vs) b→NB base (upd s.m id (some ⟨o.T,o.sz,k,false⟩)) loc (w.setCells L.b p vs) b:=fun b hb=>⟨hb.1,hb.2.1,fun e=>hb.2.2 ((hown b).1 e)⟩
 refine⟨?_,h.defers,h.size,h.low,?_,fun t=>(h.tmps t).mono hNs hN (fun _ _ x=>x),?_,?_,h.keepL.put fun _=>⟨_,rfl,rfl⟩⟩
 ·exact h.ext.set h4.1 h1
 ·intro i hi;dsimp only at hi;by_cases e:i=id
  ·subst e;rw[aD] at hi;cases hi
  ·rw[aC _ _ e] at hi;exact h.dom i hi
 ·intro i o' ho';dsimp only at ho';by_cases e:i=id
  ·subst e;rw[aD] at ho';cases ho';refine⟨L,hL,hok.sz,fun e=>(by rw[hn] at e;cases e),fun _=>⟨cq c p vs,fr,jm _ _ _ _ h1,by simpa using h2,?_,fun _=>h4,by simp⟩⟩;have:=hk (w.setCells L.b p vs) c (by rw[hsz];exact z95 _) hNs (h3.mono hNs (fun b hb=>⟨by rw[hsz];exact hb.1,hb.2⟩) (fun _ _ x=>x)) h2;exact this.mono (fun _ _=>rfl) hN' (fun _ _ x=>x)
  ·rw[aC _ _ e] at ho';obtain⟨L',hL',hok'⟩:=h.objs i o' ho';refine⟨L',hL',hok'.sz,hok'.nil,fun hnil => ?_⟩;obtain⟨c',fr',g1,g2,g3,g4,g5⟩:=hok'.at_ hnil;have hne:L'.b≠L.b:=fun hb=>by
    have:=h.inj id i o o' L L' ho ho' hf hL hL' hn hnil hb.symm;exact e this.symm
   exact⟨c',fr',(hs _ hne).trans g1,g2,g3.mono hNs hN (fun _ _ x=>x),g4,fun hf'=>hN _ (g5 hf')⟩
 ·intro i i' o1 o2 L1 L2 ho1 ho2 hf1 hL1 hL2 hn1 hn2 hb;dsimp only at ho1 ho2;have old:∀j oj,upd s.m id (some ⟨o.T,o.sz,k,false⟩) j=some oj→∃oj',s.m j=some oj'∧oj'.frz=oj.frz:=by
   intro j oj hj;by_cases e:j=id
   ·subst e;rw[aD] at hj;cases hj;exact⟨o,ho,hf⟩
   ·rw[aC _ _ e] at hj;exact⟨oj,hj,rfl⟩
  obtain⟨o1',g1,g1'⟩:=old i o1 ho1;obtain⟨o2',g2,_⟩:=old i' o2 ho2;exact h.inj i i' o1' o2' L1 L2 g1 g2 (g1'.trans hf1) hL1 hL2 hn1 hn2 hb
theorem Rel.adopt (h:Rel w0 base nt loc s a w){w':World} (hext:Ext w w'){id:Nat} (hid:s.m id=none){T:TypeId}{sz:Nat}{l:List D} (L:Loc) (hsz:L.sz=sz) (hnl:L.nil=true→l=[])
  (hobj:L.nil=false→w.heap.size≤L.b∧∃c fr,w'.heap[L.b]? = some (.cells c T fr)∧c.size=L.n∧bF w' (fun x=>(x<w'.heap.size∧¬ (base.own x∨cV s.m loc x))∧x≠L.b) (fun _=>none) c L.o sz (.row l)∧∀x,x<L.n→(decide (fr.1≤x)&&decide (x<fr.2))=false) :
  Rel w0 base nt (upd loc id (some L)) ⟨s.r,upd s.m id (some ⟨T,sz,.row l,false⟩)⟩ a w':=by
 have hloc:=h.dom id hid;have hl:∀i K,loc i=some K→upd loc id (some L) i=some K:=fun i K hi=>by
  rw[aC];exact hi;rintro rfl;rw[hloc] at hi;cases hi
 have hs:∀b,NB base s.m loc w b→w'.heap[b]? = w.heap[b]?:=fun b hb=>hext.block b hb.1
 have hn:∀b,NB base s.m loc w b→NB base (upd s.m id (some ⟨T,sz,.row l,false⟩)) (upd loc id (some L)) w' b:=by
  rintro b ⟨h1,h2,h3⟩;refine⟨z9n h1 hext.size,h2,?_⟩;rintro⟨i,o,K,ho,hf,hK,hnil,hb⟩;by_cases hi:i=id
  ·subst hi;rw[aD] at hK;cases hK;have:=(hobj hnil).1;omega
  ·rw[aC _ _ hi] at ho hK;exact h3 ⟨i,o,K,ho,hf,hK,hnil,hb⟩
 refine⟨h.ext.tr hext,h.defers,h.size,h.low,?_,fun t=>(h.tmps t).mono hs hn hl,?_,?_,h.keepL.new hid _ _⟩
 ·intro i hi;dsimp only at hi;by_cases e:i=id
  ·subst e;rw[aD] at hi;cases hi
  ·rw[aC _ _ e] at hi ⊢;exact h.dom i hi
 ·intro i o ho;dsimp only at ho;by_cases e:i=id
  ·subst e;rw[aD] at ho;cases ho;refine⟨L,aD _ _ _,hsz,fun hnil=>by rw[hnl hnil],fun hnil => ?_⟩;obtain⟨g1,c,fr,g2,g3,g4,g5⟩:=hobj hnil;refine⟨c,fr,g2,g3,⟨g4.1,g4.2.1,fun p0 e0 j0 d0 q1 q2=>⟨(g4.2.2 p0 e0 j0 d0 q1 q2).1,(g4.2.2 p0 e0 j0 d0 q1 q2).2.mono (fun _ _=>rfl) fun b hb=>⟨hb.1.1,fun g=>hb.1.2 (.inl g),?_⟩⟩⟩,fun _=>⟨.inl (z9E h.ext.size g1),g5⟩,by simp⟩;rintro⟨i',o',K,k1,k2,k3,k4,k5⟩;by_cases e':i'=i
   ·subst e';dsimp only at k1 k3;rw[aD] at k3;cases k3;exact hb.2 k5.symm
   ·dsimp only at k1 k3;rw[aC _ _ e'] at k1 k3;exact hb.1.2 (.inr ⟨i',o',K,k1,k2,k3,k4,k5⟩)
  ·rw[aC _ _ e] at ho;obtain⟨K,hK,hok⟩:=h.objs i o ho;refine⟨K,hl i K hK,hok.sz,hok.nil,fun hnil => ?_⟩;obtain⟨c',fr,h1,h2,h3,h4,h5⟩:=hok.at_ hnil;have hlt:=h.obj_lt ho hK hnil;exact⟨c',fr,(hext.block _ hlt).trans h1,h2,h3.mono hs hn hl,h4,fun hf=>hn _ (h5 hf)⟩
 ·intro i i' o o' K K' ho ho' hf hK hK' hnil hnil' hb;dsimp only at ho ho';by_cases e:i=id
  ·subst e;rw[aD] at hK;cases hK;by_cases e':i'=i
   ·exact e'.symm
   ·rw[aC _ _ e'] at ho' hK';have:=h.obj_lt ho' hK' hnil';have:=(hobj hnil).1;omega
  ·rw[aC _ _ e] at ho hK;by_cases e':i'=id
   ·subst e';rw[aD] at hK';cases hK';have:=h.obj_lt ho hK hnil;have:=(hobj hnil').1;omega
   ·rw[aC _ _ e'] at ho' hK';exact h.inj i i' o o' K K' ho ho' hf hK hK' hnil hnil' hb
theorem Rel.turn (h:Rel w0 base nt loc s a w){id:Nat}{o:AObj}{L:Loc} (ho:s.m id=some o) (hf:o.frz=false) (hL:loc id=some L) (hn:L.nil=false){w':World}{c c':Array Value}{fr:Nat×Nat}{l':List D}{B:Bs} (hw:ExtL B w w')
  (hB:∀b,B.lent b→b=L.b) (hc:w.heap[L.b]? = some (.cells c o.T fr)) (hc':w'.heap[L.b]? = some (.cells c' o.T fr)) (hcs:c'.size=c.size)
  (hk:bF w' (fun b=>b<w'.heap.size∧¬ (base.own b∨cV s.m loc b)) (fun _=>none) c' L.o o.sz (.row l')) :
  Rel w0 base nt loc ⟨s.r,upd s.m id (some ⟨o.T,o.sz,.row l',false⟩)⟩ a w':=by
 obtain⟨L',hL',hok⟩:=h.objs id o ho;rw[hL] at hL';cases hL';obtain⟨c0,fr0,h1,h2,h3,h4,h5⟩:=hok.at_ hn;rw[hc] at h1;injection h1 with h1
 injection h1 with e1 e2 e3
 subst e1 e3;have h4:=h4 hf;have hown:∀b,cV (upd s.m id (some ⟨o.T,o.sz,.row l',false⟩)) loc b↔cV s.m loc b:=by
  intro b;constructor
  ·rintro⟨i,o',L',ho',hf',hL',hn',hb'⟩;by_cases e:i=id
   ·subst e;exact⟨i,o,L',ho,hf,hL',hn',hb'⟩
   ·rw[aC _ _ e] at ho';exact⟨i,o',L',ho',hf',hL',hn',hb'⟩
  ·rintro⟨i,o',L',ho',hf',hL',hn',hb'⟩;by_cases e:i=id
   ·subst e;exact⟨i,_,L',aD _ _ _,rfl,hL',hn',hb'⟩
   ·exact⟨i,o',L',by rw[aC _ _ e];exact ho',hf',hL',hn',hb'⟩
 have hself:cV s.m loc L.b:=⟨id,o,L,ho,hf,hL,hn,rfl⟩
 have hs:∀b,b<w.heap.size→b≠L.b→w'.heap[b]? = w.heap[b]?:=fun b hb hne=>hw.block b hb fun e=>hne (hB b e)
 have hNs:∀b,NB base s.m loc w b→w'.heap[b]? = w.heap[b]?:=fun b hb=>hs b hb.1 (fun e=>hb.2.2 (e ▸ hself))
 have hN:∀b,NB base s.m loc w b→NB base (upd s.m id (some ⟨o.T,o.sz,.row l',false⟩)) loc w' b:=fun b hb=>⟨z9n hb.1 hw.size,hb.2.1,fun e=>hb.2.2 ((hown b).1 e)⟩
 refine⟨⟨hw.os.trans h.ext.os,hw.tape.trans h.ext.tape,hw.output.trans h.ext.output,z9E h.ext.size hw.size,fun k hk' hl => ?_,fun k c1 T fr1 hc1 => ?_,fun k c1 T fr1 hk' hc1 => ?_⟩,h.defers,h.size,h.low,?_,fun t=>(h.tmps t).mono hNs hN (fun _ _ x=>x),?_,?_,h.keepL.put fun _=>⟨_,rfl,rfl⟩⟩
 ·rw[hs k (z9n hk' h.ext.size) (fun e=>by
   subst e;rcases h4.1 with g | g
   ·omega
   ·exact hl g)]
  exact h.ext.block k hk' hl
 ·obtain⟨c2,g1,g2⟩:=h.ext.lentB k c1 T fr1 hc1;obtain⟨c3,g3,g4⟩:=hw.lentB k c2 T fr1 g2;exact⟨c3,g3.trans g1,g4⟩
 ·obtain⟨c2,g1,g2⟩:=hw.lentT k c1 T fr1 (z9n hk' h.ext.size) hc1;obtain⟨c3,g3,g4⟩:=h.ext.lentT k c2 T fr1 hk' g2;exact⟨c3,g3.trans g1,g4⟩
 ·intro i hi;dsimp only at hi;by_cases e:i=id
  ·subst e;rw[aD] at hi;cases hi
  ·rw[aC _ _ e] at hi;exact h.dom i hi
 ·intro i o' ho';dsimp only at ho';by_cases e:i=id
  ·subst e;rw[aD] at ho';cases ho';refine⟨L,hL,hok.sz,fun e=>(by rw[hn] at e;cases e),fun _=>⟨c',fr,hc',hcs.trans h2,?_,fun _=>h4,by simp⟩⟩;exact⟨hk.1,hk.2.1,fun i e j d g1 g2=>⟨(hk.2.2 i e j d g1 g2).1,(hk.2.2 i e j d g1 g2).2.mono (fun _ _=>rfl) fun b hb=>⟨hb.1,fun g=>hb.2 (.inl g),fun g=>hb.2 (.inr ((hown b).1 g))⟩⟩⟩
  ·rw[aC _ _ e] at ho';obtain⟨L',hL',hok'⟩:=h.objs i o' ho';refine⟨L',hL',hok'.sz,hok'.nil,fun hnil => ?_⟩;obtain⟨c',fr',g1,g2,g3,g4,g5⟩:=hok'.at_ hnil;have hne:L'.b≠L.b:=fun hb=>by
    have:=h.inj id i o o' L L' ho ho' hf hL hL' hn hnil hb.symm;exact e this.symm
   exact⟨c',fr',(hs _ (n6 g1) hne).trans g1,g2,g3.mono hNs hN (fun _ _ x=>x),g4,fun hf'=>hN _ (g5 hf')⟩
 ·intro i i' o1 o2 L1 L2 ho1 ho2 hf1 hL1 hL2 hn1 hn2 hb;dsimp only at ho1 ho2;have old:∀j oj,upd s.m id (some ⟨o.T,o.sz,.row l',false⟩) j=some oj→∃oj',s.m j=some oj'∧oj'.frz=oj.frz:=by
   intro j oj hj;by_cases e:j=id
   ·subst e;rw[aD] at hj;cases hj;exact⟨o,ho,hf⟩
   ·rw[aC _ _ e] at hj;exact⟨oj,hj,rfl⟩
  obtain⟨o1',g1,g1'⟩:=old i o1 ho1;obtain⟨o2',g2,_⟩:=old i' o2 ho2;exact h.inj i i' o1' o2' L1 L2 g1 g2 (g1'.trans hf1) hL1 hL2 hn1 hn2 hb
end
end Go.Proofs.YtbnhgnhgbhjkcaaGreat.M
namespace Go.Proofs.YtbnhgnhgbhjkcaaGreat.Mp
set_option linter.unusedSimpArgs false
def pad (k:Nat) (e:Mo):Mo:=e++List.replicate k 0
def padT (k:Nat) (x:Rat×Mo):Rat×Mo:=(x.1,pad k x.2)
theorem pH (z:List Int):∀{l m:List Int},l.length=m.length→gtL (l++z) (m++z)=gtL l m
 |[],[],_=>by rw[List.nil_append,gtL_self];rfl
 |a::l,b::m,h=>by
  rw[List.cons_append,List.cons_append,gtL,gtL];split
  ·exact pH z (by simpa using h)
  ·rfl
theorem vS:∀(z l m:List Int),gtL (z++l) (z++m)=gtL l m
 |[],_,_=>rfl
 |a::z,l,m=>by rw[List.cons_append,List.cons_append,gtL,if_pos rfl];exact vS z l m
theorem me (k:Nat) (e:Mo):(pad k e).sum=e.sum:=by
 unfold pad;rw[List.sum_append];have:∀k:Nat,(List.replicate k (0:Int)).sum=0:=fun k=>by
  induction k with
  |zero=>rfl
  |succ k ih=>rw[List.replicate_succ,List.sum_cons,ih];rfl
 rw[this,z8Y]
theorem zcb (ord:Int) (k:Nat){a b:Mo} (h:a.length=b.length):ahead ord (pad k a) (pad k b)=ahead ord a b:=by
 unfold ahead key;split
 ·exact pH _ h
 ·split
  ·rw[me,me];unfold pad;rw[List.reverse_append,List.reverse_append,z9U,z9U,gtL,gtL];split
   ·exact vS _ _ _
   ·rfl
  ·rw[me,me];exact pH (List.replicate k 0) (l:=a.sum::a) (m:=b.sum::b) (by simp[h])
theorem zcc {k:Nat}{a b:Mo} (h:pad k a=pad k b):a=b:=List.append_cancel_right h
theorem vT (ord:Int) (k:Nat){n:Nat}{t:Rat×Mo} (ht:t.2.length=n):∀{l:TL},Wd n l→ins ord (padT k t) (l.map (padT k))=(ins ord t l).map (padT k)
 |[],_=>by
  rw[List.map_nil,ins,ins];have e:(padT k t).1=t.1:=rfl;rw[e];split<;>rfl
 |x::l,h=>by
  have e1:(padT k t).1=t.1:=rfl;have e2:(padT k x).1=x.1:=rfl;have hx:=h x z9X;have e3:((padT k t).2=(padT k x).2)=(t.2=x.2):=propext ⟨fun h=>zcc h,fun h=>by unfold padT;rw[h]⟩;have e4:ahead ord (padT k t).2 (padT k x).2=ahead ord t.2 x.2:=zcb ord k (by rw[ht,hx]);rw[z89,ins,ins,e1,e2,e4];simp only[e3];split
  ·split<;>rfl
  ·split
   ·split<;>rfl
   ·rw[vT ord k ht h.tail];rfl
theorem canon_pad (ord:Int) (k:Nat){n:Nat}:∀{l:TL},Wd n l→canon ord (l.map (padT k))=(canon ord l).map (padT k)
 |[],_=>rfl
 |t::l,h=>by
  rw[z89,canon,canon,canon_pad ord k h.tail,vT ord k (h t z9X) (canon_wd h.tail)]
theorem zcd (k:Nat){a b:Mo} (h:a.length=b.length):addM (pad k a) (pad k b)=pad k (addM a b):=by
 unfold addM pad;rw[List.zipWith_append h];congr 1
 induction k with
 |zero=>rfl
 |succ k ih=>rw[List.replicate_succ,List.zipWith_cons_cons,ih];rfl
theorem mulL_pad (k:Nat){n:Nat}{a b:TL} (ha:Wd n a) (hb:Wd n b):mulL (a.map (padT k)) (b.map (padT k))=(mulL a b).map (padT k):=by
 unfold mulL;rw[List.map_flatMap,List.flatMap_map];rw[List.flatMap_def,List.flatMap_def];congr 1
 refine List.map_congr_left fun x hx => ?_
 rw[List.map_map,List.map_map];refine List.map_congr_left fun y hy => ?_
 show ((x.1*y.1,addM (pad k x.2) (pad k y.2)):Rat×Mo)=(x.1*y.1,pad k (addM x.2 y.2))
 rw[zcd k (by rw[ha x hx,hb y hy])]
theorem pad_len {k n:Nat}{l:TL} (h:Wd n l):Wd (n+k) (l.map (padT k)):=fun x hx=>by
 obtain⟨y,hy,rfl⟩:=z9Q.1 hx;show (pad k y.2).length=_
 unfold pad;rw[z96,List.length_replicate,h y hy]
end Go.Proofs.YtbnhgnhgbhjkcaaGreat.Mp
namespace Go.Proofs.YtbnhgnhgbhjkcaaGreat
set_option linter.unusedSimpArgs false
set_option maxHeartbeats 400000
open Go.RowKit
theorem d8:(Tryz.prog.info? 173).map (fun i=>(i.zero,i.size,i.bytes))=some (some (.int .u32 0),1,4):=by kernel_rfl
theorem jk (x y c:Int) (w:World) (hx:0≤x∧x≤4294967295) (hy:0≤y∧y≤4294967295) (hc:0≤c∧c≤1) :
  Calls Tryz.prog 150 #[.int .u32 x,.int .u32 y,.int .u32 c] w (fun e w'=>e = .returned (.tuple #[.int .u32 ((x+y+c) % 4294967296),.int .u32 ((x+y+c) / 4294967296)])∧w=w'):=by
 go_enter Tryz.func150,Tryz.ntmps150;go_wp2;go_ret2;exact⟨rfl,rfl⟩
def bor (x y c:Int):Int:=if x-y-c<0 then 1 else 0
theorem rP (a b:Nat) (ha:a<4294967296) (hb:b<4294967296):(a &&& b) / 2147483648=(a / 2147483648)*(b / 2147483648):=by
 have h:(a &&& b) / 2^31=(a / 2^31) &&& (b / 2^31):=Nat.and_div_two_pow;simp only[Nat.reducePow] at h;rw[h];have h1:a / 2147483648<2:=by omega
 have h2:b / 2147483648<2:=by omega
 generalize a / 2147483648=p at *;generalize b / 2147483648=q at *
 match p,h1,q,h2 with
 |0,_,0,_=>rfl
 |0,_,1,_=>rfl
 |1,_,0,_=>rfl
 |1,_,1,_=>rfl
theorem SY (a b:Nat) (ha:a<4294967296) (hb:b<4294967296):(a ||| b) / 2147483648=max (a / 2147483648) (b / 2147483648):=by
 have h:(a ||| b) / 2^31=(a / 2^31) ||| (b / 2^31):=Nat.or_div_two_pow
 simp only[Nat.reducePow] at h;rw[h];have h1:a / 2147483648<2:=by omega
 have h2:b / 2147483648<2:=by omega
 generalize a / 2147483648=p at *;generalize b / 2147483648=q at *
 match p,h1,q,h2 with
 |0,_,0,_=>rfl
 |0,_,1,_=>rfl
 |1,_,0,_=>rfl
 |1,_,1,_=>rfl
theorem nD (a b:Nat) (ha:a<4294967296) (hb:b<4294967296):(a ^^^ b) / 2147483648=(a / 2147483648+b / 2147483648) % 2:=by
 have h:(a ^^^ b) / 2^31=(a / 2^31) ^^^ (b / 2^31):=Nat.xor_div_two_pow;simp only[Nat.reducePow] at h;rw[h];have h1:a / 2147483648<2:=by omega
 have h2:b / 2147483648<2:=by omega
 generalize a / 2147483648=p at *;generalize b / 2147483648=q at *
 match p,h1,q,h2 with
 |0,_,0,_=>rfl
 |0,_,1,_=>rfl
 |1,_,0,_=>rfl
 |1,_,1,_=>rfl
theorem kP (a:Nat) (ha:a<4294967296):4294967295 ^^^ a<4294967296:=Nat.xor_lt_two_pow (n:=32) (by omega) ha
theorem SZ (x y d:Nat) (hx:x<4294967296) (hy:y<4294967296) (hd:d<4294967296) :
  (((4294967295 ^^^ x) &&& y) ||| ((4294967295 ^^^ (x ^^^ y)) &&& d)) / 2147483648=max ((1-x / 2147483648)*(y / 2147483648)) ((1-(x / 2147483648+y / 2147483648) % 2)*(d / 2147483648)):=by
 have hxy:x ^^^ y<4294967296:=Nat.xor_lt_two_pow (n:=32) hx hy;have h1:=kP x hx;have h2:=kP _ hxy;have h3:(4294967295 ^^^ x) &&& y<4294967296:=Nat.and_lt_two_pow (n:=32) _ hy;have h4:(4294967295 ^^^ (x ^^^ y)) &&& d<4294967296:=Nat.and_lt_two_pow (n:=32) _ hd;rw[SY _ _ h3 h4,rP _ _ h1 hy,rP _ _ h2 hd,nD _ _ (by omega) hx,nD _ _ (by omega) hxy,nD _ _ hx hy];congr 1
 ·congr 1;omega
 ·congr 1;omega
theorem S0 (x y c:Int) (hx:0≤x∧x≤4294967295) (hy:0≤y∧y≤4294967295) (hc:0≤c∧c≤1) :
  bits BinOp.or IntKind.u32 (bits BinOp.and IntKind.u32 (bits BinOp.xor IntKind.u32 IntKind.u32.max x) y)
   (bits BinOp.and IntKind.u32 (bits BinOp.xor IntKind.u32 IntKind.u32.max (bits BinOp.xor IntKind.u32 x y)) ((x-y-c) % 4294967296)) / 2147483648=bor x y c:=by
 obtain⟨a,rfl⟩:=z9W hx.1;obtain⟨b,rfl⟩:=z9W hy.1;obtain⟨d,hd⟩:=z9W (a:=((a:Int)-b-c) % 4294967296) (by omega);have hd':d<4294967296:=by omega
 have ha:a<4294967296:=by omega
 have hb:b<4294967296:=by omega
 have hm:IntKind.u32.max=((4294967295:Nat):Int):=by decide
 have hxy:a ^^^ b<4294967296:=Nat.xor_lt_two_pow (n:=32) ha hb;have h1:=kP a ha;have h2:=kP _ hxy;have h3:(4294967295 ^^^ a) &&& b<4294967296:=Nat.and_lt_two_pow (n:=32) _ hb;have h4:(4294967295 ^^^ (a ^^^ b)) &&& d<4294967296:=Nat.and_lt_two_pow (n:=32) _ hd';rw[hd,hm,u32_xor_nat _ _ (by omega) ha,u32_xor_nat _ _ ha hb,u32_xor_nat _ _ (by omega) hxy,u32_and_nat _ _ h1 hb,u32_and_nat _ _ h2 hd',u32_or_nat _ _ h3 h4];have:=SZ a b d ha hb hd';have e:(((((4294967295 ^^^ a) &&& b) ||| ((4294967295 ^^^ (a ^^^ b)) &&& d):Nat):Int)) / 2147483648=((((((4294967295 ^^^ a) &&& b) ||| ((4294967295 ^^^ (a ^^^ b)) &&& d)) / 2147483648:Nat)):Int):=by omega
 rw[e,this];unfold bor;have ha2:a / 2147483648<2:=by omega
 have hb2:b / 2147483648<2:=by omega
 have hd2:d / 2147483648<2:=by omega
 split
 ·generalize hp:a / 2147483648=p at *;generalize hq:b / 2147483648=q at *;generalize hr:d / 2147483648=r at *
  match p,ha2,q,hb2,r,hd2 with
  |0,_,0,_,0,_=>omega
  |0,_,0,_,1,_=>rfl
  |0,_,1,_,0,_=>rfl
  |0,_,1,_,1,_=>rfl
  |1,_,0,_,0,_=>omega
  |1,_,0,_,1,_=>omega
  |1,_,1,_,0,_=>omega
  |1,_,1,_,1,_=>rfl
 ·generalize hp:a / 2147483648=p at *;generalize hq:b / 2147483648=q at *;generalize hr:d / 2147483648=r at *
  match p,ha2,q,hb2,r,hd2 with
  |0,_,0,_,0,_=>rfl
  |0,_,0,_,1,_=>omega
  |0,_,1,_,0,_=>omega
  |0,_,1,_,1,_=>omega
  |1,_,0,_,0,_=>rfl
  |1,_,0,_,1,_=>rfl
  |1,_,1,_,0,_=>rfl
  |1,_,1,_,1,_=>omega
theorem nE (x y c:Int) (w:World) (hx:0≤x∧x≤4294967295) (hy:0≤y∧y≤4294967295) (hc:0≤c∧c≤1) :
  Calls Tryz.prog 146 #[.int .u32 x,.int .u32 y,.int .u32 c] w (fun e w'=>e = .returned (.tuple #[.int .u32 ((x-y-c) % 4294967296),.int .u32 (bor x y c)])∧w=w'):=by
 have H:=S0 x y c hx hy hc;go_enter Tryz.func146,Tryz.ntmps146;go_wp2;go_ret2;exact⟨rfl,rfl⟩
theorem cmpI (x y:Int) (w:World) :
  Calls Tryz.prog 132 #[.int .i64 x,.int .i64 y] w (fun e w'=>e = .returned (.int .i64 (cmpZ x y))∧w=w'):=by
 rcases Int.lt_trichotomy x y with h | h | h
 ·have H:=hd_ (eO h);go_enter Tryz.func132,Tryz.ntmps132;go_wp2;go_ret;exact⟨by rw[H.out];rfl,rfl⟩
 ·subst h;have H:=hd_ (iT (x:=x) rfl);go_enter Tryz.func132,Tryz.ntmps132;go_wp2;go_ret;exact⟨by rw[H.out];rfl,rfl⟩
 ·have H:=hd_ (gh h);go_enter Tryz.func132,Tryz.ntmps132;go_wp2;go_ret;exact⟨by rw[H.out];rfl,rfl⟩
theorem nF (x y:Int) (w:World) :
  Calls Tryz.prog 139 #[.int .u32 x,.int .u32 y] w (fun e w'=>e = .returned (.int .i64 (cmpZ x y))∧w=w'):=by
 rcases Int.lt_trichotomy x y with h | h | h
 ·have H:=hd_ (eO h);go_enter Tryz.func139,Tryz.ntmps139;go_wp2;go_ret;exact⟨by rw[H.out];rfl,rfl⟩
 ·subst h;have H:=hd_ (iT (x:=x) rfl);go_enter Tryz.func139,Tryz.ntmps139;go_wp2;go_ret;exact⟨by rw[H.out];rfl,rfl⟩
 ·have H:=hd_ (gh h);go_enter Tryz.func139,Tryz.ntmps139;go_wp2;go_ret;exact⟨by rw[H.out];rfl,rfl⟩
end Go.Proofs.YtbnhgnhgbhjkcaaGreat
