/- The small machine: the model does what the small machine says: arithmetic, lengths, slices. -/
import Derived.Test.YtlnhembcfhfpkaaMHx
namespace Go.Proofs.Ytlnhembcfhfpkaa.M
open Go.RowKit
theorem wrap_in {k:IntKind} {n:Int} (h:inK k n=true):k.wrap n=n:=by
 cases k<;>simp only[inK,decide_eq_true_eq] at h<;>simp only[IntKind.wrap,IntKind.signed,IntKind.bits,Bool.true_and,Bool.false_and,ge_iff_le,decide_eq_true_eq,Bool.false_eq_true,if_false]<;>first | (split<;>omega) | omega
theorem width (k:IntKind):∃ W,W≤k.bits∧∀ m:Nat,inK k (m:Int)=true↔m<2^W:=by
 cases k
 ·exact⟨7,by decide,fun m=>by simp only[inK,decide_eq_true_eq];omega⟩
 ·exact⟨15,by decide,fun m=>by simp only[inK,decide_eq_true_eq];omega⟩
 ·exact⟨31,by decide,fun m=>by simp only[inK,decide_eq_true_eq];omega⟩
 ·exact⟨63,by decide,fun m=>by simp only[inK,decide_eq_true_eq];omega⟩
 ·exact⟨8,by decide,fun m=>by simp only[inK,decide_eq_true_eq];omega⟩
 ·exact⟨16,by decide,fun m=>by simp only[inK,decide_eq_true_eq];omega⟩
 ·exact⟨32,by decide,fun m=>by simp only[inK,decide_eq_true_eq];omega⟩
 ·exact⟨64,by decide,fun m=>by simp only[inK,decide_eq_true_eq];omega⟩
theorem and_not_eq {W m n:Nat} (hm:m<2^W) (hn:n<2^W):m &&& (2^W-1-n)=m ^^^ (m &&& n):=by
 refine Nat.eq_of_testBit_eq fun i => ?_
 rw[show 2^W-1-n=2^W-(n+1) by omega,Nat.testBit_and,Nat.testBit_two_pow_sub_succ hn,Nat.testBit_xor,Nat.testBit_and]
 by_cases hi:i<W
 ·cases m.testBit i<;>cases n.testBit i<;>simp[hi]
 ·have:m.testBit i=false:=Nat.testBit_lt_two_pow (Nat.lt_of_lt_of_le hm (Nat.pow_le_pow_right (by decide) (by omega)))
  simp[this]
theorem bits_ok {k:IntKind} {a b:Int} (h:bitB k a b=true) (op:BinOp) (ho:op = .and∨op = .or∨op = .xor∨op = .andNot):Op.intBits op k a b=pure (.int k (bitN op a.toNat b.toNat:Nat)):=by
 simp only[bitB,Bool.and_eq_true,decide_eq_true_eq] at h
 obtain⟨⟨⟨h1,h2⟩,h3⟩,h4⟩:=h
 obtain⟨m,rfl⟩:=Int.eq_ofNat_of_zero_le h1
 obtain⟨n,rfl⟩:=Int.eq_ofNat_of_zero_le h2
 obtain⟨W,hW,hk⟩:=width k
 have hm:=(hk m).1 h3
 have hn:=(hk n).1 h4
 have hpow:2^W≤2^k.bits:=Nat.pow_le_pow_right (by decide) hW
 have toN:∀ m:Nat,m<2^W→(BitVec.ofInt k.bits (m:Int)).toNat=m:=fun m hm=>by
  rw[BitVec.toNat_ofInt,←Int.natCast_emod,Int.toNat_natCast,Nat.mod_eq_of_lt (by omega)]
 have hb:∀ r:Nat,r<2^W→k.wrap (r:Int)=r:=fun r hr=>wrap_in ((hk r).2 hr)
 simp only[Int.toNat_natCast]
 have hx:m &&& n<2^W:=Nat.lt_of_le_of_lt Nat.and_le_left hm
 rcases ho with rfl | rfl | rfl | rfl
 ·simp only[Op.intBits,bitN,BitVec.toNat_and,toN m hm,toN n hn,hb _ hx]
 ·simp only[Op.intBits,bitN,BitVec.toNat_or,toN m hm,toN n hn,hb _ (Nat.or_lt_two_pow hm hn)]
 ·simp only[Op.intBits,bitN,BitVec.toNat_xor,toN m hm,toN n hn,hb _ (Nat.xor_lt_two_pow hm hn)]
 ·have e:=and_not_eq (W:=k.bits) (m:=m) (n:=n) (by omega) (by omega)
  simp only[Op.intBits,bitN,BitVec.toNat_and,BitVec.toNat_not,toN m hm,toN n hn,e,hb _ (Nat.xor_lt_two_pow hm hx)]
theorem bytes_eq (x y:ByteArray):(x.toList == y.toList)=decide (x.data.toList=y.data.toList):=by
 rw[ByteArray.toList_eq,ByteArray.toList_eq,Bool.eq_iff_iff]
 simp only[beq_iff_eq,decide_eq_true_eq]
section
variable {P:Program} {w0:World} {base:Bs} {nt:Nat} {loc:Locs} {s t:St} {a:Act} {w:World} {o:Oper} {id:Nat} {d:AV}
theorem run_equal_bool {T:TypeId} (hT:P.underlying T=some .bool) (p q:Bool):(Op.equal T (.bool p) (.bool q)).run P w = .ok (p == q) w:=by
 have hd:Op.maxDepth=9999+1:=rfl
 unfold Op.equal
 rw[hd,Op.equalIn]
 simp only[Sem.run_bind,run_underlying hT,Result.andThen]
 rfl
theorem run_bin_eql {T:TypeId} (hT:P.underlying T=some .bool) (p q:Bool):(binOp .eql T (.bool p) (.bool q)).run P w = .ok (.bool (p == q)) w:=by
 unfold binOp
 simp[run_equal_bool hT]
theorem run_bin_neq {T:TypeId} (hT:P.underlying T=some .bool) (p q:Bool):(binOp .neq T (.bool p) (.bool q)).run P w = .ok (.bool (!(p == q))) w:=by
 unfold binOp
 simp[run_equal_bool hT]
theorem sim_un {T:TypeId} {op:UnOp} {x:Operand} (h:Rel w0 base nt loc s a w) (ho:o.op = .unOp op T x) {U:Option TypeId}
  (he:ev (.un op (opd P U x)) id s=some (true,d,t)):Good P w0 base nt o a w t d:=by
 have hx:=h.opd (P:=P) U x
 simp only[ev] at he
 split at he
 ·rename_i e hk
  split at he
  ·rename_i c q hq
   simp only[Option.some.injEq,Prod.mk.injEq] at he
   obtain⟨rfl,rfl,rfl⟩:=he
   rw[hk] at hx
   have hx:=hx.inv
   generalize hxv:a.eval x=v at hx
   cases hx with
   | int k n =>
    cases op with
    | neg =>
     simp only[unD,Option.some.injEq,Prod.mk.injEq] at hq
     obtain⟨h1,rfl⟩:=hq
     refine good_same h (v:=.int k (-n)) ?_ (.p _ _ (.int _ _))
     have:=wrap_in h1
     simp[execOp,ho,hxv,Op.unary,Op.intArith,this]
    | _=>simp[unD] at hq
   | bool b =>
    cases op with
    | not =>
     simp only[unD,Option.some.injEq,Prod.mk.injEq,true_and] at hq
     subst hq
     refine good_same h (v:=.bool (!b)) ?_ (.p _ _ (.bool _))
     simp[execOp,ho,hxv,Op.unary]
    | _=>simp[unD] at hq
   | _=>simp[unD] at hq
  ·cases he
 ·cases he
theorem sim_conv {S T:TypeId} {k:IntKind} {ds:TypeDesc} {x:Operand} (h:Rel w0 base nt loc s a w) (ho:o.op = .convert S T x) (hS:P.underlying S=some ds) (hT:P.underlying T=some (.int k)) {U:Option TypeId}
  (he:ev (.conv k (opd P U x)) id s=some (true,d,t)):Good P w0 base nt o a w t d:=by
 have hx:=h.opd (P:=P) U x
 simp only[ev] at he
 split at he
 ·rename_i k' n hk
  simp only[Option.some.injEq,Prod.mk.injEq] at he
  obtain⟨h1,rfl,rfl⟩:=he
  rw[hk] at hx
  have hx:=hx.inv
  generalize hxv:a.eval x=v at hx
  cases hx
  refine good_same h (v:=.int k n) ?_ (.p _ _ (.int _ _))
  have:=wrap_in h1
  simp[execOp,ho,hxv,convert,run_underlying hS,run_underlying hT,Conv.intToInt,this]
 ·cases he
theorem sim_bin {T:TypeId} {op:BinOp} {x y:Operand} {Y:TypeId} (h:Rel w0 base nt loc s a w) (ho:o.op = .binOp op T x y Y) {bo:Bool} (hb:bo=true→P.underlying T=some .bool) {U W:Option TypeId}
  (he:ev (.bin bo op (opd P U x) (opd P W y)) id s=some (true,d,t)):Good P w0 base nt o a w t d:=by
 have hx:=h.opd (P:=P) U x
 have hy:=h.opd (P:=P) W y
 simp only[ev] at he
 split at he
 case h_2=>cases he
 rename_i e f hk hk'
 split at he
 case isFalse=>cases he
 rename_i hbo
 split at he
 case h_2=>cases he
 rename_i c q hq
 simp only[Option.some.injEq,Prod.mk.injEq] at he
 obtain⟨rfl,rfl,rfl⟩:=he
 rw[hk] at hx
 rw[hk'] at hy
 have hx:=hx.inv
 have hy:=hy.inv
 generalize hxv:a.eval x=v at hx
 generalize hyv:a.eval y=u at hy
 have fin:∀ z,V w (NB base s.m loc w) z q→(eqGuard op T x y v u >>= fun _=>binOp op T v u).run P w = .ok z w→Good P w0 base nt o a w s (.p q):=by
  intro z hz hr
  refine good_same h (v:=z) ?_ (.p _ _ hz)
  simp only[execOp,ho,hxv,hyv]
  exact run_v hr
 cases hx with
 | int k m =>
  cases hy with
  | int k' n =>
   have hg:(eqGuard op T x y (.int k m) (.int k' n)).run P w = .ok () w:=by
    unfold eqGuard
    cases op<;>simp
   by_cases hkk:k=k'
   ·subst hkk
    cases op<;>simp only[binD,if_true,Option.some.injEq,Prod.mk.injEq,Bool.and_eq_true,decide_eq_true_eq] at hq<;>obtain⟨h1,rfl⟩:=hq
    case add=>exact fin _ (.int _ _) (by simp[hg,binOp,Op.intArith,wrap_in h1])
    case sub=>exact fin _ (.int _ _) (by simp[hg,binOp,Op.intArith,wrap_in h1])
    case mul=>exact fin _ (.int _ _) (by simp[hg,binOp,Op.intArith,wrap_in h1])
    case quo=>exact fin _ (.int _ _) (by simp[hg,binOp,Op.intDiv,wrap_in h1.2,h1.1])
    case rem=>exact fin _ (.int _ _) (by simp[hg,binOp,Op.intDiv,h1])
    case and=>exact fin _ (.int _ _) (by simp[hg,binOp,bits_ok h1 .and (by simp)])
    case or=>exact fin _ (.int _ _) (by simp[hg,binOp,bits_ok h1 .or (by simp)])
    case xor=>exact fin _ (.int _ _) (by simp[hg,binOp,bits_ok h1 .xor (by simp)])
    case andNot=>exact fin _ (.int _ _) (by simp[hg,binOp,bits_ok h1 .andNot (by simp)])
    case shl=>exact fin _ (.int _ _) (by simp[hg,binOp,shift_shl k _ m n h1.1.1 (by omega),wrap_in h1.2])
    case shr=>exact fin _ (.int _ _) (by simp[hg,binOp,shift_shr k _ m n h1.1 (by omega)])
    case eql=>exact fin _ (.bool _) (by simp[hg,binOp,Op.intCmp];rfl)
    case neq=>exact fin _ (.bool _) (by simp[hg,binOp,Op.intCmp];rfl)
    case lss=>exact fin _ (.bool _) (by simp[hg,binOp,Op.intCmp])
    case leq=>exact fin _ (.bool _) (by simp[hg,binOp,Op.intCmp])
    case gtr=>exact fin _ (.bool _) (by simp[hg,binOp,Op.intCmp])
    case geq=>exact fin _ (.bool _) (by simp[hg,binOp,Op.intCmp])
   ·cases op<;>simp only[binD,hkk,if_false,Option.some.injEq,Prod.mk.injEq,Bool.and_eq_true,decide_eq_true_eq,reduceCtorEq] at hq<;>obtain⟨h1,rfl⟩:=hq
    case shl=>exact fin _ (.int _ _) (by simp[hg,binOp,shift_shl k _ m n h1.1.1 (by omega),wrap_in h1.2])
    case shr=>exact fin _ (.int _ _) (by simp[hg,binOp,shift_shr k _ m n h1.1 (by omega)])
  | _=>simp[binD] at hq
 | str m =>
  cases hy with
  | str n =>
   have hg:(eqGuard op T x y (.string m) (.string n)).run P w = .ok () w:=by
    unfold eqGuard
    cases op<;>simp
   cases op<;>simp only[binD,Option.some.injEq,Prod.mk.injEq,decide_eq_true_eq,reduceCtorEq] at hq<;>obtain⟨h1,rfl⟩:=hq
   case add =>
    have e:(m.data.toList++n.data.toList)=(m++n).data.toList:=by simp
    exact fin (.string (m++n)) (by rw[e];exact .str _) (by
     have hle:¬ ((9223372036854775807:Int)<(m.size:Int)+n.size):=by
      have h2:m.data.size=m.size:=rfl
      have h3:n.data.size=n.size:=rfl
      simp at h1;omega
     simp[hg,binOp,Op.stringOp,hle])
   case eql=>exact fin _ (.bool _) (by simp[hg,binOp,Op.stringOp,bytes_eq])
   case neq=>exact fin _ (.bool _) (by simp[hg,binOp,Op.stringOp,bytes_eq])
  | _=>simp[binD] at hq
 | bool m =>
  have hT:=hb hbo.symm
  cases hy with
  | bool n =>
   have hg:(eqGuard op T x y (.bool m) (.bool n)).run P w = .ok () w:=by
    unfold eqGuard
    cases op<;>simp
   cases op<;>simp only[binD,Option.some.injEq,Prod.mk.injEq,true_and,reduceCtorEq] at hq<;>subst hq
   case eql=>exact fin _ (.bool _) (by simp only[Sem.run_bind,hg,Result.andThen,run_bin_eql hT])
   case neq=>exact fin _ (.bool _) (by simp only[Sem.run_bind,hg,Result.andThen,run_bin_neq hT])
  | _=>simp[binD] at hq
 | _=>simp[binD] at hq
theorem run_len {T:TypeId} {x:Operand} {c:Call} (ho:o.op = .call c) (hc:c.callee = .builtin .len) (ha:c.args.toList=[x]) (hT:c.argTypes.toList=[T]) {v:Value} {n:Nat} (hv:a.eval x=v)
  (hr:(Builtin.len_ #[T] o.type #[v]).run P w = .ok (.int .i64 n) w):(execOp a.eval o).run P w = .ok (.value (.int .i64 n)) w:=by
 have ha':c.args = #[x]:=by rw[←Array.toList_inj];exact ha
 have hT':c.argTypes = #[T]:=by rw[←Array.toList_inj];exact hT
 subst hv
 simp[execOp,ho,resolve,hc,ha',hT',invoke,builtin,hr]
theorem run_mm {x y:Operand} {c:Call} {mx:Bool} (ho:o.op = .call c) (hc:c.callee = .builtin (if mx then .max else .min)) (ha:c.args.toList=[x,y]) {k:IntKind} {p q:Int} (hx:a.eval x = .int k p) (hy:a.eval y = .int k q) :
  (execOp a.eval o).run P w = .ok (.value (.int k (if mx then (if q > p then q else p) else (if q<p then q else p)))) w:=by
 have ha':c.args = #[x,y]:=by rw[←Array.toList_inj];exact ha
 cases mx<;>simp[execOp,ho,resolve,hc,ha',invoke,builtin,Builtin.max_,Builtin.min_,Builtin.max2,Builtin.min2,hx,hy]
theorem sim_mm {x y:Operand} {c:Call} {mx:Bool} (h:Rel w0 base nt loc s a w) (ho:o.op = .call c) (hc:c.callee = .builtin (if mx then .max else .min)) (ha:c.args.toList=[x,y]) {U W:Option TypeId}
  (he:ev (.mm mx (opd P U x) (opd P W y)) id s=some (true,d,t)):Good P w0 base nt o a w t d:=by
 have hx:=h.opd (P:=P) U x
 have hy:=h.opd (P:=P) W y
 simp only[ev] at he
 split at he
 ·rename_i k p k' q hk hk2
  split at he
  case isFalse=>cases he
  rename_i hkk
  subst hkk
  simp only[Option.some.injEq,Prod.mk.injEq,true_and] at he
  obtain⟨rfl,rfl⟩:=he
  rw[hk] at hx
  rw[hk2] at hy
  have hx:=hx.inv
  have hy:=hy.inv
  generalize hxv:a.eval x=v at hx
  generalize hyv:a.eval y=u at hy
  cases hx
  cases hy
  exact good_same h (run_mm ho hc ha hxv hyv) (.p _ _ (.int _ _))
 ·cases he
theorem sim_lenS {T:TypeId} {x:Operand} {c:Call} (h:Rel w0 base nt loc s a w) (ho:o.op = .call c) (hc:c.callee = .builtin .len) (ha:c.args.toList=[x]) (hT:c.argTypes.toList=[T])
  (hu:P.underlying T=some .string) {U:Option TypeId}
  (he:ev (.lenS (opd P U x)) id s=some (true,d,t)):Good P w0 base nt o a w t d:=by
 have hx:=h.opd (P:=P) U x
 simp only[ev] at he
 split at he
 ·rename_i l hk
  simp only[Option.some.injEq,Prod.mk.injEq,true_and] at he
  obtain⟨rfl,rfl⟩:=he
  rw[hk] at hx
  have hx:=hx.inv
  generalize hxv:a.eval x=v at hx
  cases hx with
  | str q =>
  refine good_same h (run_len ho hc ha hT hxv ?_) (.p _ _ (.int _ _))
  have:q.data.size=q.size:=rfl
  simp[Builtin.len_,run_underlying hu,goInt,this]
 ·cases he
theorem sim_len {T e:TypeId} {x:Operand} {c:Call} (h:Rel w0 base nt loc s a w) (ho:o.op = .call c) (hc:c.callee = .builtin .len) (ha:c.args.toList=[x]) (hT:c.argTypes.toList=[T])
  (hu:P.underlying T=some (.slice e)) {U:Option TypeId}
  (he:ev (.len (opd P U x)) id s=some (true,d,t)):Good P w0 base nt o a w t d:=by
 have hx:=h.opd (P:=P) U x
 have fin:∀ p (n:Nat) cap,a.eval x = .slice p n cap→Good P w0 base nt o a w s (.p (.int .i64 n)):=fun p n cap hv =>
  good_same h (run_len ho hc ha hT hv (by simp[Builtin.len_,run_underlying hu,goInt])) (.p _ _ (.int _ _))
 simp only[ev] at he
 split at he
 ·rename_i T' sz l hk
  simp only[Option.some.injEq,Prod.mk.injEq,true_and] at he
  obtain⟨rfl,rfl⟩:=he
  rw[hk] at hx
  have hx:=hx.inv
  generalize hxv:a.eval x=v at hx
  cases hx with
  | empty p cap=>exact fin p 0 cap hxv
  | list b p cap=>exact fin _ _ _ hxv
 ·rename_i i off n hk
  simp only[Option.some.injEq,Prod.mk.injEq,true_and] at he
  obtain⟨rfl,rfl⟩:=he
  rw[hk] at hx
  generalize hxv:a.eval x=v at hx
  cases hx with
  | slice=>exact fin _ _ _ hxv
  | sliceEmp=>exact fin _ 0 _ hxv
 ·rename_i T' sz hk
  simp only[Option.some.injEq,Prod.mk.injEq,true_and] at he
  obtain⟨rfl,rfl⟩:=he
  rw[hk] at hx
  generalize hxv:a.eval x=v at hx
  cases hx
  exact fin _ 0 _ hxv
 ·rename_i i off n hk
  simp only[Option.some.injEq,Prod.mk.injEq,true_and] at he
  obtain⟨rfl,rfl⟩:=he
  rw[hk] at hx
  generalize hxv:a.eval x=v at hx
  cases hx with
  | arr=>exact fin _ _ _ hxv
  | arrEmp=>exact fin _ 0 _ hxv
 ·cases he
theorem run_bounds {lo hi mx:Option Operand} {len cap l n:Nat} (b:Bool) (h:Rel w0 base nt loc s a w) (hlc:len≤cap) (hm:mx.isSome=true→hi.isSome=true) {c:Bool} (hc:c=true)
  (hb:bounds s.r len (lo.map (opd P none)) (hi.map (opd P none)) (mx.map (opd P none))=some (c,l,n)) :
  ∃ m,(Instr.sliceBounds b len cap (lo.map a.eval) (hi.map a.eval) (mx.map a.eval)).run P w = .ok (l,n,m) w∧l≤n∧n≤len∧n≤m∧m≤cap:=by
 subst hc
 unfold bounds at hb
 split at hb
 case h_2=>cases hb
 rename_i L N hL hN
 have eLo:∀ y,lo=some y→∃ k,a.eval y = .int k L:=by rintro y rfl;exact asI_eval h hL
 have eHi:∀ y,hi=some y→∃ k,a.eval y = .int k N:=by rintro y rfl;exact asI_eval h hN
 have nLo:lo=none→L=0:=by rintro rfl;simpa using hL.symm
 have nHi:hi=none→N=len:=by rintro rfl;simpa using hN.symm
 have sb:∀ k (i:Int) (y:Nat) code,0≤i→i≤y→(Instr.sliceBound (.int k i) y code).run P w = .ok i.toNat w:=by
  intro k i y code h0 h1
  simp[Instr.sliceBound,asIntOf,h0,h1]
 cases mx with
 | none =>
  simp only[Option.map_none,Option.some.injEq,Prod.mk.injEq,decide_eq_true_eq] at hb
  obtain⟨⟨h0,h1,h2⟩,rfl,rfl⟩:=hb
  refine⟨cap,?_,by omega,by omega,by omega,by omega⟩
  unfold Instr.sliceBounds
  cases hi with
  | none =>
   have hNl:=nHi rfl
   subst hNl
   cases lo with
   | none=>have hL0:=nLo rfl;subst hL0;simp
   | some y =>
    obtain⟨k,hk⟩:=eLo y rfl
    have hs:=sb k L len (if (none:Option Value).isSome=true then BoundsCode.slice3C else BoundsCode.sliceB) h0 h1
    simp only[Option.isSome_none,Bool.false_eq_true,if_false] at hs
    simp[hk,hs]
  | some z =>
   obtain⟨k',hk'⟩:=eHi z rfl
   have hs':=sb k' N cap (if b=true then BoundsCode.sliceAcap else BoundsCode.sliceAlen) (by omega) (by omega)
   cases lo with
   | none=>have hL0:=nLo rfl;subst hL0;simp[hk',hs']
   | some y =>
    obtain⟨k,hk⟩:=eLo y rfl
    have hs:=sb k L N.toNat BoundsCode.sliceB h0 (by omega)
    simp[hk,hk',hs,hs']
 | some q =>
  simp only[Option.map_some] at hb
  split at hb
  case h_2=>cases hb
  rename_i M hM
  simp only[Option.some.injEq,Prod.mk.injEq,decide_eq_true_eq] at hb
  obtain⟨⟨h0,h1,h2,h3⟩,rfl,rfl⟩:=hb
  obtain⟨k'',hk''⟩:=asI_eval h hM
  refine⟨M.toNat,?_,by omega,by omega,by omega,by omega⟩
  unfold Instr.sliceBounds
  have hs'':=sb k'' M cap (if b=true then BoundsCode.slice3Acap else BoundsCode.slice3Alen) (by omega) (by omega)
  cases hi with
  | none=>simp at hm
  | some z =>
   obtain⟨k',hk'⟩:=eHi z rfl
   have hs':=sb k' N M.toNat BoundsCode.slice3B (by omega) (by omega)
   cases lo with
   | none=>have hL0:=nLo rfl;subst hL0;simp[hk',hs',hk'',hs'']
   | some y =>
    obtain⟨k,hk⟩:=eLo y rfl
    have hs:=sb k L N.toNat BoundsCode.slice3C h0 (by omega)
    simp[hk,hk',hs,hs',hk'',hs'']
end
end Go.Proofs.Ytlnhembcfhfpkaa.M
