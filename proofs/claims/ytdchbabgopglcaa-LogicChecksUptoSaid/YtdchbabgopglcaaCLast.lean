/- LogicChecks returns true, for every formula and every int whose bulk is at most 1048576. -/
import Derived.Test.YtdchbabgopglcaaC47
import Derived.Test.YtdchbabgopglcaaC43
import Derived.Deep.CondSized
import Derived.ProofKit
import Derived.OpenShut
import Derived.Carry
set_option linter.unusedVariables false
namespace Go.Proofs.Ytdchbabgopglcaa.M
open Go.RowKit
theorem Bp (d0:D) (y0:TyW Try.prog 25 d0.cells) (z0:d0.isAgg=a7 Try.prog 25)
  (d1:D) (y1:TyW Try.prog 3 d1.cells) (z1:d1.isAgg=a7 Try.prog 3) (hb:bkD d0≤1048576) :
  Con Try.prog [] 3 [d0,d1] (.bool true):=by
 obtain⟨f,rfl,hs,hN⟩:=PV y0 z0 hb;obtain⟨n,rfl,-⟩:=pS Try.underlying3 y1 z1;exact PT _ _ _ f n hs (by omega)
end Go.Proofs.Ytdchbabgopglcaa.M
namespace Go.Proofs.Ytdchbabgopglcaa.logicChecks
open Go.ChangeShapes Go.WideShapes Go.ChangeAt Go.RowKit Go.Proofs.Ytdchbabgopglcaa.M
theorem own:ownKnob Try.prog.godebug=none:=by kernel_rfl
theorem nM:laidOutB Try.prog=true:=by kernel_rfl
theorem plain:ku Try.prog [25,23,22,39,9,30,3]=true:=by kernel_rfl
set_option maxRecDepth 100000 in
theorem Br (os:Os) (started:os.Started) (H:Type) (enc:TypeId×Value→H) (F:Stop.Interp) :
  ReturnsInHanded {} Try.checked os 3 .any ((Rows.OpenSpec.upto Rows.logicChecksSpec).pre6 enc Try.prog Try.f3 Rows.logicChecksUptoRow.domain false) (((Rows.OpenSpec.upto Rows.logicChecksSpec).at F).post enc Try.prog Try.f3 false true false false):=by
 refine returnsInHanded_of_cond_sized (C:=Try.checked) (s:=Rows.OpenSpec.upto Rows.logicChecksSpec) (k:=Rows.uptoSmall) rfl own started (by kernel_rfl) Try.func3
  (OpenSpec.witness (enc:=enc) (C:=Try.checked) (s:=Rows.OpenSpec.upto Rows.logicChecksSpec) (k:=Rows.uptoSmall) rfl false ⟨#[],#[.agg #[.int .i64 0,.slice none 0 0,.int .i64 0,.int .i64 0,.int .i64 0,.slice none 0 0],.int .i64 0],[]⟩ 8 (by kernel_rfl) (by kernel_rfl) (by kernel_rfl) (x:=([.agg [.lit (.int .i64 0),.nil,.lit (.int .i64 0),.lit (.int .i64 0),.lit (.int .i64 0),.nil],.lit (.int .i64 0)],[],[])) (by kernel_rfl) rfl (by kernel_rfl)) ?_
 intro W base args ds gs before hval0 hW _ hk hsz0 _;have hval:∀(j:Nat) t v,Try.f3.params[j]? = some t→args[j]? = some v→Value.okWide Try.prog W .any base t v:=hval0;have hW':=hW;obtain⟨p,q,hA0,hV,rfl,hfz,hnd⟩:=hW;have hA:DataW.TrodAll enc Try.prog W 0 (fun _=>true) true Try.f3.params.toList args.toList ds p:=hA0;rw[Try.params3] at hA hval;have hsz:(DataW.weightsEach Try.prog (Try.f3.params.toList++(Rows.OpenSpec.upto Rows.logicChecksSpec).bare.plain.varTypes Try.prog) (ds++gs)).all (·≤reachBytes)=true:=hsz0;rw[Try.params3] at hsz;clear hsz0;obtain⟨v0,vs0,d0,ds0,p0,q0,hargs,rfl,rfl,h0,r0⟩:=trodAll_cons hA;obtain⟨v1,vs1,d1,ds1,p1,q1,rfl,rfl,rfl,h1,r1⟩:=trodAll_cons r0;obtain⟨rfl,rfl,rfl⟩:=trodAll_nil r1;obtain rfl:args = #[v0,v1]:=by cases args;simp_all
 obtain⟨rfl,rfl⟩:=trodVars_none hV;obtain⟨δ0,x0,y0,z0,bk0⟩:=nH plain (t:=25) (by simp) (hval 0 25 v0 rfl rfl) h0 fun n hn=>by
  have:=List.all_eq_true.1 hsz n (DataW.weights_mem_each (j:=0) (t:=25) rfl rfl n hn);simpa using this
 obtain⟨δ1,x1,y1,z1,bk1⟩:=nH plain (t:=3) (by simp) (hval 1 3 v1 rfl rfl) h1 fun n hn=>by
  have:=List.all_eq_true.1 hsz n (DataW.weights_mem_each (j:=1) (t:=3) rfl rfl n hn);simpa using this
 clear hA0 hval0;simp only[List.append_nil] at hW' hk;have hb0:Rows.uptoBulkAll [d0,d1]≤1048576:=of_decide_eq_true hk;simp only[Rows.uptoBulkAll] at hb0;have hb:bkD δ0≤1048576:=by
  omega
 have l0:∀x∈p0,x.block<W.heap.size:=fun x hx=>hW'.lt x (by simp[hx])
 have l1:∀x∈p1,x.block<W.heap.size:=fun x hx=>hW'.lt x (by simp[hx])
 refine ((Bp δ0 y0 z0 δ1 y1 z1 hb) (fun _=>False) W #[v0,v1] (fun _ h=>h.elim) (fun _ h=>h.elim) rfl ?_).mono fun e W' ⟨v,he,hv,hg⟩ => ?_
 ·intro i e he
  match i,he with
  |0,he=>simp at he;subst he;exact x0.mono (fun _ _=>rfl) fun b hb=>⟨hb,fun h=>h⟩
  |1,he=>simp at he;subst he;exact x1.mono (fun _ _=>rfl) fun b hb=>⟨hb,fun h=>h⟩
  |i+2,he=>simp at he
 ·subst he;rw[fQ hv];exact⟨_,rfl,_,_,_,[],_,[],hW',trodAll_cons_mk (shut_bool Try.underlying4 _) trodAll_mk0,trodAll_cons_mk (Below.trod nM (by kernel_rfl) (of_decide_eq_true (by kernel_rfl)) h0 hg l0) (trodAll_cons_mk (Below.trod nM (by kernel_rfl) (of_decide_eq_true (by kernel_rfl)) h1 hg l1) trodAll_mk0),rfl,hg.frame _,fun h=>by cases h⟩
theorem Bu:Rows.logicChecksUptoRow.holds Try.pinned (Rows.OpenSpec.upto Rows.logicChecksSpec):=
 OpenClaim.holds_of_cond 3 Try.f3 rfl rfl rfl rfl rfl rfl rfl ⟨rfl,rfl,rfl,rfl,rfl⟩ rfl rfl rfl rfl rfl (by kernel_rfl) Try.func3 (by kernel_rfl)
  (of_decide_eq_true (by kernel_rfl)) (by unfold Func.isWrapper;first | (rw[if_pos (by decide +kernel)];kernel_rfl) | (rw[if_neg (by decide +kernel)];exact⟨rfl,rfl⟩))
  (fun os started H enc _ F=>Br os started H enc F)
theorem proved:Rows.LogicChecksUptoSaid:=
 Bu
#print axioms proved
end Go.Proofs.Ytdchbabgopglcaa.logicChecks
