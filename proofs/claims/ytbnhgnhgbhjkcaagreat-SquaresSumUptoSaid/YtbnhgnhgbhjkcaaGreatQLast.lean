/- SquaresSum returns true, for every list of squares, every int and every list of texts that are together of bulk at most 1048576. -/
import Derived.Test.YtbnhgnhgbhjkcaaGreatQ53
import Derived.Test.YtbnhgnhgbhjkcaaGreatQ52
import Derived.Deep.CondSized
import Derived.ProofKit
import Derived.OpenShut
import Derived.Carry
set_option linter.unusedVariables false
namespace Go.Proofs.YtbnhgnhgbhjkcaaGreat.M
set_option linter.unusedSimpArgs false
open Go.RowKit
theorem Th (d0:D) (y0:TyW Tryz.prog 68 d0.cells) (z0:d0.isAgg=bl Tryz.prog 68)
  (d1:D) (y1:TyW Tryz.prog 3 d1.cells) (z1:d1.isAgg=bl Tryz.prog 3)
  (d2:D) (y2:TyW Tryz.prog 39 d2.cells) (z2:d2.isAgg=bl Tryz.prog 39)
  (hb:∀T (l:List (List UInt8)),d2 = .list T 1 (l.map D.str)→l.length≤1048576) :
  Con Tryz.prog AN 7 [d0,d1,d2] (.bool true):=by
 obtain⟨l,rfl,hl,hs⟩:=Z3 y0 z0;obtain⟨n,rfl,-⟩:=wH Tryz.underlying3 y1 z1;obtain⟨ts,rfl,h1,h2⟩:=zh4 Tryz.underlying39 Tryz.underlying9 (by kernel_rfl) y2 z2;have er:reachBytes≤140737488355328:=by decide
 exact zbS _ _ _ _ l n ts (hb _ _ rfl) (fun t ht=>by have:=h2 t ht;omega) hl hs
end Go.Proofs.YtbnhgnhgbhjkcaaGreat.M
namespace Go.Proofs.YtbnhgnhgbhjkcaaGreat.squaresSum
open Go.ChangeShapes Go.WideShapes Go.ChangeAt Go.RowKit Go.Proofs.YtbnhgnhgbhjkcaaGreat.M
theorem own:ownKnob Tryz.prog.godebug=none:=by kernel_rfl
theorem nH:laidOutB Tryz.prog=true:=by kernel_rfl
theorem plain:lf Tryz.prog [68,131,22,83,9,46,3,39]=true:=by kernel_rfl
set_option maxRecDepth 100000 in
theorem Ti (os:Os) (started:os.Started) (H:Type) (enc:TypeId×Value→H) (F:Stop.Interp) :
  ReturnsInHanded {} Tryz.checked os 7 .any ((Rows.OpenSpec.upto Rows.squaresSumSpec).pre6 enc Tryz.prog Tryz.f7 Rows.squaresSumUptoRow.domain false) (((Rows.OpenSpec.upto Rows.squaresSumSpec).at F).post enc Tryz.prog Tryz.f7 false true false false):=by
 refine returnsInHanded_of_cond_sized (C:=Tryz.checked) (s:=Rows.OpenSpec.upto Rows.squaresSumSpec) (k:=Rows.uptoSmall) rfl own started (by kernel_rfl) Tryz.func7
  (OpenSpec.witness (enc:=enc) (C:=Tryz.checked) (s:=Rows.OpenSpec.upto Rows.squaresSumSpec) (k:=Rows.uptoSmall) rfl false ⟨#[],#[.slice none 0 0,.int .i64 0,.slice none 0 0],[]⟩ 8 (by kernel_rfl) (by kernel_rfl) (by kernel_rfl) (x:=([.nil,.lit (.int .i64 0),.nil],[],[])) (by kernel_rfl) rfl (by kernel_rfl)) ?_
 intro W base args ds gs before hval0 hW _ hk hsz0 _;have hval:∀(j:Nat) t v,Tryz.f7.params[j]? = some t→args[j]? = some v→Value.okWide Tryz.prog W .any base t v:=hval0;have hW':=hW;obtain⟨p,q,hA0,hV,rfl,hfz,hnd⟩:=hW;have hA:DataW.TrodAll enc Tryz.prog W 0 (fun _=>true) true Tryz.f7.params.toList args.toList ds p:=hA0;rw[Tryz.params7] at hA hval;have hsz:(DataW.weightsEach Tryz.prog (Tryz.f7.params.toList++(Rows.OpenSpec.upto Rows.squaresSumSpec).bare.plain.varTypes Tryz.prog) (ds++gs)).all (·≤reachBytes)=true:=hsz0;rw[Tryz.params7] at hsz;clear hsz0;obtain⟨v0,vs0,d0,ds0,p0,q0,hargs,rfl,rfl,h0,r0⟩:=trodAll_cons hA;obtain⟨v1,vs1,d1,ds1,p1,q1,rfl,rfl,rfl,h1,r1⟩:=trodAll_cons r0;obtain⟨v2,vs2,d2,ds2,p2,q2,rfl,rfl,rfl,h2,r2⟩:=trodAll_cons r1;obtain⟨rfl,rfl,rfl⟩:=trodAll_nil r2;obtain rfl:args = #[v0,v1,v2]:=by cases args;simp_all
 obtain⟨rfl,rfl⟩:=trodVars_none hV;obtain⟨δ0,x0,y0,z0⟩:=pT plain (t:=68) (by simp) (hval 0 68 v0 rfl rfl) h0 fun n hn=>by
  have:=z9C.1 hsz n (DataW.weights_mem_each (j:=0) (t:=68) rfl rfl n hn);simpa using this
 obtain⟨δ1,x1,y1,z1⟩:=pT plain (t:=3) (by simp) (hval 1 3 v1 rfl rfl) h1 fun n hn=>by
  have:=z9C.1 hsz n (DataW.weights_mem_each (j:=1) (t:=3) rfl rfl n hn);simpa using this
 obtain⟨δ2,x2,y2,z2⟩:=pT plain (t:=39) (by simp) (hval 2 39 v2 rfl rfl) h2 fun n hn=>by
  have:=z9C.1 hsz n (DataW.weights_mem_each (j:=2) (t:=39) rfl rfl n hn);simpa using this
 clear hA0 hval0;simp only[List.append_nil] at hW' hk;have hb0:Rows.uptoBulkAll [d0,d1,d2]≤1048576:=of_decide_eq_true hk;simp only[Rows.uptoBulkAll] at hb0;have hb:∀T (l:List (List UInt8)),δ2 = .list T 1 (l.map D.str)→l.length≤1048576:=by
  intro T l e;have b:=Z2 Tryz.underlying39 Tryz.underlying9 (by kernel_rfl) (e ▸ x2) h2;omega
 have l0:∀x∈p0,x.block<W.heap.size:=fun x hx=>hW'.lt x (by simp[hx])
 have l1:∀x∈p1,x.block<W.heap.size:=fun x hx=>hW'.lt x (by simp[hx])
 have l2:∀x∈p2,x.block<W.heap.size:=fun x hx=>hW'.lt x (by simp[hx])
 refine ((Th δ0 y0 z0 δ1 y1 z1 δ2 y2 z2 hb) (fun _=>False) W #[v0,v1,v2] (fun _ h=>h.elim) (fun _ h=>h.elim) rfl ?_).mono fun e W' ⟨v,he,hv,hg⟩ => ?_
 ·intro i e he
  match i,he with
  |0,he=>simp at he;subst he;exact x0.mono (fun _ _=>rfl) fun b hb=>⟨hb,fun h=>h⟩
  |1,he=>simp at he;subst he;exact x1.mono (fun _ _=>rfl) fun b hb=>⟨hb,fun h=>h⟩
  |2,he=>simp at he;subst he;exact x2.mono (fun _ _=>rfl) fun b hb=>⟨hb,fun h=>h⟩
  |i+3,he=>simp at he
 ·subst he;rw[gO hv];exact⟨_,rfl,_,_,_,[],_,[],hW',trodAll_cons_mk (shut_bool Tryz.underlying4 _) trodAll_mk0,trodAll_cons_mk (Below.trod nH (by kernel_rfl) (of_decide_eq_true (by kernel_rfl)) h0 hg l0) (trodAll_cons_mk (Below.trod nH (by kernel_rfl) (of_decide_eq_true (by kernel_rfl)) h1 hg l1) (trodAll_cons_mk (Below.trod nH (by kernel_rfl) (of_decide_eq_true (by kernel_rfl)) h2 hg l2) trodAll_mk0)),rfl,hg.frame _,fun h=>by cases h⟩
theorem Tj:Rows.squaresSumUptoRow.holds Tryz.pinned (Rows.OpenSpec.upto Rows.squaresSumSpec):=
 OpenClaim.holds_of_cond 7 Tryz.f7 rfl rfl rfl rfl rfl rfl rfl ⟨rfl,rfl,rfl,rfl,rfl⟩ rfl rfl rfl rfl rfl (by kernel_rfl) Tryz.func7 (by kernel_rfl)
  (of_decide_eq_true (by kernel_rfl)) (by unfold Func.isWrapper;first | (rw[if_pos (by decide +kernel)];kernel_rfl) | (rw[if_neg (by decide +kernel)];exact⟨rfl,rfl⟩))
  (fun os started H enc _ F=>Ti os started H enc F)
theorem proved:Rows.SquaresSumUptoSaid:=
 Tj
#print axioms proved
end Go.Proofs.YtbnhgnhgbhjkcaaGreat.squaresSum
