/- MultiLaws returns true, for every three lists of terms, every three ints and every list of texts. No condition. -/
import Derived.Test.YtbnhgnhgbhjkcaaGreatL53
import Derived.Test.YtbnhgnhgbhjkcaaGreatL50
import Derived.ProofKit
import Derived.OpenShut
import Derived.Carry
set_option linter.unusedVariables false
namespace Go.Proofs.YtbnhgnhgbhjkcaaGreat.M
open Go.RowKit
theorem RN (d0:D) (y0:TyW Tryz.prog 22 d0.cells) (z0:d0.isAgg=bn Tryz.prog 22)
  (d5:D) (y5:TyW Tryz.prog 22 d5.cells) (z5:d5.isAgg=bn Tryz.prog 22)
  (d6:D) (y6:TyW Tryz.prog 22 d6.cells) (z6:d6.isAgg=bn Tryz.prog 22)
  (d1:D) (y1:TyW Tryz.prog 3 d1.cells) (z1:d1.isAgg=bn Tryz.prog 3) (d2:D) (y2:TyW Tryz.prog 3 d2.cells) (z2:d2.isAgg=bn Tryz.prog 3) (d3:D) (y3:TyW Tryz.prog 3 d3.cells) (z3:d3.isAgg=bn Tryz.prog 3)
  (d4:D) (y4:TyW Tryz.prog 39 d4.cells) (z4:d4.isAgg=bn Tryz.prog 39) :
  Con Tryz.prog AN 5 [d0,d5,d6,d1,d2,d3,d4] (.bool true):=by
 obtain⟨a,rfl,hA⟩:=mz y0 z0;obtain⟨b,rfl,hB⟩:=mz y5 z5;obtain⟨c,rfl,hC⟩:=mz y6 z6;obtain⟨n,rfl,-⟩:=mf Tryz.underlying3 y1 z1;obtain⟨v,rfl,-⟩:=mf Tryz.underlying3 y2 z2;obtain⟨ord,rfl,-⟩:=mf Tryz.underlying3 y3 z3;obtain⟨ts,rfl,h1,h2⟩:=zgE Tryz.underlying39 Tryz.underlying9 (by kernel_rfl) y4 z4;have e16:Tryz.prog.bytesOf 9=16:=by kernel_rfl
 have er:reachBytes≤140737488355328:=by decide
 rw[e16] at h1;exact xc _ _ _ _ _ _ _ a b c n v ord ts hA hB hC (by omega) (fun t ht=>by have:=h2 t ht;omega)
end Go.Proofs.YtbnhgnhgbhjkcaaGreat.M
namespace Go.Proofs.YtbnhgnhgbhjkcaaGreat.multiLaws
open Go.ChangeShapes Go.WideShapes Go.ChangeAt Go.RowKit Go.Proofs.YtbnhgnhgbhjkcaaGreat.M
theorem own:ownKnob Tryz.prog.godebug=none:=by kernel_rfl
theorem gJ:laidOutB Tryz.prog=true:=by kernel_rfl
theorem plain:kY Tryz.prog [22,83,9,46,3,39]=true:=by kernel_rfl
set_option maxRecDepth 100000 in
theorem RO (os:Os) (started:os.Started) (H:Type) (enc:TypeId×Value→H) :
  ReturnsInHanded {} Tryz.checked os 5 .any (Rows.multiLawsSpec.pre6 enc Tryz.prog Tryz.f5 Rows.multiLawsRow.domain false) (Rows.multiLawsSpec.post enc Tryz.prog Tryz.f5 false true false false):=by
 refine returnsInHanded_of_change_sized (C:=Tryz.checked) own started (by kernel_rfl) Tryz.func5
  (ChangeSpec.witness6 (enc:=enc) (C:=Tryz.checked) false ⟨#[],#[.slice none 0 0,.slice none 0 0,.slice none 0 0,.int .i64 0,.int .i64 0,.int .i64 0,.slice none 0 0],[]⟩ 8 (by kernel_rfl) (by kernel_rfl) (by kernel_rfl) (by kernel_rfl)) ?_
 intro W base args ds gs before hval0 hW hcnd hsz0 _;have hval:∀(j:Nat) t v,Tryz.f5.params[j]? = some t→args[j]? = some v→Value.okWide Tryz.prog W .any base t v:=hval0;have hW':=hW;obtain⟨p,q,hA0,hV,rfl,hfz,hnd⟩:=hW;have hA:DataW.TrodAll enc Tryz.prog W 0 (fun _=>true) true Tryz.f5.params.toList args.toList ds p:=hA0;rw[Tryz.params5] at hA hval;have hsz:(DataW.weightsEach Tryz.prog (Tryz.f5.params.toList++Rows.multiLawsSpec.plain.varTypes Tryz.prog) (ds++gs)).all (·≤reachBytes)=true:=hsz0;rw[Tryz.params5] at hsz;clear hsz0;obtain⟨v0,vs0,d0,ds0,p0,q0,hargs,rfl,rfl,h0,r0⟩:=trodAll_cons hA;obtain⟨v1,vs1,d1,ds1,p1,q1,rfl,rfl,rfl,h1,r1⟩:=trodAll_cons r0;obtain⟨v2,vs2,d2,ds2,p2,q2,rfl,rfl,rfl,h2,r2⟩:=trodAll_cons r1;obtain⟨v3,vs3,d3,ds3,p3,q3,rfl,rfl,rfl,h3,r3⟩:=trodAll_cons r2;obtain⟨v4,vs4,d4,ds4,p4,q4,rfl,rfl,rfl,h4,r4⟩:=trodAll_cons r3;obtain⟨v5,vs5,d5,ds5,p5,q5,rfl,rfl,rfl,h5,r5⟩:=trodAll_cons r4;obtain⟨v6,vs6,d6,ds6,p6,q6,rfl,rfl,rfl,h6,r6⟩:=trodAll_cons r5;obtain⟨rfl,rfl,rfl⟩:=trodAll_nil r6;obtain rfl:args = #[v0,v1,v2,v3,v4,v5,v6]:=by cases args;simp_all
 obtain⟨rfl,rfl⟩:=trodVars_none hV;obtain⟨δ0,x0,y0,z0⟩:=ia plain (t:=22) (by simp) (hval 0 22 v0 rfl rfl) h0 fun n hn=>by
  have:=List.all_eq_true.1 hsz n (DataW.weights_mem_each (j:=0) (t:=22) rfl rfl n hn);simpa using this
 obtain⟨δ1,x1,y1,z1⟩:=ia plain (t:=22) (by simp) (hval 1 22 v1 rfl rfl) h1 fun n hn=>by
  have:=List.all_eq_true.1 hsz n (DataW.weights_mem_each (j:=1) (t:=22) rfl rfl n hn);simpa using this
 obtain⟨δ2,x2,y2,z2⟩:=ia plain (t:=22) (by simp) (hval 2 22 v2 rfl rfl) h2 fun n hn=>by
  have:=List.all_eq_true.1 hsz n (DataW.weights_mem_each (j:=2) (t:=22) rfl rfl n hn);simpa using this
 obtain⟨δ3,x3,y3,z3⟩:=ia plain (t:=3) (by simp) (hval 3 3 v3 rfl rfl) h3 fun n hn=>by
  have:=List.all_eq_true.1 hsz n (DataW.weights_mem_each (j:=3) (t:=3) rfl rfl n hn);simpa using this
 obtain⟨δ4,x4,y4,z4⟩:=ia plain (t:=3) (by simp) (hval 4 3 v4 rfl rfl) h4 fun n hn=>by
  have:=List.all_eq_true.1 hsz n (DataW.weights_mem_each (j:=4) (t:=3) rfl rfl n hn);simpa using this
 obtain⟨δ5,x5,y5,z5⟩:=ia plain (t:=3) (by simp) (hval 5 3 v5 rfl rfl) h5 fun n hn=>by
  have:=List.all_eq_true.1 hsz n (DataW.weights_mem_each (j:=5) (t:=3) rfl rfl n hn);simpa using this
 obtain⟨δ6,x6,y6,z6⟩:=ia plain (t:=39) (by simp) (hval 6 39 v6 rfl rfl) h6 fun n hn=>by
  have:=List.all_eq_true.1 hsz n (DataW.weights_mem_each (j:=6) (t:=39) rfl rfl n hn);simpa using this
 clear hA0 hval0;simp only[List.append_nil] at hW';have l0:∀x∈p0,x.block<W.heap.size:=fun x hx=>hW'.lt x (by simp[hx])
 have l1:∀x∈p1,x.block<W.heap.size:=fun x hx=>hW'.lt x (by simp[hx])
 have l2:∀x∈p2,x.block<W.heap.size:=fun x hx=>hW'.lt x (by simp[hx])
 have l3:∀x∈p3,x.block<W.heap.size:=fun x hx=>hW'.lt x (by simp[hx])
 have l4:∀x∈p4,x.block<W.heap.size:=fun x hx=>hW'.lt x (by simp[hx])
 have l5:∀x∈p5,x.block<W.heap.size:=fun x hx=>hW'.lt x (by simp[hx])
 have l6:∀x∈p6,x.block<W.heap.size:=fun x hx=>hW'.lt x (by simp[hx])
 refine ((RN δ0 y0 z0 δ1 y1 z1 δ2 y2 z2 δ3 y3 z3 δ4 y4 z4 δ5 y5 z5 δ6 y6 z6) (fun _=>False) W #[v0,v1,v2,v3,v4,v5,v6] (fun _ h=>h.elim) (fun _ h=>h.elim) rfl ?_).mono fun e W' ⟨v,he,hv,hg⟩ => ?_
 ·intro i e he
  match i,he with
  |0,he=>simp at he;subst he;exact x0.mono (fun _ _=>rfl) fun b hb=>⟨hb,fun h=>h⟩
  |1,he=>simp at he;subst he;exact x1.mono (fun _ _=>rfl) fun b hb=>⟨hb,fun h=>h⟩
  |2,he=>simp at he;subst he;exact x2.mono (fun _ _=>rfl) fun b hb=>⟨hb,fun h=>h⟩
  |3,he=>simp at he;subst he;exact x3.mono (fun _ _=>rfl) fun b hb=>⟨hb,fun h=>h⟩
  |4,he=>simp at he;subst he;exact x4.mono (fun _ _=>rfl) fun b hb=>⟨hb,fun h=>h⟩
  |5,he=>simp at he;subst he;exact x5.mono (fun _ _=>rfl) fun b hb=>⟨hb,fun h=>h⟩
  |6,he=>simp at he;subst he;exact x6.mono (fun _ _=>rfl) fun b hb=>⟨hb,fun h=>h⟩
  |i+7,he=>simp at he
 ·subst he;rw[gW hv];exact⟨_,rfl,_,_,_,[],_,[],hW',trodAll_cons_mk (shut_bool Tryz.underlying4 _) trodAll_mk0,trodAll_cons_mk (Below.trod gJ (by kernel_rfl) (of_decide_eq_true (by kernel_rfl)) h0 hg l0) (trodAll_cons_mk (Below.trod gJ (by kernel_rfl) (of_decide_eq_true (by kernel_rfl)) h1 hg l1) (trodAll_cons_mk (Below.trod gJ (by kernel_rfl) (of_decide_eq_true (by kernel_rfl)) h2 hg l2) (trodAll_cons_mk (Below.trod gJ (by kernel_rfl) (of_decide_eq_true (by kernel_rfl)) h3 hg l3) (trodAll_cons_mk (Below.trod gJ (by kernel_rfl) (of_decide_eq_true (by kernel_rfl)) h4 hg l4) (trodAll_cons_mk (Below.trod gJ (by kernel_rfl) (of_decide_eq_true (by kernel_rfl)) h5 hg l5) (trodAll_cons_mk (Below.trod gJ (by kernel_rfl) (of_decide_eq_true (by kernel_rfl)) h6 hg l6) trodAll_mk0)))))),rfl,hg.frame _,fun h=>by cases h⟩
theorem RP:Rows.multiLawsRow.holds Tryz.pinned (OpenSpec.ofChange Rows.multiLawsSpec):=
 OpenClaim.holds_of_wide 5 Tryz.f5 rfl rfl rfl rfl rfl rfl rfl ⟨rfl,rfl,rfl,rfl,rfl⟩ rfl rfl rfl rfl rfl (by kernel_rfl) Tryz.func5 (by kernel_rfl)
  (of_decide_eq_true (by kernel_rfl)) (by unfold Func.isWrapper;first | (rw[if_pos (by decide +kernel)];kernel_rfl) | (rw[if_neg (by decide +kernel)];exact⟨rfl,rfl⟩))
  (fun os started H enc _=>RO os started H enc)
theorem proved:Rows.MultiLawsSaid:=
 RP
#print axioms proved
end Go.Proofs.YtbnhgnhgbhjkcaaGreat.multiLaws
