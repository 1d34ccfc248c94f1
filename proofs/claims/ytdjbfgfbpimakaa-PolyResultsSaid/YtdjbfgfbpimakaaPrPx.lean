/- PolyResults returns true, for all lists of texts. No condition. -/
import Derived.Test.YtdjbfgfbpimakaaK4
import Derived.Test.YtdjbfgfbpimakaaPrAx
import Derived.ProofKit
import Derived.OpenShut
import Derived.Carry
namespace Go.Proofs.Ytdjbfgfbpimakaa.M
open Go.RowKit
theorem results_con (d0:D) (y0:TyC Try.prog 22 d0.cells) (z0:d0.isAgg=isStr Try.prog 22) (d1:D) (y1:TyC Try.prog 22 d1.cells) (z1:d1.isAgg=isStr Try.prog 22) :
  Con Try.prog AN 3 [d0,d1] (.bool true):=by
 obtain⟨a,rfl,h1,h2⟩:=ty_strs Try.underlying22 Try.underlying9 (by kernel_rfl) y0 z0
 obtain⟨b,rfl,h3,h4⟩:=ty_strs Try.underlying22 Try.underlying9 (by kernel_rfl) y1 z1
 exact results_main _ _ a b (Nat.le_trans h1 (by decide)) (Nat.le_trans h3 (by decide)) (fun t ht=>Nat.le_trans (h2 t ht) (by decide)) (fun t ht=>Nat.le_trans (h4 t ht) (by decide))
end Go.Proofs.Ytdjbfgfbpimakaa.M
namespace Go.Proofs.Ytdjbfgfbpimakaa.polyResults
open Go.ChangeShapes Go.WideShapes Go.ChangeAt Go.RowKit Go.Proofs.Ytdjbfgfbpimakaa.M
theorem own:ownKnob Try.prog.godebug=none:=by kernel_rfl
theorem laidOut:laidOutB Try.prog=true:=by kernel_rfl
theorem plain:plainT Try.prog [22,9]=true:=by kernel_rfl
set_option maxRecDepth 100000 in
theorem lifted (os:Os) (started:os.Started) (H:Type) (enc:TypeId × Value→H) :
  ReturnsInHanded {} Try.checked os 3 .any (Rows.polyResultsSpec.pre6 enc Try.prog Try.f3 Rows.polyResultsRow.domain false) (Rows.polyResultsSpec.post enc Try.prog Try.f3 false true false false):=by
 refine returnsInHanded_of_change (C:=Try.checked) own started (by kernel_rfl) Try.func3
  (ChangeSpec.witness6 (enc:=enc) (C:=Try.checked) false ⟨#[],#[.slice none 0 0,.slice none 0 0],[]⟩ 8 (by kernel_rfl) (by kernel_rfl) (by kernel_rfl) (by kernel_rfl)) ?_
 intro W base args ds gs before hval0 hW hcnd _
 have hval:∀ (j:Nat) t v,Try.f3.params[j]? = some t→args[j]? = some v→Value.okWide Try.prog W .any base t v:=hval0
 have hW':=hW
 obtain⟨p,q,hA0,hV,rfl,hfz,hnd⟩:=hW
 have hA:DataW.TrodAll enc Try.prog W 0 (fun _=>true) true Try.f3.params.toList args.toList ds p:=hA0
 rw[Try.params3] at hA hval
 obtain⟨v0,vs0,d0,ds0,p0,q0,hargs,rfl,rfl,h0,r0⟩:=trodAll_cons hA
 obtain⟨v1,vs1,d1,ds1,p1,q1,rfl,rfl,rfl,h1,r1⟩:=trodAll_cons r0
 obtain⟨rfl,rfl,rfl⟩:=trodAll_nil r1
 obtain rfl:args = #[v0,v1]:=by cases args;simp_all
 obtain⟨rfl,rfl⟩:=trodVars_none hV
 obtain⟨δ0,x0,y0,z0⟩:=read_arg plain (t:=22) (by simp) (hval 0 22 v0 rfl rfl) h0
 obtain⟨δ1,x1,y1,z1⟩:=read_arg plain (t:=22) (by simp) (hval 1 22 v1 rfl rfl) h1
 clear hA0 hval0
 simp only[List.append_nil] at hW'
 have l0:∀ x∈p0,x.block<W.heap.size:=fun x hx=>hW'.lt x (by simp[hx])
 have l1:∀ x∈p1,x.block<W.heap.size:=fun x hx=>hW'.lt x (by simp[hx])
 refine ((results_con δ0 y0 z0 δ1 y1 z1) (fun _=>False) W #[v0,v1] (fun _ h=>h.elim) (fun _ h=>h.elim) rfl ?_).mono fun e W' ⟨v,he,hv,hg⟩ => ?_
 ·intro i e he
  match i,he with
  | 0,he=>simp at he;subst he;exact x0.mono (fun _ _=>rfl) fun b hb=>⟨hb,fun h=>h⟩
  | 1,he=>simp at he;subst he;exact x1.mono (fun _ _=>rfl) fun b hb=>⟨hb,fun h=>h⟩
  | i+2,he=>simp at he
 ·subst he
  rw[bool_V hv]
  exact⟨_,rfl,_,_,_,[],_,[],hW',trodAll_cons_mk (shut_bool Try.underlying4 _) trodAll_mk0,trodAll_cons_mk (Below.trod laidOut (by kernel_rfl) (of_decide_eq_true (by kernel_rfl)) h0 hg l0) (trodAll_cons_mk (Below.trod laidOut (by kernel_rfl) (of_decide_eq_true (by kernel_rfl)) h1 hg l1) trodAll_mk0),rfl,hg.frame _,fun h=>by cases h⟩
theorem over:Rows.polyResultsRow.holds Try.pinned (OpenSpec.ofChange Rows.polyResultsSpec):=
 OpenClaim.holds_of_wide 3 Try.f3 rfl rfl rfl rfl rfl rfl rfl ⟨rfl,rfl,rfl,rfl,rfl⟩ rfl rfl rfl rfl rfl (by kernel_rfl) Try.func3 (by kernel_rfl)
  (of_decide_eq_true (by kernel_rfl)) (by unfold Func.isWrapper;first | (rw[if_pos (by decide +kernel)];kernel_rfl) | (rw[if_neg (by decide +kernel)];exact⟨rfl,rfl⟩))
  (fun os started H enc _=>lifted os started H enc)
theorem proved:Rows.PolyResultsSaid:=
 over
#print axioms proved
end Go.Proofs.Ytdjbfgfbpimakaa.polyResults
