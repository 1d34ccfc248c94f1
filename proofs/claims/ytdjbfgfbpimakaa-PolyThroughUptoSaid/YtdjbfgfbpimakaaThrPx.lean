/- PolyThrough returns true, for all lists of texts that are together of bulk at most 1048576. -/
import Derived.Test.YtdjbfgfbpimakaaK12
import Derived.Test.YtdjbfgfbpimakaaThEx
import Derived.ProofKit
import Derived.OpenShut
import Derived.Carry
import Derived.JoinedCond
namespace Go.Proofs.Ytdjbfgfbpimakaa.M
open Go.RowKit
theorem thr_con (d0:D) (y0:TyC Try.prog 22 d0.cells) (z0:d0.isAgg=isStr Try.prog 22) (d1:D) (y1:TyC Try.prog 22 d1.cells) (z1:d1.isAgg=isStr Try.prog 22)
  (hb:∀ T0 T1 (l0x:List (List UInt8)) (l1x:List (List UInt8)),d0 = .list T0 1 (l0x.map D.str)→d1 = .list T1 1 (l1x.map D.str)→l0x.length+tot l0x+l1x.length+tot l1x≤1048576) :
  Con Try.prog AN 4 [d0,d1] (.bool true):=by
 obtain⟨a,rfl,h1,h2⟩:=ty_strs Try.underlying22 Try.underlying9 (by kernel_rfl) y0 z0
 obtain⟨b,rfl,h3,h4⟩:=ty_strs Try.underlying22 Try.underlying9 (by kernel_rfl) y1 z1
 have:=hb _ _ a b rfl rfl
 exact thr_main _ _ a b (by omega)
end Go.Proofs.Ytdjbfgfbpimakaa.M
namespace Go.Proofs.Ytdjbfgfbpimakaa.polyThrough
open Go.ChangeShapes Go.WideShapes Go.ChangeAt Go.RowKit Go.Proofs.Ytdjbfgfbpimakaa.M
theorem own:ownKnob Try.prog.godebug=none:=by kernel_rfl
theorem laidOut:laidOutB Try.prog=true:=by kernel_rfl
theorem plain:plainT Try.prog [22,9]=true:=by kernel_rfl
set_option maxRecDepth 100000 in
theorem lifted (os:Os) (started:os.Started) (H:Type) (enc:TypeId × Value→H) (F:Stop.Interp) :
  ReturnsInHanded {} Try.checked os 4 .any ((Rows.OpenSpec.upto Rows.polyThroughSpec).pre6 enc Try.prog Try.f4 Rows.polyThroughUptoRow.domain false) (((Rows.OpenSpec.upto Rows.polyThroughSpec).at F).post enc Try.prog Try.f4 false true false false):=by
 refine returnsInHanded_of_cond (C:=Try.checked) (s:=Rows.OpenSpec.upto Rows.polyThroughSpec) (k:=Rows.uptoSmall) rfl own started (by kernel_rfl) Try.func4
  (OpenSpec.witness (enc:=enc) (C:=Try.checked) (s:=Rows.OpenSpec.upto Rows.polyThroughSpec) (k:=Rows.uptoSmall) rfl false ⟨#[],#[.slice none 0 0,.slice none 0 0],[]⟩ 8 (by kernel_rfl) (by kernel_rfl) (by kernel_rfl) (x:=([.nil,.nil],[],[])) (by kernel_rfl) rfl (by kernel_rfl)) ?_
 intro W base args ds gs before hval0 hW _ hk _
 have hval:∀ (j:Nat) t v,Try.f4.params[j]? = some t→args[j]? = some v→Value.okWide Try.prog W .any base t v:=hval0
 have hW':=hW
 obtain⟨p,q,hA0,hV,rfl,hfz,hnd⟩:=hW
 have hA:DataW.TrodAll enc Try.prog W 0 (fun _=>true) true Try.f4.params.toList args.toList ds p:=hA0
 rw[Try.params4] at hA hval
 obtain⟨v0,vs0,d0,ds0,p0,q0,hargs,rfl,rfl,h0,r0⟩:=trodAll_cons hA
 obtain⟨v1,vs1,d1,ds1,p1,q1,rfl,rfl,rfl,h1,r1⟩:=trodAll_cons r0
 obtain⟨rfl,rfl,rfl⟩:=trodAll_nil r1
 obtain rfl:args = #[v0,v1]:=by cases args;simp_all
 obtain⟨rfl,rfl⟩:=trodVars_none hV
 obtain⟨δ0,x0,y0,z0⟩:=read_arg plain (t:=22) (by simp) (hval 0 22 v0 rfl rfl) h0
 obtain⟨δ1,x1,y1,z1⟩:=read_arg plain (t:=22) (by simp) (hval 1 22 v1 rfl rfl) h1
 clear hA0 hval0
 simp only[List.append_nil] at hW' hk
 have hb0:Rows.uptoBulkAll [d0,d1]≤1048576:=of_decide_eq_true hk
 simp only[Rows.uptoBulkAll] at hb0
 have hb:∀ T0 T1 (l0x:List (List UInt8)) (l1x:List (List UInt8)),δ0 = .list T0 1 (l0x.map D.str)→δ1 = .list T1 1 (l1x.map D.str)→l0x.length+tot l0x+l1x.length+tot l1x≤1048576:=by
  intro T0 T1 l0x l1x e0 e1
  have b0:=bulkS Try.underlying22 Try.underlying9 (by kernel_rfl) (e0 ▸ x0) h0
  have b1:=bulkS Try.underlying22 Try.underlying9 (by kernel_rfl) (e1 ▸ x1) h1
  omega
 have l0:∀ x∈p0,x.block<W.heap.size:=fun x hx=>hW'.lt x (by simp[hx])
 have l1:∀ x∈p1,x.block<W.heap.size:=fun x hx=>hW'.lt x (by simp[hx])
 refine ((thr_con δ0 y0 z0 δ1 y1 z1 hb) (fun _=>False) W #[v0,v1] (fun _ h=>h.elim) (fun _ h=>h.elim) rfl ?_).mono fun e W' ⟨v,he,hv,hg⟩ => ?_
 ·intro i e he
  match i,he with
  | 0,he=>simp at he;subst he;exact x0.mono (fun _ _=>rfl) fun b hb=>⟨hb,fun h=>h⟩
  | 1,he=>simp at he;subst he;exact x1.mono (fun _ _=>rfl) fun b hb=>⟨hb,fun h=>h⟩
  | i+2,he=>simp at he
 ·subst he
  rw[bool_V hv]
  exact⟨_,rfl,_,_,_,[],_,[],hW',trodAll_cons_mk (shut_bool Try.underlying4 _) trodAll_mk0,trodAll_cons_mk (Below.trod laidOut (by kernel_rfl) (of_decide_eq_true (by kernel_rfl)) h0 hg l0) (trodAll_cons_mk (Below.trod laidOut (by kernel_rfl) (of_decide_eq_true (by kernel_rfl)) h1 hg l1) trodAll_mk0),rfl,hg.frame _,fun h=>by cases h⟩
theorem over:Rows.polyThroughUptoRow.holds Try.pinned (Rows.OpenSpec.upto Rows.polyThroughSpec):=
 OpenClaim.holds_of_cond 4 Try.f4 rfl rfl rfl rfl rfl rfl rfl ⟨rfl,rfl,rfl,rfl,rfl⟩ rfl rfl rfl rfl rfl (by kernel_rfl) Try.func4 (by kernel_rfl)
  (of_decide_eq_true (by kernel_rfl)) (by unfold Func.isWrapper;first | (rw[if_pos (by decide +kernel)];kernel_rfl) | (rw[if_neg (by decide +kernel)];exact⟨rfl,rfl⟩))
  (fun os started H enc _ F=>lifted os started H enc F)
theorem proved:Rows.PolyThroughUptoSaid:=
 over
#print axioms proved
end Go.Proofs.Ytdjbfgfbpimakaa.polyThrough
