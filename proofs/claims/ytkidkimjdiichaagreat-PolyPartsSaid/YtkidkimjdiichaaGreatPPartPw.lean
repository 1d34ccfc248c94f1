/- PolyParts returns true, for every list of texts. No condition. -/
import Derived.Test.YtkidkimjdiichaaGreatRdw
import Derived.Test.YtkidkimjdiichaaGreatPaIw
import Derived.ProofKit
import Derived.OpenShut
import Derived.Carry
namespace Go.Proofs.YtkidkimjdiichaaGreat.M
open Go.RowKit
theorem part_con (d0:D) (y0:TyC Tryz.prog 22 d0.cells) (z0:d0.isAgg=isStr Tryz.prog 22) :
  Con Tryz.prog AN 5 [d0] (.bool true):=by
 obtain⟨a,rfl,h1,h2⟩:=ty_strs Tryz.underlying22 Tryz.underlying9 (by kernel_rfl) y0 z0
 exact parts_main _ a (Nat.le_trans h1 (by decide)) (fun t ht=>Nat.le_trans (h2 t ht) (by decide))
end Go.Proofs.YtkidkimjdiichaaGreat.M
namespace Go.Proofs.YtkidkimjdiichaaGreat.polyParts
open Go.ChangeShapes Go.WideShapes Go.ChangeAt Go.RowKit Go.Proofs.YtkidkimjdiichaaGreat.M
theorem own:ownKnob Tryz.prog.godebug=none:=by kernel_rfl
theorem laidOut:laidOutB Tryz.prog=true:=by kernel_rfl
theorem plain:plainT Tryz.prog [22,9]=true:=by kernel_rfl
set_option maxRecDepth 100000 in
theorem lifted (os:Os) (started:os.Started) (H:Type) (enc:TypeId × Value→H) :
  ReturnsInHanded {} Tryz.checked os 5 .any (Rows.polyPartsSpec.pre6 enc Tryz.prog Tryz.f5 Rows.polyPartsRow.domain false) (Rows.polyPartsSpec.post enc Tryz.prog Tryz.f5 false true false false):=by
 refine returnsInHanded_of_change (C:=Tryz.checked) own started (by kernel_rfl) Tryz.func5
  (ChangeSpec.witness6 (enc:=enc) (C:=Tryz.checked) false ⟨#[],#[.slice none 0 0],[]⟩ 8 (by kernel_rfl) (by kernel_rfl) (by kernel_rfl) (by kernel_rfl)) ?_
 intro W base args ds gs before hval0 hW hcnd _
 have hval:∀ (j:Nat) t v,Tryz.f5.params[j]? = some t→args[j]? = some v→Value.okWide Tryz.prog W .any base t v:=hval0
 have hW':=hW
 obtain⟨p,q,hA0,hV,rfl,hfz,hnd⟩:=hW
 have hA:DataW.TrodAll enc Tryz.prog W 0 (fun _=>true) true Tryz.f5.params.toList args.toList ds p:=hA0
 rw[Tryz.params5] at hA hval
 obtain⟨v0,vs0,d0,ds0,p0,q0,hargs,rfl,rfl,h0,r0⟩:=trodAll_cons hA
 obtain⟨rfl,rfl,rfl⟩:=trodAll_nil r0
 obtain rfl:args = #[v0]:=by cases args;simp_all
 obtain⟨rfl,rfl⟩:=trodVars_none hV
 obtain⟨δ0,x0,y0,z0⟩:=read_arg plain (t:=22) (by simp) (hval 0 22 v0 rfl rfl) h0
 clear hA0 hval0
 simp only[List.append_nil] at hW'
 have l0:∀ x∈p0,x.block<W.heap.size:=fun x hx=>hW'.lt x (by simp[hx])
 refine ((part_con δ0 y0 z0) (fun _=>False) W #[v0] (fun _ h=>h.elim) (fun _ h=>h.elim) rfl ?_).mono fun e W' ⟨v,he,hv,hg⟩ => ?_
 ·intro i e he
  match i,he with
  | 0,he=>simp at he;subst he;exact x0.mono (fun _ _=>rfl) fun b hb=>⟨hb,fun h=>h⟩
  | i+1,he=>simp at he
 ·subst he
  rw[bool_V hv]
  exact⟨_,rfl,_,_,_,[],_,[],hW',trodAll_cons_mk (shut_bool Tryz.underlying4 _) trodAll_mk0,trodAll_cons_mk (Below.trod laidOut (by kernel_rfl) (of_decide_eq_true (by kernel_rfl)) h0 hg l0) trodAll_mk0,rfl,hg.frame _,fun h=>by cases h⟩
theorem over:Rows.polyPartsRow.holds Tryz.pinned (OpenSpec.ofChange Rows.polyPartsSpec):=
 OpenClaim.holds_of_wide 5 Tryz.f5 rfl rfl rfl rfl rfl rfl rfl ⟨rfl,rfl,rfl,rfl,rfl⟩ rfl rfl rfl rfl rfl (by kernel_rfl) Tryz.func5 (by kernel_rfl)
  (of_decide_eq_true (by kernel_rfl)) (by unfold Func.isWrapper;first | (rw[if_pos (by decide +kernel)];kernel_rfl) | (rw[if_neg (by decide +kernel)];exact⟨rfl,rfl⟩))
  (fun os started H enc _=>lifted os started H enc)
theorem proved:Rows.PolyPartsSaid:=
 over
#print axioms proved
end Go.Proofs.YtkidkimjdiichaaGreat.polyParts
