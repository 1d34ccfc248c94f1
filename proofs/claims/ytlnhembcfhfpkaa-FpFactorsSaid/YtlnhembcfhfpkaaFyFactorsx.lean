/- FpFactors returns true, for every list of ints and every int. No condition. -/
import Derived.Test.YtlnhembcfhfpkaaFyZBx
import Derived.Test.YtlnhembcfhfpkaaK3
import Derived.ProofKit
import Derived.OpenShut
import Derived.Carry
namespace Go.Proofs.Ytlnhembcfhfpkaa.M
open Go.RowKit Go.Proofs.Ytlnhembcfhfpkaa.Fx
theorem factorsT_con (T:Nat) (f:List Int) (p:Int):Con Try.prog [] 7 [LT T f,I p] (.bool true):=by
 by_cases hc:(chk f p).1=0
 ·by_cases hl:f=[]
  ·subst hl
   exact fac_nil p hc
  ·have hg:=chk_good hc
   obtain⟨P,hP⟩:∃ P:Pr,P.p=p:=⟨⟨p,hg.pr⟩,rfl⟩
   subst hP
   obtain⟨F,hF⟩:∃ F:Po P,F.l=f:=⟨⟨f,hg.td,hg.rg⟩,rfl⟩
   subst hF
   have h0:F≠0:=fun h=>hl (by rw[h];exact l_0)
   exact fac_main F h0 hg.len
 ·exact fac_bad f p hc
theorem fpfactors_con (d0:D) (y0:TyC Try.prog 22 d0.cells) (z0:d0.isAgg=isStr Try.prog 22) (d1:D) (y1:TyC Try.prog 3 d1.cells) (z1:d1.isAgg=isStr Try.prog 3) :
  Con Try.prog [] 7 [d0,d1] (.bool true):=by
 obtain⟨a,rfl,h1,-⟩:=ty_ints Try.underlying22 Try.underlying3 (by kernel_rfl) y0 z0
 obtain⟨p,rfl,-⟩:=ty_int Try.underlying3 y1 z1
 exact factorsT_con _ a p
end Go.Proofs.Ytlnhembcfhfpkaa.M
namespace Go.Proofs.Ytlnhembcfhfpkaa.fpFactors
open Go.ChangeShapes Go.WideShapes Go.ChangeAt Go.RowKit Go.Proofs.Ytlnhembcfhfpkaa.M
theorem own:ownKnob Try.prog.godebug=none:=by kernel_rfl
theorem laidOut:laidOutB Try.prog=true:=by kernel_rfl
theorem plain:plainT Try.prog [22,3]=true:=by kernel_rfl
set_option maxRecDepth 100000 in
theorem lifted (os:Os) (started:os.Started) (H:Type) (enc:TypeId × Value→H) :
  ReturnsInHanded {} Try.checked os 7 .any (Rows.fpFactorsSpec.pre6 enc Try.prog Try.f7 Rows.fpFactorsRow.domain false) (Rows.fpFactorsSpec.post enc Try.prog Try.f7 false true false false):=by
 refine returnsInHanded_of_change (C:=Try.checked) own started (by kernel_rfl) Try.func7
  (ChangeSpec.witness6 (enc:=enc) (C:=Try.checked) false ⟨#[],#[.slice none 0 0,.int .i64 0],[]⟩ 8 (by kernel_rfl) (by kernel_rfl) (by kernel_rfl) (by kernel_rfl)) ?_
 intro W base args ds gs before hval0 hW hcnd _
 have hval:∀ (j:Nat) t v,Try.f7.params[j]? = some t→args[j]? = some v→Value.okWide Try.prog W .any base t v:=hval0
 have hW':=hW
 obtain⟨p,q,hA0,hV,rfl,hfz,hnd⟩:=hW
 have hA:DataW.TrodAll enc Try.prog W 0 (fun _=>true) true Try.f7.params.toList args.toList ds p:=hA0
 rw[Try.params7] at hA hval
 obtain⟨v0,vs0,d0,ds0,p0,q0,hargs,rfl,rfl,h0,r0⟩:=trodAll_cons hA
 obtain⟨v1,vs1,d1,ds1,p1,q1,rfl,rfl,rfl,h1,r1⟩:=trodAll_cons r0
 obtain⟨rfl,rfl,rfl⟩:=trodAll_nil r1
 obtain rfl:args = #[v0,v1]:=by cases args;simp_all
 obtain⟨rfl,rfl⟩:=trodVars_none hV
 obtain⟨δ0,x0,y0,z0⟩:=read_arg plain (t:=22) (by simp) (hval 0 22 v0 rfl rfl) h0
 obtain⟨δ1,x1,y1,z1⟩:=read_arg plain (t:=3) (by simp) (hval 1 3 v1 rfl rfl) h1
 clear hA0 hval0
 simp only[List.append_nil] at hW'
 have l0:∀ x∈p0,x.block<W.heap.size:=fun x hx=>hW'.lt x (by simp[hx])
 have l1:∀ x∈p1,x.block<W.heap.size:=fun x hx=>hW'.lt x (by simp[hx])
 refine ((fpfactors_con δ0 y0 z0 δ1 y1 z1) (fun _=>False) W #[v0,v1] (fun _ h=>h.elim) (fun _ h=>h.elim) rfl ?_).mono fun e W' ⟨v,he,hv,hg⟩ => ?_
 ·intro i e he
  match i,he with
  | 0,he=>simp at he;subst he;exact x0.mono (fun _ _=>rfl) fun b hb=>⟨hb,fun h=>h⟩
  | 1,he=>simp at he;subst he;exact x1.mono (fun _ _=>rfl) fun b hb=>⟨hb,fun h=>h⟩
  | i+2,he=>simp at he
 ·subst he
  rw[bool_V hv]
  exact⟨_,rfl,_,_,_,[],_,[],hW',trodAll_cons_mk (shut_bool Try.underlying4 _) trodAll_mk0,trodAll_cons_mk (Below.trod laidOut (by kernel_rfl) (of_decide_eq_true (by kernel_rfl)) h0 hg l0) (trodAll_cons_mk (Below.trod laidOut (by kernel_rfl) (of_decide_eq_true (by kernel_rfl)) h1 hg l1) trodAll_mk0),rfl,hg.frame _,fun h=>by cases h⟩
theorem over:Rows.fpFactorsRow.holds Try.pinned (OpenSpec.ofChange Rows.fpFactorsSpec):=
 OpenClaim.holds_of_wide 7 Try.f7 rfl rfl rfl rfl rfl rfl rfl ⟨rfl,rfl,rfl,rfl,rfl⟩ rfl rfl rfl rfl rfl (by kernel_rfl) Try.func7 (by kernel_rfl)
  (of_decide_eq_true (by kernel_rfl)) (by unfold Func.isWrapper;first | (rw[if_pos (by decide +kernel)];kernel_rfl) | (rw[if_neg (by decide +kernel)];exact⟨rfl,rfl⟩))
  (fun os started H enc _=>lifted os started H enc)
theorem proved:Rows.FpFactorsSaid:=
 over
#print axioms proved
end Go.Proofs.Ytlnhembcfhfpkaa.fpFactors
