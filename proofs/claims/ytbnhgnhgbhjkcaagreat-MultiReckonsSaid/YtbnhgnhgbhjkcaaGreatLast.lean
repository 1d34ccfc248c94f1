/- MultiReckons returns true, for every two lists of terms and every two ints. No condition. -/
import Derived.Test.YtbnhgnhgbhjkcaaGreatK51
import Derived.Test.YtbnhgnhgbhjkcaaGreatK23
import Derived.ProofKit
import Derived.OpenShut
import Derived.Carry
set_option linter.unusedVariables false
namespace Go.Proofs.YtbnhgnhgbhjkcaaGreat.M
open Go.RowKit
theorem sT {d:D} (y:TyW Tryz.prog 22 d.cells) (z:d.isAgg=bn Tryz.prog 22):∃l:List At,d=LTa (83+1000000) (3+1000000) l∧Ar l:=by
 obtain⟨l,rfl,h1,h2,h3⟩:=u6 Tryz.underlying22 y z;have e40:Tryz.prog.bytesOf 83=40:=by kernel_rfl
 have e8:Tryz.prog.bytesOf 3=8:=by kernel_rfl
 have ec:Tryz.prog.cellsOf 83=2:=by kernel_rfl
 have ec1:Tryz.prog.cellsOf 46=1:=by kernel_rfl
 have ec2:Tryz.prog.cellsOf 9=1:=by kernel_rfl
 have er:reachBytes≤140737488355328:=by decide
 rw[e40] at h1;have key:∃m:List At,l=m.map (atD (3+1000000))∧(∀t∈m,t.1.length≤140737488355328)∧∀t∈m,t.2.length≤17592186044416:=by
  clear h1 y z;induction l with
  |nil=>exact⟨[],rfl,by simp,by simp⟩
  |cons d l ih =>
   obtain⟨m,rfl,m1,m2⟩:=ih (fun d hd=>h2 d (by simp[hd])) (fun d hd=>h3 d (by simp[hd]));have g1:=h2 d (by simp);obtain⟨g2,g3,g4⟩:=h3 d (by simp);rw[ec] at g2;have g5:bn Tryz.prog 83=true:=by kernel_rfl
   rw[g5] at g4;obtain⟨q,rfl⟩:∃q,d = .agg q:=by cases d<;>first | exact⟨_,rfl⟩ | (simp[D.isAgg] at g4)
   have hq:(D.agg q).cells=q:=rfl;rw[hq] at g1 g2 g3
   match q,g2 with
   |[a,b],_ =>
    generalize hqq:([a,b]:List D)=qq at g1;cases g1 with
    |struct t fs l' hu hl hf =>
     subst hqq;rw[Tryz.underlying83] at hu;cases hu;have f0:=hf _ (by simp;exact .inl rfl);have f1:=hf _ (by simp;exact .inr rfl);simp only[ec1,ec2] at f0 f1;have oa:∀x:D,x.one=true→x.cells=[x]∧x.isAgg=false:=fun x hx=>by cases x<;>first | exact⟨rfl,rfl⟩ | (simp[D.one] at hx)
     obtain⟨a1,a2⟩:=oa a (g3 a (by simp));obtain⟨b1,b2⟩:=oa b (g3 b (by simp));have t0:TyW Tryz.prog 9 a.cells:=by rw[a1];exact f0
     have t1:TyW Tryz.prog 46 b.cells:=by rw[b1];exact f1
     obtain⟨s,rfl,hs⟩:=zmj Tryz.underlying9 t0 (by rw[a2];kernel_rfl);obtain⟨e,rfl,he⟩:=zmk Tryz.underlying46 Tryz.underlying3 (by kernel_rfl) t1 (by rw[b2];kernel_rfl);rw[e8] at he;refine⟨(s,e)::m,rfl,fun t ht => ?_,fun t ht => ?_⟩
     ·rcases List.mem_cons.1 ht with rfl | ht
      ·exact Nat.le_trans hs er
      ·exact m1 t ht
     ·rcases List.mem_cons.1 ht with rfl | ht
      ·show e.length≤_
       omega
      ·exact m2 t ht
    |bool t b hu=>rw[Tryz.underlying83] at hu;cases hu
    |int t k n hu=>rw[Tryz.underlying83] at hu;cases hu
    |str t s hu=>rw[Tryz.underlying83] at hu;cases hu
    |slice t e l hu=>rw[Tryz.underlying83] at hu;cases hu
 obtain⟨m,rfl,m1,m2⟩:=key;rw[List.length_map] at h1;exact⟨m,by rw[ec],by omega,m1,m2⟩
theorem zdo (d0:D) (y0:TyW Tryz.prog 22 d0.cells) (z0:d0.isAgg=bn Tryz.prog 22) (d1:D) (y1:TyW Tryz.prog 22 d1.cells) (z1:d1.isAgg=bn Tryz.prog 22)
  (d2:D) (y2:TyW Tryz.prog 3 d2.cells) (z2:d2.isAgg=bn Tryz.prog 3) (d3:D) (y3:TyW Tryz.prog 3 d3.cells) (z3:d3.isAgg=bn Tryz.prog 3) :
  Con Tryz.prog AN 3 [d0,d1,d2,d3] (.bool true):=by
 obtain⟨a,rfl,hA⟩:=sT y0 z0;obtain⟨b,rfl,hB⟩:=sT y1 z1;obtain⟨n,rfl,-⟩:=oS Tryz.underlying3 y2 z2;obtain⟨ord,rfl,-⟩:=oS Tryz.underlying3 y3 z3;by_cases h1:(fM a n ord).1=0
 ·by_cases h2:(fM b n ord).1=0
  ·exact zdA _ _ _ _ a b n ord hA hB (dv h1) (dv h2)
  ·exact zdz _ _ _ _ a b n ord hA hB (dv h1) h2
 ·exact zdy _ _ _ _ a b n ord hA hB h1
end Go.Proofs.YtbnhgnhgbhjkcaaGreat.M
namespace Go.Proofs.YtbnhgnhgbhjkcaaGreat.multiReckons
open Go.ChangeShapes Go.WideShapes Go.ChangeAt Go.RowKit Go.Proofs.YtbnhgnhgbhjkcaaGreat.M
theorem own:ownKnob Tryz.prog.godebug=none:=by kernel_rfl
theorem kO:laidOutB Tryz.prog=true:=by kernel_rfl
theorem plain:kt Tryz.prog [22,83,9,46,3]=true:=by kernel_rfl
set_option maxRecDepth 100000 in
theorem zdp (os:Os) (started:os.Started) (H:Type) (enc:TypeId×Value→H) :
  ReturnsInHanded {} Tryz.checked os 3 .any (Rows.multiReckonsSpec.pre6 enc Tryz.prog Tryz.f3 Rows.multiReckonsRow.domain false) (Rows.multiReckonsSpec.post enc Tryz.prog Tryz.f3 false true false false):=by
 refine returnsInHanded_of_change_sized (C:=Tryz.checked) own started (by kernel_rfl) Tryz.func3
  (ChangeSpec.witness6 (enc:=enc) (C:=Tryz.checked) false ⟨#[],#[.slice none 0 0,.slice none 0 0,.int .i64 0,.int .i64 0],[]⟩ 8 (by kernel_rfl) (by kernel_rfl) (by kernel_rfl) (by kernel_rfl)) ?_
 intro W base args ds gs before hval0 hW hcnd hsz0 _;have hval:∀(j:Nat) t v,Tryz.f3.params[j]? = some t→args[j]? = some v→Value.okWide Tryz.prog W .any base t v:=hval0;have hW':=hW;obtain⟨p,q,hA0,hV,rfl,hfz,hnd⟩:=hW;have hA:DataW.TrodAll enc Tryz.prog W 0 (fun _=>true) true Tryz.f3.params.toList args.toList ds p:=hA0;rw[Tryz.params3] at hA hval;have hsz:(DataW.weightsEach Tryz.prog (Tryz.f3.params.toList++Rows.multiReckonsSpec.plain.varTypes Tryz.prog) (ds++gs)).all (·≤reachBytes)=true:=hsz0;rw[Tryz.params3] at hsz;clear hsz0;obtain⟨v0,vs0,d0,ds0,p0,q0,hargs,rfl,rfl,h0,r0⟩:=trodAll_cons hA;obtain⟨v1,vs1,d1,ds1,p1,q1,rfl,rfl,rfl,h1,r1⟩:=trodAll_cons r0;obtain⟨v2,vs2,d2,ds2,p2,q2,rfl,rfl,rfl,h2,r2⟩:=trodAll_cons r1;obtain⟨v3,vs3,d3,ds3,p3,q3,rfl,rfl,rfl,h3,r3⟩:=trodAll_cons r2;obtain⟨rfl,rfl,rfl⟩:=trodAll_nil r3;obtain rfl:args = #[v0,v1,v2,v3]:=by cases args;simp_all
 obtain⟨rfl,rfl⟩:=trodVars_none hV;obtain⟨δ0,x0,y0,z0⟩:=lL plain (t:=22) (by simp) (hval 0 22 v0 rfl rfl) h0 fun n hn=>by
  have:=List.all_eq_true.1 hsz n (DataW.weights_mem_each (j:=0) (t:=22) rfl rfl n hn);simpa using this
 obtain⟨δ1,x1,y1,z1⟩:=lL plain (t:=22) (by simp) (hval 1 22 v1 rfl rfl) h1 fun n hn=>by
  have:=List.all_eq_true.1 hsz n (DataW.weights_mem_each (j:=1) (t:=22) rfl rfl n hn);simpa using this
 obtain⟨δ2,x2,y2,z2⟩:=lL plain (t:=3) (by simp) (hval 2 3 v2 rfl rfl) h2 fun n hn=>by
  have:=List.all_eq_true.1 hsz n (DataW.weights_mem_each (j:=2) (t:=3) rfl rfl n hn);simpa using this
 obtain⟨δ3,x3,y3,z3⟩:=lL plain (t:=3) (by simp) (hval 3 3 v3 rfl rfl) h3 fun n hn=>by
  have:=List.all_eq_true.1 hsz n (DataW.weights_mem_each (j:=3) (t:=3) rfl rfl n hn);simpa using this
 clear hA0 hval0;simp only[List.append_nil] at hW';have l0:∀x∈p0,x.block<W.heap.size:=fun x hx=>hW'.lt x (by simp[hx])
 have l1:∀x∈p1,x.block<W.heap.size:=fun x hx=>hW'.lt x (by simp[hx])
 have l2:∀x∈p2,x.block<W.heap.size:=fun x hx=>hW'.lt x (by simp[hx])
 have l3:∀x∈p3,x.block<W.heap.size:=fun x hx=>hW'.lt x (by simp[hx])
 refine ((zdo δ0 y0 z0 δ1 y1 z1 δ2 y2 z2 δ3 y3 z3) (fun _=>False) W #[v0,v1,v2,v3] (fun _ h=>h.elim) (fun _ h=>h.elim) rfl ?_).mono fun e W' ⟨v,he,hv,hg⟩ => ?_
 ·intro i e he
  match i,he with
  |0,he=>simp at he;subst he;exact x0.mono (fun _ _=>rfl) fun b hb=>⟨hb,fun h=>h⟩
  |1,he=>simp at he;subst he;exact x1.mono (fun _ _=>rfl) fun b hb=>⟨hb,fun h=>h⟩
  |2,he=>simp at he;subst he;exact x2.mono (fun _ _=>rfl) fun b hb=>⟨hb,fun h=>h⟩
  |3,he=>simp at he;subst he;exact x3.mono (fun _ _=>rfl) fun b hb=>⟨hb,fun h=>h⟩
  |i+4,he=>simp at he
 ·subst he;rw[gC hv];exact⟨_,rfl,_,_,_,[],_,[],hW',trodAll_cons_mk (shut_bool Tryz.underlying4 _) trodAll_mk0,trodAll_cons_mk (Below.trod kO (by kernel_rfl) (of_decide_eq_true (by kernel_rfl)) h0 hg l0) (trodAll_cons_mk (Below.trod kO (by kernel_rfl) (of_decide_eq_true (by kernel_rfl)) h1 hg l1) (trodAll_cons_mk (Below.trod kO (by kernel_rfl) (of_decide_eq_true (by kernel_rfl)) h2 hg l2) (trodAll_cons_mk (Below.trod kO (by kernel_rfl) (of_decide_eq_true (by kernel_rfl)) h3 hg l3) trodAll_mk0))),rfl,hg.frame _,fun h=>by cases h⟩
theorem zdq:Rows.multiReckonsRow.holds Tryz.pinned (OpenSpec.ofChange Rows.multiReckonsSpec):=
 OpenClaim.holds_of_wide 3 Tryz.f3 rfl rfl rfl rfl rfl rfl rfl ⟨rfl,rfl,rfl,rfl,rfl⟩ rfl rfl rfl rfl rfl (by kernel_rfl) Tryz.func3 (by kernel_rfl)
  (of_decide_eq_true (by kernel_rfl)) (by unfold Func.isWrapper;first | (rw[if_pos (by decide +kernel)];kernel_rfl) | (rw[if_neg (by decide +kernel)];exact⟨rfl,rfl⟩))
  (fun os started H enc _=>zdp os started H enc)
theorem proved:Rows.MultiReckonsSaid:=
 zdq
#print axioms proved
end Go.Proofs.YtbnhgnhgbhjkcaaGreat.multiReckons
