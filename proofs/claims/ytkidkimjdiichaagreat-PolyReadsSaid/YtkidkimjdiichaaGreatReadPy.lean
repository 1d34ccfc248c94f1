/- PolyReads returns true, for every list of texts, every place and every text. No condition. -/
import Derived.Test.YtkidkimjdiichaaGreatRvFy
import Derived.Test.YtkidkimjdiichaaGreatRvMy
import Derived.ProofKit
import Derived.OpenShut
import Derived.SizedLaws
import Derived.Carry
namespace Go.Proofs.YtkidkimjdiichaaGreat.M
open Go.RowKit
section
variable {H : Type} {enc : TypeId × Value → H} {P : Program} {w : World} {spare : Nat → Bool} {held : Bool} {N : Nat → Prop}
theorem ty_int {t : TypeId} {k : IntKind} {δ : D} (hu : P.underlying t = some (.int k)) (h : TyC P t δ.cells) (hg : δ.isAgg = isStr P t) : ∃ n : Int,δ = .int k n ∧ (Lit.int k n).wf = true:=by
 have hs : isStr P t = false:=by simp [isStr,hu]
 rw [hs] at hg
 have hcc : δ.cells = [δ]:=by cases δ <;> first | rfl | (simp [D.isAgg] at hg)
 rw [hcc] at h
 generalize he : [δ] = m at h
 cases h with
 | int t k n hu' h1 => rw [hu] at hu';cases hu';injection he with he;exact ⟨n,he,h1⟩
 | bool t b hu' => rw [hu] at hu';cases hu'
 | str t s hu' => rw [hu] at hu';cases hu'
 | slice t e l hu' => rw [hu] at hu';cases hu'
 | struct t fs l hu' => rw [hu] at hu';cases hu'
end
theorem reads_con (d0 : D) (y0 : TyC Tryz.prog 22 d0.cells) (z0 : d0.isAgg = isStr Tryz.prog 22) (w0 : ∀ T l,d0 = .list T 1 l → l.length * Tryz.prog.bytesOf 9 ≤ reachBytes)
  (d1 : D) (y1 : TyC Tryz.prog 3 d1.cells) (z1 : d1.isAgg = isStr Tryz.prog 3) (d2 : D) (y2 : TyC Tryz.prog 9 d2.cells) (z2 : d2.isAgg = isStr Tryz.prog 9) (w2 : ∀ l,d2 = .str l → l.length ≤ reachBytes) :
  Con Tryz.prog AN 4 [d0,d1,d2] (.bool true):=by
 obtain ⟨a,rfl,h1,h2⟩:=ty_strs Tryz.underlying22 Tryz.underlying9 (by kernel_rfl) y0 z0
 obtain ⟨i,rfl,-⟩:=ty_int Tryz.underlying3 y1 z1
 obtain ⟨t,rfl,-⟩:=ty_str Tryz.underlying9 y2 z2
 have e16 : Tryz.prog.bytesOf 9 = 16:=by kernel_rfl
 have g0:=w0 _ _ rfl
 have g2:=w2 _ rfl
 rw [e16,List.length_map] at g0
 exact reads_main _ a i t (Nat.le_trans g0 (by decide)) (fun t ht => Nat.le_trans (h2 t ht) (by decide)) (Nat.le_trans g2 (by decide))
end Go.Proofs.YtkidkimjdiichaaGreat.M
namespace Go.Proofs.YtkidkimjdiichaaGreat.polyReads
open Go.ChangeShapes Go.WideShapes Go.ChangeAt Go.RowKit Go.Proofs.YtkidkimjdiichaaGreat.M
theorem own : ownKnob Tryz.prog.godebug = none:=by kernel_rfl
theorem laidOut : laidOutB Tryz.prog = true:=by kernel_rfl
theorem plain : plainT Tryz.prog [22,9,3] = true:=by kernel_rfl
set_option maxRecDepth 100000 in
theorem lifted (os : Os) (started : os.Started) (H : Type) (enc : TypeId × Value → H) :
  ReturnsInHanded {} Tryz.checked os 4 .any (Rows.polyReadsSpec.pre6 enc Tryz.prog Tryz.f4 Rows.polyReadsRow.domain false) (Rows.polyReadsSpec.post enc Tryz.prog Tryz.f4 false true false false):=by
 refine returnsInHanded_of_change_sized (C:=Tryz.checked) own started (by kernel_rfl) Tryz.func4
  (ChangeSpec.witness6 (enc:=enc) (C:=Tryz.checked) false ⟨#[],#[.slice none 0 0,.int .i64 0,.string ByteArray.empty],[]⟩ 8 (by kernel_rfl) (by kernel_rfl) (by kernel_rfl) (by kernel_rfl)) ?_
 intro W base args ds gs before hval0 hW hcnd hsz0 _
 have hval : ∀ (j : Nat) t v,Tryz.f4.params[j]? = some t → args[j]? = some v → Value.okWide Tryz.prog W .any base t v:=hval0
 have hW':=hW
 obtain ⟨p,q,hA0,hV,rfl,hfz,hnd⟩:=hW
 have hA : DataW.TrodAll enc Tryz.prog W 0 (fun _ => true) true Tryz.f4.params.toList args.toList ds p:=hA0
 rw [Tryz.params4] at hA hval
 have hsz : (DataW.weightsEach Tryz.prog (Tryz.f4.params.toList ++ Rows.polyReadsSpec.plain.varTypes Tryz.prog) (ds ++ gs)).all (· ≤ reachBytes) = true:=hsz0
 rw [Tryz.params4] at hsz
 clear hsz0
 obtain ⟨v0,vs0,d0,ds0,p0,q0,hargs,rfl,rfl,h0,r0⟩:=trodAll_cons hA
 obtain ⟨v1,vs1,d1,ds1,p1,q1,rfl,rfl,rfl,h1,r1⟩:=trodAll_cons r0
 obtain ⟨v2,vs2,d2,ds2,p2,q2,rfl,rfl,rfl,h2,r2⟩:=trodAll_cons r1
 obtain ⟨rfl,rfl,rfl⟩:=trodAll_nil r2
 obtain rfl : args = #[v0,v1,v2]:=by cases args;simp_all
 obtain ⟨rfl,rfl⟩:=trodVars_none hV
 obtain ⟨δ0,x0,y0,z0⟩:=read_arg plain (t:=22) (by simp) (hval 0 22 v0 rfl rfl) h0
 obtain ⟨δ1,x1,y1,z1⟩:=read_arg plain (t:=3) (by simp) (hval 1 3 v1 rfl rfl) h1
 obtain ⟨δ2,x2,y2,z2⟩:=read_arg plain (t:=9) (by simp) (hval 2 9 v2 rfl rfl) h2
 have wz0 : ∀ T l,δ0 = .list T 1 l → l.length * Tryz.prog.bytesOf 9 ≤ reachBytes:=fun T l e => weigh Tryz.underlying22 (e ▸ x0) h0 (j:=0) rfl rfl hsz
 have wz2 : ∀ l,δ2 = .str l → l.length ≤ reachBytes:=fun l e => weighS Tryz.underlying9 (e ▸ x2) h2 (j:=2) rfl rfl hsz
 clear hA0 hval0
 simp only [List.append_nil] at hW'
 have l0 : ∀ x ∈ p0,x.block < W.heap.size:=fun x hx => hW'.lt x (by simp [hx])
 have l1 : ∀ x ∈ p1,x.block < W.heap.size:=fun x hx => hW'.lt x (by simp [hx])
 have l2 : ∀ x ∈ p2,x.block < W.heap.size:=fun x hx => hW'.lt x (by simp [hx])
 refine ((reads_con δ0 y0 z0 wz0 δ1 y1 z1 δ2 y2 z2 wz2) (fun _ => False) W #[v0,v1,v2] (fun _ h => h.elim) (fun _ h => h.elim) rfl ?_).mono fun e W' ⟨v,he,hv,hg⟩ => ?_
 ·intro i e he
  match i,he with
  | 0,he => simp at he;subst he;exact x0.mono (fun _ _ => rfl) fun b hb => ⟨hb,fun h => h⟩
  | 1,he => simp at he;subst he;exact x1.mono (fun _ _ => rfl) fun b hb => ⟨hb,fun h => h⟩
  | 2,he => simp at he;subst he;exact x2.mono (fun _ _ => rfl) fun b hb => ⟨hb,fun h => h⟩
  | i + 3,he => simp at he
 ·subst he
  rw [bool_V hv]
  exact ⟨_,rfl,_,_,_,[],_,[],hW',trodAll_cons_mk (shut_bool Tryz.underlying4 _) trodAll_mk0,trodAll_cons_mk (Below.trod laidOut (by kernel_rfl) (of_decide_eq_true (by kernel_rfl)) h0 hg l0) (trodAll_cons_mk (Below.trod laidOut (by kernel_rfl) (of_decide_eq_true (by kernel_rfl)) h1 hg l1) (trodAll_cons_mk (Below.trod laidOut (by kernel_rfl) (of_decide_eq_true (by kernel_rfl)) h2 hg l2) trodAll_mk0)),rfl,hg.frame _,fun h => by cases h⟩
theorem over : Rows.polyReadsRow.holds Tryz.pinned (OpenSpec.ofChange Rows.polyReadsSpec):=
 OpenClaim.holds_of_wide 4 Tryz.f4 rfl rfl rfl rfl rfl rfl rfl ⟨rfl,rfl,rfl,rfl,rfl⟩ rfl rfl rfl rfl rfl (by kernel_rfl) Tryz.func4 (by kernel_rfl)
  (of_decide_eq_true (by kernel_rfl)) (by unfold Func.isWrapper;first | (rw [if_pos (by decide +kernel)];kernel_rfl) | (rw [if_neg (by decide +kernel)];exact ⟨rfl,rfl⟩))
  (fun os started H enc _ => lifted os started H enc)
theorem proved : Rows.PolyReadsSaid:=
 over
#print axioms proved
end Go.Proofs.YtkidkimjdiichaaGreat.polyReads
