/- The reference's ZAbs. -/
import Derived.Test.YtbbidekjbgjooaaVs
import Derived.Test.YtbbidekjbgjooaaZA
namespace Go.Proofs.Ytbbidekjbgjooaa.Z4
open Go.RowKit

theorem isZ_nonneg {w : World} {x : IV} {z : Int} (h : IsZ w x z) (hz : 0 ≤ z) : ∃ l, IsL w x.s .i64 l ∧ Norm l ∧ Dig l ∧ valL l = z ∧ l.length ≤ 1321528400 := by
  obtain ⟨l, hl, hn, hd, hle, he, _, _⟩ := h.open_
  refine ⟨l, hl, hn, hd, ?_, hle⟩
  have := valL_nonneg hd
  unfold sg at he
  split at he <;> omega

theorem isZ_size {w : World} {x : IV} {z : Int} (h : IsZ w x z) : ∃ l, IsL w x.s .i64 l ∧ Norm l ∧ Dig l ∧ valL l = z.natAbs ∧ l.length ≤ 1321528400 := by
  obtain ⟨l, hl, hn, hd, hle, he, _, _⟩ := h.open_
  refine ⟨l, hl, hn, hd, ?_, hle⟩
  have := valL_nonneg hd
  rw [he, natAbs_sg]
  omega

theorem madeAbs_any (x : IV) (z : Int) (w : World) (h : IsZ w x z) : Calls Try.prog 71 #[.bool false, .slice x.s.a x.s.len x.s.cap] w (RetZ w (z.natAbs : Int)) := by
  obtain ⟨l, hl, hn, hd, hv, _⟩ := isZ_size h
  have h1 : sg false (valL l) = (z.natAbs : Int) := hv
  have := made_any false x.s l w hl hd (by rw [h1]; obtain ⟨_, _, _, _, _, _, h6⟩ := h; exact h6.le (by omega))
  rw [h1] at this
  exact this

set_option maxHeartbeats 1000000 in
theorem abs_any (x : IV) (a : Int) (w : World) (hx : IsZ w x a) :
    Calls Try.prog 35 #[.agg #[.bool x.n, .slice x.s.a x.s.len x.s.cap]] w (RetZ w (a.natAbs : Int)) := by
  have hd : Bt a maxBits := by obtain ⟨_, _, _, _, _, _, h6⟩ := hx; exact h6
  have V0 := (((Vs.nil w).add' (n := w.heap.size) (vs := #[Value.bool x.n, Value.slice x.s.a x.s.len x.s.cap]) (T := 31) (by simp)).add' (n := w.heap.size + 1) (vs := #[Value.bool false, Value.slice none 0 0]) (T := 31) (by simp))
  replace hx := hx.keep V0.ext
  go_enter Try.func35, Try.ntmps35
  go_upto_region 1 with fail
  generalize ((w.alloc (Obj.cells #[Value.bool x.n, Value.slice x.s.a x.s.len x.s.cap] 31)).alloc (Obj.cells #[Value.bool false, Value.slice none 0 0] 31)) = W0 at *
  obtain ⟨c1_0, c1_1, c1_2, c1_3⟩ := V0.facts 1 rfl
  obtain ⟨c2_0, c2_1, c2_2, c2_3⟩ := V0.facts 0 rfl
  go_wp2_with fail
  (with_reducible refine (Z4.madeAbs_any x a _ (hx)).mono ?_)
  rintro e W1 ⟨r, rfl, hr, hxx⟩
  replace hx := hx.keep hxx
  clear c1_0 c1_1 c1_2 c1_3 c2_0 c2_1 c2_2 c2_3
  have V1 := V0.keep hxx
  clear V0 hxx
  obtain ⟨c2_0, c2_1, c2_2, c2_3⟩ := V1.facts 0 rfl
  go_wp2
  clear c2_0 c2_1 c2_2 c2_3
  have KZ := V1.kept2 (U := 3) 0 rfl (by decide) (Value.bool r.n) (Value.slice r.s.a r.s.len r.s.cap)
  replace hx := hx.kept KZ
  replace hr := hr.kept KZ
  clear KZ
  replace V1 := V1.set2 0 rfl (Value.bool r.n) (Value.slice r.s.a r.s.len r.s.cap)
  dsimp only [List.set] at V1
  generalize ((W1.setCell ⟨w.heap.size + 1, 0, none⟩ (Value.bool r.n)).setCell ⟨w.heap.size + 1, 1, none⟩ (Value.slice r.s.a r.s.len r.s.cap)) = W2 at *
  have V2 := V1
  clear V1
  obtain ⟨r2_0, r2_1, r2_2, r2_3⟩ := V2.facts 0 rfl
  go_wp2
  refine bodyPost_ret (v := .agg #[Value.bool r.n, Value.slice r.s.a r.s.len r.s.cap]) (by simp [results, Try.results35, go_sem, r2_0, r2_1]) rfl ?_
  exact ⟨r, rfl, hr, V2.ext⟩

end Go.Proofs.Ytbbidekjbgjooaa.Z4
