/- Mul. -/
import Derived.Test.YtbbidekjbgjooaaNumE
namespace Go.Proofs.Ytbbidekjbgjooaa
open Go.RowKit

theorem sg_mul {m n : Bool} {p q : Int} : sg (!(m == n)) (p * q) = sg m p * sg n q := by cases m <;> cases n <;> simp [sg, Int.neg_mul, Int.mul_neg]

theorem pow_add' (i j : Nat) : (4294967296 : Int) ^ (i + j) = 4294967296 ^ i * 4294967296 ^ j := Int.pow_add ..

set_option maxRecDepth 100000 in
set_option maxHeartbeats 2000000 in
theorem mul_any (x y : IV) (a b : Int) (w : World) (hx : IsI w x a) (hy : IsI w y b) (hs : Sm (a * b)) :
    Calls Try.prog 26 #[.agg #[.bool x.n, .slice x.s.a x.s.len x.s.cap], .agg #[.bool y.n, .slice y.s.a y.s.len y.s.cap]] w (RetI w (a * b)) := by
  obtain ⟨la, hla, na, da, hlea, hza, h0a, hsa⟩ := hx.open_
  obtain ⟨lb, hlb, nb, db, hleb, hzb, h0b, hsb⟩ := hy.open_
  obtain ⟨nx, sx⟩ := x
  obtain ⟨ny, sy⟩ := y
  obtain ⟨ao, ca, rfl, hca, hcam, hopa⟩ := hla.open_
  obtain ⟨bo, cb, rfl, hcb, hcbm, hopb⟩ := hlb.open_
  have hv := hd_ ((sg_mul (m := nx) (n := ny) (p := valL la) (q := valL lb)).trans (show _ = a * b by rw [hza, hzb]))
  replace hs := hd_ hs
  have he0 := (((Ext.rf w).al (Obj.cells #[Value.bool nx, Value.slice ao la.length ca] 24)).al (Obj.cells #[Value.bool ny, Value.slice bo lb.length cb] 24)).al (Obj.cells #[Value.bool false, Value.slice none 0 0] 24)
  clear hx hy hza hzb h0a h0b hsa hsb na nb
  go_enter Try.func26, Try.ntmps26
  go_wp2_with (at_make; refine wpL_make _ rfl _ _ 22 rfl 93 .u32 4 Try.underlying22 infoU32 _ _ _ _ (la.length + lb.length) rfl rfl (by omega) (by omega) (by omega) (by omega) ?_; intro w1 hown1 hx1 hlt1; obtain ⟨hc1, hf1⟩ := bcell hx1)
  go_loopw [22] (fun i wr => ∃ (k : Nat) (o : List Int), i = .int .i64 k ∧ k ≤ la.length ∧ Own wr (w.heap.size + 1 + 1 + 1) 93 .u32 o ∧ o.length = la.length + lb.length ∧ Dig o ∧
      valL o = valL (la.take k) * valL lb ∧ (∀ t, k + lb.length ≤ t → at_ o t = 0) ∧ Ext (((w.alloc (Obj.cells #[Value.bool nx, Value.slice ao la.length ca] 24)).alloc (Obj.cells #[Value.bool ny, Value.slice bo lb.length cb] 24)).alloc (Obj.cells #[Value.bool false, Value.slice none 0 0] 24)) wr) (fun i _ => la.length - (intOf i).toNat)
  case atStart => exact ⟨0, _, rfl, Nat.zero_le _, by simpa using hown1, by simp, dig_zeros _, by simp [valL]; exact valL_zero (fun j => by simp [at_, List.getElem?_replicate]; split <;> rfl), fun t _ => by simp [at_, List.getElem?_replicate]; split <;> rfl, hx1⟩
  case round =>
    clear hown1 hx1 hc1 hf1 hlt1
    obtain ⟨k, o, rfl, hk, hown, hol, hdo, hval, hzt, hx⟩ := hrel
    replace hval := hd_ hval
    replace hol := hd_ hol
    replace hzt := hd_ hzt
    obtain ⟨hc1, hf1⟩ := bcell hx
    have hsz := hx.size
    simp only [World.size_alloc] at hsz
    by_cases hlt : k < la.length
    · obtain ⟨ba, oa, rfl, hba, ga⟩ := hopa (by omega)
      have hbl := hba.lt
      have ga := (hx.cell (p := ⟨ba, oa + k, none⟩) (by simp; omega)).trans ((he0.cell (p := ⟨ba, oa + k, none⟩) hbl).trans (ga k hlt))
      have fa := da.at_ k
      go_wp2
      go_loopw [30, 8] (fun j c wi => ∃ (m : Nat) (cc : Int) (o2 : List Int), j = .int .i64 m ∧ c = .int .u64 cc ∧ m ≤ lb.length ∧ (0 ≤ cc ∧ cc ≤ 4294967295) ∧ Own wi (w.heap.size + 1 + 1 + 1) 93 .u32 o2 ∧ o2.length = la.length + lb.length ∧ Dig o2 ∧
          valL o2 + cc * 4294967296 ^ (k + m) = valL (la.take k) * valL lb + at_ la k * valL (lb.take m) * 4294967296 ^ k ∧ (∀ t, k + lb.length ≤ t → at_ o2 t = 0) ∧ Ext (((w.alloc (Obj.cells #[Value.bool nx, Value.slice (some ⟨ba, oa, none⟩) la.length ca] 24)).alloc (Obj.cells #[Value.bool ny, Value.slice bo lb.length cb] 24)).alloc (Obj.cells #[Value.bool false, Value.slice none 0 0] 24)) wi) (fun j _ _ => lb.length - (intOf j).toNat)
      case atStart => exact ⟨0, 0, o, rfl, rfl, Nat.zero_le _, by omega, hown, hol.out, hdo, by rw [hval.out]; simp [valL], hzt.out, hx⟩
      case round =>
        clear hown hdo hval hol hzt hx hc1 hf1 hsz
        obtain ⟨m, cc, o2, rfl, rfl, hm, hcc, hown, hol, hdo, hval, hzt, hx⟩ := hrel
        replace hval := hd_ hval
        replace hol := hd_ hol
        replace hzt := hd_ hzt
        obtain ⟨hc1, hf1⟩ := bcell hx
        by_cases hlt2 : m < lb.length
        · obtain ⟨bb, ob, rfl, hbb, gb⟩ := hopb (by omega)
          have hbl2 := hbb.lt
          have gb := (hx.cell (p := ⟨bb, ob + m, none⟩) (by simp; omega)).trans ((he0.cell (p := ⟨bb, ob + m, none⟩) hbl2).trans (gb m hlt2))
          have fb := db.at_ m
          have fab := mul_bound fa fb
          have go := hown.cell (i := k + m) (by have := hol.out; omega)
          have gf := hown.frozen (k + m)
          have fo := hdo.at_ (k + m)
          go_wp2
          go_roundw
          case rel =>
            refine ⟨m + 1, _, o2.set (k + m) _, by go_num, rfl, by omega, ?_, hown.set (k + m) _, by rw [List.length_set]; exact hol.out, hdo.set _ (by omega), ?_, ?_, ?_⟩
            · omega
            · rw [valL_set_full (by have := hol.out; omega), valL_take_succ, ← Nat.add_assoc]
              exact mul_step hval.out (Int.pow_succ ..).symm (by rw [pow_add']; grind)
            · intro t ht
              rw [at_set_ne (by omega)]
              exact hzt.out t ht
            · exact hx.st (by simp) _
          case measure => first | (simp [intOf]; done) | (simp [intOf]; omega)
        · obtain rfl : m = lb.length := by omega
          have go := hown.cell (i := k + lb.length) (by have := hol.out; omega)
          have gf := hown.frozen (k + lb.length)
          go_wp2
          go_roundw
          case rel =>
            refine ⟨k + 1, o2.set (k + lb.length) _, by go_num, by omega, hown.set (k + lb.length) _, by rw [List.length_set]; exact hol.out, hdo.set _ (by omega), ?_, ?_, ?_⟩
            · have h1 := hval.out
              rw [List.take_of_length_le (Nat.le_refl _)] at h1
              rw [valL_set_full (by have := hol.out; omega), hzt.out _ (Nat.le_refl _), valL_take_succ, Int.sub_zero, h1]
              grind
            · intro t ht
              rw [at_set_ne (by omega)]
              exact hzt.out t (by omega)
            · exact hx.st (by simp) _
          case measure => first | (simp [intOf]; done) | (simp [intOf]; omega)
    · obtain rfl : k = la.length := by omega
      rw [List.take_of_length_le (Nat.le_refl _)] at hval
      go_wp2_with fail
      have hL := Own.isL (k := .u32) hown (by have := hol.out; omega) hdo
      rw [hol.out] at hL
      refine (made_any _ ⟨some ⟨w.heap.size + 1 + 1 + 1, 0, none⟩, la.length + lb.length, la.length + lb.length⟩ o _ hL (by rw [hval.out, hv.out]; exact hs.out)).mono ?_
      rintro e w2 ⟨y, rfl, hy, hx2⟩
      have k0 : w2.cell? ⟨w.heap.size + 1 + 1, 0, none⟩ = some (Value.bool false) := cell_later hx2 (cell_later hx (by simp [go_sem]))
      have k1 : w2.cell? ⟨w.heap.size + 1 + 1, 1, none⟩ = some (Value.slice none 0 0) := cell_later hx2 (cell_later hx (by simp [go_sem]))
      have f0 : ∀ i, w2.frozen? ⟨w.heap.size + 1 + 1, i, none⟩ = false := fun i => (hx2.frozen (p := ⟨w.heap.size + 1 + 1, i, none⟩) (by show w.heap.size + 1 + 1 < _; omega)).trans ((hx.frozen (p := ⟨w.heap.size + 1 + 1, i, none⟩) (by simp)).trans (by simp [go_sem]))
      go_wp2
      refine bodyPost_ret (v := .agg #[.bool y.n, .slice y.s.a y.s.len y.s.cap]) (by simp [results, Try.results26, go_sem, k0, k1]) rfl ⟨y, rfl, ?_, ?_⟩
      · rw [hval.out, hv.out] at hy
        exact hy.kept ((Kept.rf _ _).st2 (T' := 24) (((Ty.new' (by simp)).keep hx).keep hx2) (by decide) _ _)
      · exact ((he0.tr hx).tr hx2).st2 (by omega) _ _

end Go.Proofs.Ytbbidekjbgjooaa
