/- Add, Sub. The reference's numbers: zmade. Mul. The reference's places: dcmp, dadd, dsub. digits: the walk. Div32, Len32, LeadingZeros32. right, takeAway, giveBack. Parse: the plain law and the walk. takeAway, giveBack: a block that is written in place. The digits of a number: plain laws. -/
import Derived.Test.YtbbidekjbgjooaaNumDx
import Derived.Test.YtbbidekjbgjooaaK1
import Derived.Test.YtbbidekjbgjooaaParsex
section
namespace Go.Proofs.Ytbbidekjbgjooaa
open Go.RowKit

theorem sg_add_same {m n : Bool} {p q : Int} (h : m = n) : sg m (p + q) = sg m p + sg n q := by subst h; cases m <;> simp [sg]; omega
theorem sg_add_ge {m n : Bool} {p q : Int} (h : m ≠ n) : sg m (p - q) = sg m p + sg n q := by cases m <;> cases n <;> simp [sg] at * <;> omega
theorem sg_add_lt {m n : Bool} {p q : Int} (h : m ≠ n) : sg n (q - p) = sg m p + sg n q := by cases m <;> cases n <;> simp [sg] at * <;> omega
theorem len_le_of_val {a b : List Int} (da : Dig a) (db : Dig b) (nb : Norm b) (h : valL b ≤ valL a) : b.length ≤ a.length := by
  rcases Nat.lt_or_ge a.length b.length with h1 | h1
  · have := valL_lt_of_len da db nb h1; omega
  · exact h1

set_option maxRecDepth 100000 in
set_option maxHeartbeats 2000000 in
theorem add_any (x y : IV) (a b : Int) (w : World) (hx : IsI w x a) (hy : IsI w y b) (hs : Sm (a + b)) :
    Calls Try.prog 22 #[.agg #[.bool x.n, .slice x.s.a x.s.len x.s.cap], .agg #[.bool y.n, .slice y.s.a y.s.len y.s.cap]] w (RetI w (a + b)) := by
  have he0 := (((Ext.rf w).al (Obj.cells #[Value.bool x.n, Value.slice x.s.a x.s.len x.s.cap] 24)).al (Obj.cells #[Value.bool y.n, Value.slice y.s.a y.s.len y.s.cap] 24))
  obtain ⟨la, hla, na, da, hlea, hza, h0a, hsa⟩ := hx.open_
  obtain ⟨lb, hlb, nb, db, hleb, hzb, h0b, hsb⟩ := hy.open_
  have HLA := hd_ hla; have HLB := hd_ hlb
  by_cases hn : x.n = y.n
  · have hb : (x.n == y.n) = true := by simp [hn]
    have hv := hd_ ((sg_add_same hn).trans (show _ = a + b by rw [hza, hzb]))
    replace hs := hd_ hs
    clear hn hla na da hza h0a hsa hlb nb db hzb h0b hsb hx hy
    go_enter Try.func22, Try.ntmps22
    go_wp2_with fail
    go_region_held3 (fun w' => (Ext ((w.alloc (Obj.cells #[Value.bool x.n, Value.slice x.s.a x.s.len x.s.cap] 24)).alloc (Obj.cells #[Value.bool y.n, Value.slice y.s.a y.s.len y.s.cap] 24)) w' ∧ (∀ b o, b < ((w.alloc (Obj.cells #[Value.bool x.n, Value.slice x.s.a x.s.len x.s.cap] 24)).alloc (Obj.cells #[Value.bool y.n, Value.slice y.s.a y.s.len y.s.cap] 24)).heap.size → w'.cell? ⟨b, o, none⟩ = ((w.alloc (Obj.cells #[Value.bool x.n, Value.slice x.s.a x.s.len x.s.cap] 24)).alloc (Obj.cells #[Value.bool y.n, Value.slice y.s.a y.s.len y.s.cap] 24)).cell? ⟨b, o, none⟩)) ∧ Bx w' 24 (w.heap.size + 2)) (first | assumption | exact ⟨held_of (Ext.al (Ext.rf _) _).dr, Bx.dr (Bx.new (by simp))⟩ | exact ⟨held_of (sb_ext (by assumption)).dr, Bx.dr (sb_bx (by assumption))⟩ | exact ⟨held_of (Ext.tr (sb_ext (by assumption)) hx), Bx.keep (sb_bx (by assumption)) hx⟩ | exact ⟨held_of ((sb_ext (by assumption)).st2 (by simp) _ _), (sb_bx (by assumption)).st2 _ _⟩) (first | (go_at_call 73; ((with_reducible refine (sum_any x.s y.s la lb _ (HLA.out.keep (he0.tr (sb_ext (by assumption)))) (HLB.out.keep (he0.tr (sb_ext (by assumption)))) (by omega) (by omega)).mono ?_); rintro e w' ⟨s1, l1, rfl, hl1, -, hv1, hx⟩)) | (go_at_call 64; ((with_reducible refine (made_any x.n s1 l1 _ hl1 (by rw [hv1, hv.out]; exact hs.out)).mono ?_); rintro e w' ⟨y1, rfl, hy1, hx⟩; obtain ⟨⟨u0, hu0⟩, ⟨u1, hu1⟩, hz0, hz1, hty⟩ := Bx.keep (T := 24) (n := w.heap.size + 2) (sb_bx (by assumption)) hx)))
    go_wp2
    refine bodyPost_ret (v := .agg #[.bool y1.n, .slice y1.s.a y1.s.len y1.s.cap]) (by simp [results, Try.results22, go_sem, hu0, hu1]) rfl ⟨y1, rfl, ?_, he0.tr (sb_ext (by assumption))⟩
    rw [hv1, hv.out] at hy1
    exact hy1.kept ((Kept.rf _ _).st2 hty (by decide) _ _)
  · have hb : (x.n == y.n) = false := by simp [hn]
    by_cases hge : valL lb ≤ valL la
    · have hv := hd_ ((sg_add_ge hn).trans (show _ = a + b by rw [hza, hzb]))
      replace hs := hd_ hs
      have hcm : 0 ≤ cmpZ (valL la) (valL lb) := by unfold cmpZ; (repeat' split) <;> omega
      have hll := len_le_of_val da db nb hge
      replace hge := hd_ hge
      clear hn hla da hza h0a hsa hlb db hzb h0b hsb hx hy
      go_enter Try.func22, Try.ntmps22
      go_wp2_with (go_at_call 74; ((with_reducible refine (order_any x.s y.s la lb _ (HLA.out.keep (((Ext.rf w).al _ |>.al _).al _)) (HLB.out.keep (((Ext.rf w).al _ |>.al _).al _)) na nb).mono ?_); rintro e w' ⟨rfl, hx⟩; obtain ⟨hc1, hf1⟩ := bcell hx))
      have hsb : (Ext ((w.alloc (Obj.cells #[Value.bool x.n, Value.slice x.s.a x.s.len x.s.cap] 24)).alloc (Obj.cells #[Value.bool y.n, Value.slice y.s.a y.s.len y.s.cap] 24)) w' ∧ (∀ b o, b < ((w.alloc (Obj.cells #[Value.bool x.n, Value.slice x.s.a x.s.len x.s.cap] 24)).alloc (Obj.cells #[Value.bool y.n, Value.slice y.s.a y.s.len y.s.cap] 24)).heap.size → w'.cell? ⟨b, o, none⟩ = ((w.alloc (Obj.cells #[Value.bool x.n, Value.slice x.s.a x.s.len x.s.cap] 24)).alloc (Obj.cells #[Value.bool y.n, Value.slice y.s.a y.s.len y.s.cap] 24)).cell? ⟨b, o, none⟩)) ∧ Bx w' 24 (w.heap.size + 2) := ⟨held_of (Ext.tr ((Ext.rf _).al _) hx), Bx.keep (Bx.new (by simp)) hx⟩
      go_region_held3 (fun w' => (Ext ((w.alloc (Obj.cells #[Value.bool x.n, Value.slice x.s.a x.s.len x.s.cap] 24)).alloc (Obj.cells #[Value.bool y.n, Value.slice y.s.a y.s.len y.s.cap] 24)) w' ∧ (∀ b o, b < ((w.alloc (Obj.cells #[Value.bool x.n, Value.slice x.s.a x.s.len x.s.cap] 24)).alloc (Obj.cells #[Value.bool y.n, Value.slice y.s.a y.s.len y.s.cap] 24)).heap.size → w'.cell? ⟨b, o, none⟩ = ((w.alloc (Obj.cells #[Value.bool x.n, Value.slice x.s.a x.s.len x.s.cap] 24)).alloc (Obj.cells #[Value.bool y.n, Value.slice y.s.a y.s.len y.s.cap] 24)).cell? ⟨b, o, none⟩)) ∧ Bx w' 24 (w.heap.size + 2)) (first | assumption | exact ⟨held_of (Ext.al (Ext.rf _) _).dr, Bx.dr (Bx.new (by simp))⟩ | exact ⟨held_of (sb_ext (by assumption)).dr, Bx.dr (sb_bx (by assumption))⟩ | exact ⟨held_of (Ext.tr (sb_ext (by assumption)) hx), Bx.keep (sb_bx (by assumption)) hx⟩ | exact ⟨held_of ((sb_ext (by assumption)).st2 (by simp) _ _), (sb_bx (by assumption)).st2 _ _⟩) (first | (go_at_call 75; ((with_reducible refine (less_any x.s y.s la lb _ (HLA.out.keep (he0.tr (sb_ext (by assumption)))) (HLB.out.keep (he0.tr (sb_ext (by assumption)))) (by omega) hll hge.out).mono ?_); rintro e w' ⟨s1, l1, rfl, hl1, -, hv1, hx⟩)) | (go_at_call 64; ((with_reducible refine (made_any x.n s1 l1 _ hl1 (by rw [hv1, hv.out]; exact hs.out)).mono ?_); rintro e w' ⟨y1, rfl, hy1, hx⟩; obtain ⟨⟨u0, hu0⟩, ⟨u1, hu1⟩, hz0, hz1, hty⟩ := Bx.keep (T := 24) (n := w.heap.size + 2) (sb_bx (by assumption)) hx)))
      go_wp2
      refine bodyPost_ret (v := .agg #[.bool y1.n, .slice y1.s.a y1.s.len y1.s.cap]) (by simp [results, Try.results22, go_sem, hu0, hu1]) rfl ⟨y1, rfl, ?_, he0.tr (sb_ext (by assumption))⟩
      rw [hv1, hv.out] at hy1
      exact hy1.kept ((Kept.rf _ _).st2 hty (by decide) _ _)
    · have hv := hd_ ((sg_add_lt hn).trans (show _ = a + b by rw [hza, hzb]))
      replace hs := hd_ hs
      have hcm : cmpZ (valL la) (valL lb) < 0 := by unfold cmpZ; (repeat' split) <;> omega
      have hll := len_le_of_val db da na (by omega)
      have hg2 : Hd (valL la ≤ valL lb) := hd_ (by omega)
      clear hge hn hla da hza h0a hsa hlb db hzb h0b hsb hx hy
      go_enter Try.func22, Try.ntmps22
      go_wp2_with (go_at_call 74; ((with_reducible refine (order_any x.s y.s la lb _ (HLA.out.keep (((Ext.rf w).al _ |>.al _).al _)) (HLB.out.keep (((Ext.rf w).al _ |>.al _).al _)) na nb).mono ?_); rintro e w' ⟨rfl, hx⟩; obtain ⟨hc1, hf1⟩ := bcell hx))
      have hsb : (Ext ((w.alloc (Obj.cells #[Value.bool x.n, Value.slice x.s.a x.s.len x.s.cap] 24)).alloc (Obj.cells #[Value.bool y.n, Value.slice y.s.a y.s.len y.s.cap] 24)) w' ∧ (∀ b o, b < ((w.alloc (Obj.cells #[Value.bool x.n, Value.slice x.s.a x.s.len x.s.cap] 24)).alloc (Obj.cells #[Value.bool y.n, Value.slice y.s.a y.s.len y.s.cap] 24)).heap.size → w'.cell? ⟨b, o, none⟩ = ((w.alloc (Obj.cells #[Value.bool x.n, Value.slice x.s.a x.s.len x.s.cap] 24)).alloc (Obj.cells #[Value.bool y.n, Value.slice y.s.a y.s.len y.s.cap] 24)).cell? ⟨b, o, none⟩)) ∧ Bx w' 24 (w.heap.size + 2) := ⟨held_of (Ext.tr ((Ext.rf _).al _) hx), Bx.keep (Bx.new (by simp)) hx⟩
      go_region_held3 (fun w' => (Ext ((w.alloc (Obj.cells #[Value.bool x.n, Value.slice x.s.a x.s.len x.s.cap] 24)).alloc (Obj.cells #[Value.bool y.n, Value.slice y.s.a y.s.len y.s.cap] 24)) w' ∧ (∀ b o, b < ((w.alloc (Obj.cells #[Value.bool x.n, Value.slice x.s.a x.s.len x.s.cap] 24)).alloc (Obj.cells #[Value.bool y.n, Value.slice y.s.a y.s.len y.s.cap] 24)).heap.size → w'.cell? ⟨b, o, none⟩ = ((w.alloc (Obj.cells #[Value.bool x.n, Value.slice x.s.a x.s.len x.s.cap] 24)).alloc (Obj.cells #[Value.bool y.n, Value.slice y.s.a y.s.len y.s.cap] 24)).cell? ⟨b, o, none⟩)) ∧ Bx w' 24 (w.heap.size + 2)) (first | assumption | exact ⟨held_of (Ext.al (Ext.rf _) _).dr, Bx.dr (Bx.new (by simp))⟩ | exact ⟨held_of (sb_ext (by assumption)).dr, Bx.dr (sb_bx (by assumption))⟩ | exact ⟨held_of (Ext.tr (sb_ext (by assumption)) hx), Bx.keep (sb_bx (by assumption)) hx⟩ | exact ⟨held_of ((sb_ext (by assumption)).st2 (by simp) _ _), (sb_bx (by assumption)).st2 _ _⟩) (first | (go_at_call 75; ((with_reducible refine (less_any y.s x.s lb la _ (HLB.out.keep (he0.tr (sb_ext (by assumption)))) (HLA.out.keep (he0.tr (sb_ext (by assumption)))) (by omega) hll hg2.out).mono ?_); rintro e w' ⟨s1, l1, rfl, hl1, -, hv1, hx⟩)) | (go_at_call 64; ((with_reducible refine (made_any y.n s1 l1 _ hl1 (by rw [hv1, hv.out]; exact hs.out)).mono ?_); rintro e w' ⟨y1, rfl, hy1, hx⟩; obtain ⟨⟨u0, hu0⟩, ⟨u1, hu1⟩, hz0, hz1, hty⟩ := Bx.keep (T := 24) (n := w.heap.size + 2) (sb_bx (by assumption)) hx)))
      go_wp2
      refine bodyPost_ret (v := .agg #[.bool y1.n, .slice y1.s.a y1.s.len y1.s.cap]) (by simp [results, Try.results22, go_sem, hu0, hu1]) rfl ⟨y1, rfl, ?_, he0.tr (sb_ext (by assumption))⟩
      rw [hv1, hv.out] at hy1
      exact hy1.kept ((Kept.rf _ _).st2 hty (by decide) _ _)

set_option maxRecDepth 100000 in
set_option maxHeartbeats 1000000 in
theorem sub_any (x y : IV) (a b : Int) (w : World) (hx : IsI w x a) (hy : IsI w y b) (hs : Sm (a - b)) :
    Calls Try.prog 24 #[.agg #[.bool x.n, .slice x.s.a x.s.len x.s.cap], .agg #[.bool y.n, .slice y.s.a y.s.len y.s.cap]] w (RetI w (a - b)) := by
  have he0 := (((Ext.rf w).al (Obj.cells #[Value.bool x.n, Value.slice x.s.a x.s.len x.s.cap] 24)).al (Obj.cells #[Value.bool y.n, Value.slice y.s.a y.s.len y.s.cap] 24))
  have HX := hd_ hx; have HY := hd_ hy
  have hv := hd_ (show a + -b = a - b by omega)
  replace hs := hd_ hs
  clear hx hy
  go_enter Try.func24, Try.ntmps24
  go_wp2_with fail
  go_region_held3 (fun w' => (Ext ((w.alloc (Obj.cells #[Value.bool x.n, Value.slice x.s.a x.s.len x.s.cap] 24)).alloc (Obj.cells #[Value.bool y.n, Value.slice y.s.a y.s.len y.s.cap] 24)) w' ∧ (∀ b o, b < ((w.alloc (Obj.cells #[Value.bool x.n, Value.slice x.s.a x.s.len x.s.cap] 24)).alloc (Obj.cells #[Value.bool y.n, Value.slice y.s.a y.s.len y.s.cap] 24)).heap.size → w'.cell? ⟨b, o, none⟩ = ((w.alloc (Obj.cells #[Value.bool x.n, Value.slice x.s.a x.s.len x.s.cap] 24)).alloc (Obj.cells #[Value.bool y.n, Value.slice y.s.a y.s.len y.s.cap] 24)).cell? ⟨b, o, none⟩)) ∧ Bx w' 24 (w.heap.size + 2)) (first | assumption | exact ⟨held_of (Ext.al (Ext.rf _) _).dr, Bx.dr (Bx.new (by simp))⟩ | exact ⟨held_of (sb_ext (by assumption)).dr, Bx.dr (sb_bx (by assumption))⟩ | exact ⟨held_of (Ext.tr (sb_ext (by assumption)) hx), Bx.keep (sb_bx (by assumption)) hx⟩ | exact ⟨held_of ((sb_ext (by assumption)).st2 (by simp) _ _), (sb_bx (by assumption)).st2 _ _⟩) (first | (go_at_call 20; ((with_reducible refine (neg_any y b _ (HY.out.keep (he0.tr (sb_ext (by assumption))))).mono ?_); rintro e w' ⟨y2, rfl, hy2, hx⟩)) | (go_at_call 22; ((with_reducible refine (add_any x y2 a (-b) _ (HX.out.keep (he0.tr (sb_ext (by assumption)))) hy2 (by rw [hv.out]; exact hs.out)).mono ?_); rintro e w' ⟨y1, rfl, hy1, hx⟩; obtain ⟨⟨u0, hu0⟩, ⟨u1, hu1⟩, hz0, hz1, hty⟩ := Bx.keep (T := 24) (n := w.heap.size + 2) (sb_bx (by assumption)) hx)))
  go_wp2
  refine bodyPost_ret (v := .agg #[.bool y1.n, .slice y1.s.a y1.s.len y1.s.cap]) (by simp [results, Try.results24, go_sem, hu0, hu1]) rfl ⟨y1, rfl, ?_, he0.tr (sb_ext (by assumption))⟩
  rw [hv.out] at hy1
  exact hy1.kept ((Kept.rf _ _).st2 hty (by decide) _ _)

end Go.Proofs.Ytbbidekjbgjooaa
end

section
namespace Go.Proofs.Ytbbidekjbgjooaa.Z4
open Go.RowKit

/-- The value reads as the number z. -/
def IsZ (w : World) (x : IV) (z : Int) : Prop :=
  ∃ l, IsL w x.s .i64 l ∧ Dig l ∧ Norm l ∧ z = sg x.n (valL l) ∧ (l = [] → x.n = false) ∧ Sm z

theorem IsZ.keep {w w' : World} {x : IV} {z : Int} (h : IsZ w x z) (e : Ext w w') : IsZ w' x z := by
  obtain ⟨l, h1, h2⟩ := h
  exact ⟨l, h1.keep e, h2⟩
theorem IsZ.kept {w w' : World} {x : IV} {z : Int} (h : IsZ w x z) (e : Kept 3 w w') : IsZ w' x z := by
  obtain ⟨l, h1, h2⟩ := h
  exact ⟨l, h1.kept e, h2⟩
theorem isZ_zero (w : World) : IsZ w ⟨false, ⟨none, 0, 0⟩⟩ 0 := ⟨[], isL_nil w _, (fun x hx => by cases hx), .inl rfl, by simp [sg, valL], fun _ => rfl, sm_zero⟩

/-- The call answers the number z. -/
def RetZ (w : World) (z : Int) (e : Ending) (w' : World) : Prop :=
  ∃ x : IV, e = .returned (.agg #[.bool x.n, .slice x.s.a x.s.len x.s.cap]) ∧ IsZ w' x z ∧ Ext w w'

/-- The slice is nil, or new behind W, or in the block of one of A. -/
def Av (W : World) (A : List SV) (s : SV) : Prop := ∀ b off sp, s.a = some ⟨b, off, sp⟩ → W.heap.size ≤ b ∨ ∃ t ∈ A, ∃ off' sp', t.a = some ⟨b, off', sp'⟩
theorem Av.same {W : World} {A : List SV} {s t : SV} (ht : t ∈ A) (h : s.a = t.a) : Av W A s := fun _ _ _ e => .inr ⟨t, ht, _, _, h.symm.trans e⟩
theorem Av.nil {W : World} {A : List SV} {s : SV} (h : s.a = none) : Av W A s := fun _ _ _ e => by rw [h] at e; cases e
theorem Av.mono {W W' : World} {A : List SV} {s : SV} (h : Av W' A s) (hs : W.heap.size ≤ W'.heap.size) : Av W A s := fun b off sp e => (h b off sp e).imp (fun h => Nat.le_trans hs h) id
theorem Av.trans {W : World} {A A' : List SV} {s : SV} (h : Av W A' s) (hA : ∀ t ∈ A', Av W A t) : Av W A s := fun b off sp e => by
  rcases h b off sp e with h | ⟨t, ht, off', sp', e'⟩
  · exact .inl h
  · exact hA t ht b off' sp' e'
theorem Av.row {W w : World} {A : List SV} {s : SV} {base : Nat} {k : IntKind} {l : List Int} (h : Rw w base k s l) (hb : W.heap.size ≤ base) : Av W A s := fun b off sp e => by
  rcases h.2 with ⟨hv, hn⟩ | ⟨g, cap, cur, hv, hg, _⟩
  · injection hv with h1 _ _; rw [h1] at e; cases e
  · injection hv with h1 _ _; rw [h1] at e; injection e with e; injection e with e1 _ _; left; omega
theorem Av.own {W : World} {A : List SV} {s : SV} {b : Nat} {off : Nat} {sp} (h : s.a = some ⟨b, off, sp⟩) (hb : W.heap.size ≤ b) : Av W A s := fun b' off' sp' e => by
  rw [h] at e; injection e with e; injection e with e1 _ _; left; omega

/-- The call answers the number z, in a new block or in one of A. -/
def RetZA (w : World) (A : List SV) (z : Int) (e : Ending) (w' : World) : Prop :=
  ∃ x : IV, e = .returned (.agg #[.bool x.n, .slice x.s.a x.s.len x.s.cap]) ∧ IsZ w' x z ∧ Ext w w' ∧ Av w A x.s
theorem RetZA.ret {w : World} {A : List SV} {z : Int} {e : Ending} {w' : World} (h : RetZA w A z e w') : RetZ w z e w' := by
  obtain ⟨x, h1, h2, h3, _⟩ := h
  exact ⟨x, h1, h2, h3⟩

theorem IsZ.open_ {w : World} {x : IV} {z : Int} (h : IsZ w x z) : ∃ l, IsL w x.s .i64 l ∧ Norm l ∧ Dig l ∧ l.length ≤ 1321528400 ∧ z = sg x.n (valL l) ∧ (l = [] → x.n = false) ∧ Sm z := by
  obtain ⟨l, h1, hd, h2, h3, h4, h5⟩ := h
  refine ⟨l, h1, h2, hd, ?_, h3, h4, h5⟩
  have hb : Bt (valL l) maxBits := by
    rw [h3] at h5
    exact h5.bt.le (by rw [natAbs_sg]; exact Nat.le_refl _)
  have := len_of_bt hd h2 hb
  rw [maxBits_eq] at this
  omega

theorem isZ_made {w : World} {neg : Bool} {ao : Option Addr} {cap k : Nat} {l : List Int} (h : IsL w ⟨ao, l.length, cap⟩ .i64 l) (hd : Dig l) (hk : k + 1 ≤ l.length)
    (hz : ∀ j, k + 1 ≤ j → at_ l j = 0) (hne : at_ l k ≠ 0) (hcm : cap ≤ 9223372036854775807) (hs : Sm (sg neg (valL l))) : IsZ w ⟨neg, ⟨ao, k + 1, cap⟩⟩ (sg neg (valL l)) := by
  have hcap : l.length ≤ cap := h.1.2.1
  refine ⟨l.take (k + 1), h.take hk (by omega) (by omega), fun x hx => hd x (List.mem_of_mem_take hx), .inr ?_, by rw [valL_take hz], fun e => ?_, hs⟩
  · have : (l.take (k + 1)).length - 1 = k := by simp; omega
    rw [this]
    simpa [at_] using hne
  · have := congrArg List.length e
    rw [List.length_take, List.length_nil] at this
    omega

set_option maxHeartbeats 400000 in
theorem made_av (neg : Bool) (s : SV) (l : List Int) (w : World) (h : IsL w s .i64 l) (hd : Dig l) (hs : Sm (sg neg (valL l))) :
    Calls Try.prog 71 #[.bool neg, .slice s.a s.len s.cap] w (RetZA w [s] (sg neg (valL l))) := by
  obtain ⟨ao, cap, rfl, hcap, hcm, hop⟩ := h.open_
  replace hs := hd_ hs
  go_enter Try.func71, Try.ntmps71
  go_wp2
  go_loop [5] (fun n => ∃ k : Nat, k ≤ l.length ∧ n = .int .i64 k ∧ (∀ j, k ≤ j → at_ l j = 0)) (fun n => (intOf n).toNat)
  case atStart => exact ⟨l.length, Nat.le_refl _, rfl, fun j hj => at_ge hj⟩
  case round =>
    obtain ⟨k, hk, rfl, hz⟩ := hrel
    match k, hk, hz with
    | 0, hk, hz =>
      have H0 := hd_ (valL_zero (fun j => hz j (by omega)))
      clear hz
      go_wp2
      refine bodyPost_ret (v := .agg #[.bool false, .slice none 0 0]) (by simp [results, Try.results71, go_sem]) rfl ⟨⟨false, ⟨none, 0, 0⟩⟩, rfl, ?_, (Ext.rf _).al _, Av.nil rfl⟩
      rw [H0.out]
      cases neg <;> exact isZ_zero _
    | k + 1, hk, hz =>
      have Hz := hd_ hz; clear hz
      obtain ⟨b, off, rfl, hb, hc⟩ := hop (by omega)
      have hbl := hb.lt
      have hc := hc k (by omega)
      have hf := hd.at_ k
      by_cases h0 : at_ l k = 0
      · have h0' : (at_ l k == 0) = true := by simp [h0]
        have H0 := hd_ h0; clear h0
        go_wp2
        go_round
        case rel => exact ⟨k, by omega, by go_num, fun j hj => if e : j = k then by rw [e]; exact H0.out else Hz.out j (by omega)⟩
        case measure => first | (simp [intOf]; done) | (simp [intOf]; omega)
      · have h0' : (at_ l k == 0) = false := by simp [h0]
        go_wp2
        refine bodyPost_ret (v := .agg #[.bool neg, .slice (some ⟨b, off, none⟩) (k + 1) cap]) (by simp [results, Try.results71, go_sem]) rfl ⟨⟨neg, ⟨some ⟨b, off, none⟩, k + 1, cap⟩⟩, rfl, ?_, ?_, Av.same (.head _) rfl⟩
        · exact (isZ_made h hd hk Hz.out h0 hcm hs.out).keep (((Ext.rf _).al _))
        · exact (Ext.rf _).al _

theorem made_any (neg : Bool) (s : SV) (l : List Int) (w : World) (h : IsL w s .i64 l) (hd : Dig l) (hs : Sm (sg neg (valL l))) :
    Calls Try.prog 71 #[.bool neg, .slice s.a s.len s.cap] w (RetZ w (sg neg (valL l))) := (made_av neg s l w h hd hs).mono fun _ _ h => h.ret

set_option maxHeartbeats 400000 in
theorem sign_any (x : IV) (z : Int) (w : World) (h : IsZ w x z) :
    Calls Try.prog 72 #[.agg #[.bool x.n, .slice x.s.a x.s.len x.s.cap]] w (fun e w' => e = .returned (.int .i64 (sgnZ z)) ∧ Ext w w') := by
  obtain ⟨l, hl, hn, hd, hle, hz, h0, hs⟩ := h.open_
  have hneg := neg_iff hd hn h0
  obtain ⟨n, s⟩ := x
  obtain ⟨ao, cap, rfl, hcap, hcm, hop⟩ := hl.open_
  simp only at hz h0 hneg
  rw [← hz] at hneg
  have hz0 : z = 0 ↔ l = [] := by
    rw [hz, ← valL_eq_zero hd hn]
    unfold sg; split <;> omega
  by_cases hl0 : l = []
  · subst hl0
    have H := hd_ (hz0.2 rfl)
    have hn0 := h0 rfl
    subst hn0
    clear hz0 hz h0 hneg
    go_enter Try.func72, Try.ntmps72
    go_wp2
    go_ret
    exact ⟨by rw [H.out]; rfl, (Ext.rf _).al _⟩
  · have hlen : 0 < l.length := by
      rcases Nat.eq_zero_or_pos l.length with h | h
      · exact absurd (List.eq_nil_of_length_eq_zero h) hl0
      · exact h
    cases n
    · have H : Hd (sgnZ z = 1) := hd_ (by
        have : ¬ z < 0 := by simpa using hneg
        have : ¬ z = 0 := fun e => hl0 (hz0.1 e)
        unfold sgnZ; rw [if_neg (by omega), if_neg (by omega)])
      clear hz0 hz h0 hneg hl0
      go_enter Try.func72, Try.ntmps72
      go_wp2
      go_ret
      exact ⟨by rw [H.out]; rfl, (Ext.rf _).al _⟩
    · have H : Hd (sgnZ z = -1) := hd_ (by
        have : z < 0 := by simpa using hneg
        unfold sgnZ; rw [if_pos (by omega)])
      clear hz0 hz h0 hneg hl0
      go_enter Try.func72, Try.ntmps72
      go_wp2
      go_ret
      exact ⟨by rw [H.out]; rfl, (Ext.rf _).al _⟩

set_option maxHeartbeats 400000 in
theorem Sign_any (x : IV) (z : Int) (w : World) (h : IsZ w x z) :
    Calls Try.prog 19 #[.agg #[.bool x.n, .slice x.s.a x.s.len x.s.cap]] w (fun e w' => e = .returned (.int .i64 (sgnZ z)) ∧ Ext w w') := by
  go_enter Try.func19, Try.ntmps19
  go_wp2_with (go_at_call 72; ((with_reducible refine (sign_any x z _ (h.keep ((Ext.rf w).al _))).mono ?_); rintro e w' ⟨rfl, hx⟩))
  go_ret
  exact ⟨rfl, ((Ext.rf w).al _).tr hx⟩

set_option maxHeartbeats 400000 in
theorem neg_av (x : IV) (z : Int) (w : World) (h : IsZ w x z) :
    Calls Try.prog 21 #[.agg #[.bool x.n, .slice x.s.a x.s.len x.s.cap]] w (RetZA w [x.s] (-z)) := by
  obtain ⟨l, hl, hn, hd, hle, hz, h0, hs⟩ := h.open_
  replace hz := hd_ hz
  replace h0 := hd_ h0
  go_enter Try.func21, Try.ntmps21
  go_wp2_with fail
  refine (made_av _ x.s l _ (hl.keep (((Ext.rf _).al _).al _)) hd (by rw [sg_not, ← hz.out]; exact hs.neg)).mono ?_
  rintro e w1 ⟨y, rfl, hy, hx, hav⟩
  have hz1 := hx.size
  obtain ⟨hc1, hf1⟩ := bcell hx
  go_wp2
  refine bodyPost_ret (v := .agg #[.bool y.n, .slice y.s.a y.s.len y.s.cap]) (by simp [results, Try.results21, go_sem, hc1]) rfl ⟨y, rfl, ?_, ?_, hav.mono (by simp; omega)⟩
  · rw [hz.out, ← sg_not]
    exact hy.kept ((Kept.rf _ _).st2 ((Ty.new' (by simp)).keep hx) (by decide) _ _)
  · exact (((Ext.rf w).al _).al _ |>.tr hx).st2 (by simp) _ _

theorem neg_any (x : IV) (z : Int) (w : World) (h : IsZ w x z) :
    Calls Try.prog 21 #[.agg #[.bool x.n, .slice x.s.a x.s.len x.s.cap]] w (RetZ w (-z)) := (neg_av x z w h).mono fun _ _ h => h.ret

end Go.Proofs.Ytbbidekjbgjooaa.Z4
end

section
namespace Go.Proofs.Ytbbidekjbgjooaa
open Go.RowKit

theorem sg_mul {m n : Bool} {p q : Int} : sg (!(m == n)) (p * q) = sg m p * sg n q := by cases m <;> cases n <;> simp [sg, Int.neg_mul, Int.mul_neg]

theorem pow_add' (i j : Nat) : (4294967296 : Int) ^ (i + j) = 4294967296 ^ i * 4294967296 ^ j := Int.pow_add ..

set_option maxRecDepth 100000 in
set_option maxHeartbeats 2000000 in
theorem mul_any (x y : IV) (a b : Int) (w : World) (hx : IsI w x a) (hy : IsI w y b) (hs : Sm (a * b)) :
    Calls Try.prog 26 #[.agg #[.bool x.n, .slice x.s.a x.s.len x.s.cap], .agg #[.bool y.n, .slice y.s.a y.s.len y.s.cap]] w (RetI w (a * b)) := by
  obtain ⟨la, hla, na, da, hlea, hza, h0a, hsa⟩ := hx.open_
  obtain ⟨lb, hlb, nb, db, hleb, hzb, h0b, hsb⟩ := hy.open_
  obtain ⟨nx, sx⟩ := x
  obtain ⟨ny, sy⟩ := y
  obtain ⟨ao, ca, rfl, hca, hcam, hopa⟩ := hla.open_
  obtain ⟨bo, cb, rfl, hcb, hcbm, hopb⟩ := hlb.open_
  have hv := hd_ ((sg_mul (m := nx) (n := ny) (p := valL la) (q := valL lb)).trans (show _ = a * b by rw [hza, hzb]))
  replace hs := hd_ hs
  have he0 := (((Ext.rf w).al (Obj.cells #[Value.bool nx, Value.slice ao la.length ca] 24)).al (Obj.cells #[Value.bool ny, Value.slice bo lb.length cb] 24)).al (Obj.cells #[Value.bool false, Value.slice none 0 0] 24)
  clear hx hy hza hzb h0a h0b hsa hsb na nb
  go_enter Try.func26, Try.ntmps26
  go_wp2_with (at_make; refine wpL_make _ rfl _ _ 22 rfl 93 .u32 4 Try.underlying22 infoU32 _ _ _ _ (la.length + lb.length) rfl rfl (by omega) (by omega) (by omega) (by omega) ?_; intro w1 hown1 hx1 hlt1; obtain ⟨hc1, hf1⟩ := bcell hx1)
  go_loopw [22] (fun i wr => ∃ (k : Nat) (o : List Int), i = .int .i64 k ∧ k ≤ la.length ∧ Own wr (w.heap.size + 1 + 1 + 1) 93 .u32 o ∧ o.length = la.length + lb.length ∧ Dig o ∧
      valL o = valL (la.take k) * valL lb ∧ (∀ t, k + lb.length ≤ t → at_ o t = 0) ∧ Ext (((w.alloc (Obj.cells #[Value.bool nx, Value.slice ao la.length ca] 24)).alloc (Obj.cells #[Value.bool ny, Value.slice bo lb.length cb] 24)).alloc (Obj.cells #[Value.bool false, Value.slice none 0 0] 24)) wr) (fun i _ => la.length - (intOf i).toNat)
  case atStart => exact ⟨0, _, rfl, Nat.zero_le _, by simpa using hown1, by simp, dig_zeros _, by simp [valL]; exact valL_zero (fun j => by simp [at_, List.getElem?_replicate]; split <;> rfl), fun t _ => by simp [at_, List.getElem?_replicate]; split <;> rfl, hx1⟩
  case round =>
    clear hown1 hx1 hc1 hf1 hlt1
    obtain ⟨k, o, rfl, hk, hown, hol, hdo, hval, hzt, hx⟩ := hrel
    replace hval := hd_ hval
    replace hol := hd_ hol
    replace hzt := hd_ hzt
    obtain ⟨hc1, hf1⟩ := bcell hx
    have hsz := hx.size
    simp only [World.size_alloc] at hsz
    by_cases hlt : k < la.length
    · obtain ⟨ba, oa, rfl, hba, ga⟩ := hopa (by omega)
      have hbl := hba.lt
      have ga := (hx.cell (p := ⟨ba, oa + k, none⟩) (by simp; omega)).trans ((he0.cell (p := ⟨ba, oa + k, none⟩) hbl).trans (ga k hlt))
      have fa := da.at_ k
      go_wp2
      go_loopw [30, 8] (fun j c wi => ∃ (m : Nat) (cc : Int) (o2 : List Int), j = .int .i64 m ∧ c = .int .u64 cc ∧ m ≤ lb.length ∧ (0 ≤ cc ∧ cc ≤ 4294967295) ∧ Own wi (w.heap.size + 1 + 1 + 1) 93 .u32 o2 ∧ o2.length = la.length + lb.length ∧ Dig o2 ∧
          valL o2 + cc * 4294967296 ^ (k + m) = valL (la.take k) * valL lb + at_ la k * valL (lb.take m) * 4294967296 ^ k ∧ (∀ t, k + lb.length ≤ t → at_ o2 t = 0) ∧ Ext (((w.alloc (Obj.cells #[Value.bool nx, Value.slice (some ⟨ba, oa, none⟩) la.length ca] 24)).alloc (Obj.cells #[Value.bool ny, Value.slice bo lb.length cb] 24)).alloc (Obj.cells #[Value.bool false, Value.slice none 0 0] 24)) wi) (fun j _ _ => lb.length - (intOf j).toNat)
      case atStart => exact ⟨0, 0, o, rfl, rfl, Nat.zero_le _, by omega, hown, hol.out, hdo, by rw [hval.out]; simp [valL], hzt.out, hx⟩
      case round =>
        clear hown hdo hval hol hzt hx hc1 hf1 hsz
        obtain ⟨m, cc, o2, rfl, rfl, hm, hcc, hown, hol, hdo, hval, hzt, hx⟩ := hrel
        replace hval := hd_ hval
        replace hol := hd_ hol
        replace hzt := hd_ hzt
        obtain ⟨hc1, hf1⟩ := bcell hx
        by_cases hlt2 : m < lb.length
        · obtain ⟨bb, ob, rfl, hbb, gb⟩ := hopb (by omega)
          have hbl2 := hbb.lt
          have gb := (hx.cell (p := ⟨bb, ob + m, none⟩) (by simp; omega)).trans ((he0.cell (p := ⟨bb, ob + m, none⟩) hbl2).trans (gb m hlt2))
          have fb := db.at_ m
          have fab := mul_bound fa fb
          have go := hown.cell (i := k + m) (by have := hol.out; omega)
          have gf := hown.frozen (k + m)
          have fo := hdo.at_ (k + m)
          go_wp2
          go_roundw
          case rel =>
            refine ⟨m + 1, _, o2.set (k + m) _, by go_num, rfl, by omega, ?_, hown.set (k + m) _, by rw [List.length_set]; exact hol.out, hdo.set _ (by omega), ?_, ?_, ?_⟩
            · omega
            · rw [valL_set_full (by have := hol.out; omega), valL_take_succ, ← Nat.add_assoc]
              exact mul_step hval.out (Int.pow_succ ..).symm (by rw [pow_add']; grind)
            · intro t ht
              rw [at_set_ne (by omega)]
              exact hzt.out t ht
            · exact hx.st (by simp) _
          case measure => first | (simp [intOf]; done) | (simp [intOf]; omega)
        · obtain rfl : m = lb.length := by omega
          have go := hown.cell (i := k + lb.length) (by have := hol.out; omega)
          have gf := hown.frozen (k + lb.length)
          go_wp2
          go_roundw
          case rel =>
            refine ⟨k + 1, o2.set (k + lb.length) _, by go_num, by omega, hown.set (k + lb.length) _, by rw [List.length_set]; exact hol.out, hdo.set _ (by omega), ?_, ?_, ?_⟩
            · have h1 := hval.out
              rw [List.take_of_length_le (Nat.le_refl _)] at h1
              rw [valL_set_full (by have := hol.out; omega), hzt.out _ (Nat.le_refl _), valL_take_succ, Int.sub_zero, h1]
              grind
            · intro t ht
              rw [at_set_ne (by omega)]
              exact hzt.out t (by omega)
            · exact hx.st (by simp) _
          case measure => first | (simp [intOf]; done) | (simp [intOf]; omega)
    · obtain rfl : k = la.length := by omega
      rw [List.take_of_length_le (Nat.le_refl _)] at hval
      go_wp2_with fail
      have hL := Own.isL (k := .u32) hown (by have := hol.out; omega) hdo
      rw [hol.out] at hL
      refine (made_any _ ⟨some ⟨w.heap.size + 1 + 1 + 1, 0, none⟩, la.length + lb.length, la.length + lb.length⟩ o _ hL (by rw [hval.out, hv.out]; exact hs.out)).mono ?_
      rintro e w2 ⟨y, rfl, hy, hx2⟩
      have k0 : w2.cell? ⟨w.heap.size + 1 + 1, 0, none⟩ = some (Value.bool false) := cell_later hx2 (cell_later hx (by simp [go_sem]))
      have k1 : w2.cell? ⟨w.heap.size + 1 + 1, 1, none⟩ = some (Value.slice none 0 0) := cell_later hx2 (cell_later hx (by simp [go_sem]))
      have f0 : ∀ i, w2.frozen? ⟨w.heap.size + 1 + 1, i, none⟩ = false := fun i => (hx2.frozen (p := ⟨w.heap.size + 1 + 1, i, none⟩) (by show w.heap.size + 1 + 1 < _; omega)).trans ((hx.frozen (p := ⟨w.heap.size + 1 + 1, i, none⟩) (by simp)).trans (by simp [go_sem]))
      go_wp2
      refine bodyPost_ret (v := .agg #[.bool y.n, .slice y.s.a y.s.len y.s.cap]) (by simp [results, Try.results26, go_sem, k0, k1]) rfl ⟨y, rfl, ?_, ?_⟩
      · rw [hval.out, hv.out] at hy
        exact hy.kept ((Kept.rf _ _).st2 (T' := 24) (((Ty.new' (by simp)).keep hx).keep hx2) (by decide) _ _)
      · exact ((he0.tr hx).tr hx2).st2 (by omega) _ _

end Go.Proofs.Ytbbidekjbgjooaa
end

section
namespace Go.Proofs.Ytbbidekjbgjooaa.Z4
open Go.RowKit

theorem infoI64 : (Try.prog.info? (ET .i64)).map (fun i => (i.zero, i.size, i.bytes)) = some (some (.int .i64 0), 1, 8) := by kernel_rfl

set_option maxHeartbeats 400000 in
theorem dcmp_any (s t : SV) (a b : List Int) (w : World) (ha : IsL w s .i64 a) (hb : IsL w t .i64 b) (da : Dig a) (db : Dig b) (na : Norm a) (nb : Norm b) :
    Calls Try.prog 77 #[.slice s.a s.len s.cap, .slice t.a t.len t.cap] w (fun e w' => e = .returned (.int .i64 (cmpZ (valL a) (valL b))) ∧ Ext w w') := by
  obtain ⟨ao, ca, rfl, hca, hcam, hopa⟩ := ha.open_
  obtain ⟨bo, cb, rfl, hcb, hcbm, hopb⟩ := hb.open_
  rcases Nat.lt_trichotomy a.length b.length with hl | hl | hl
  · have H := hd_ (cmpZ_lt (valL_lt_of_len da db nb hl))
    go_enter Try.func77, Try.ntmps77
    go_wp2
    go_ret
    exact ⟨by rw [H.out]; rfl, Ext.rf _⟩
  · go_enter Try.func77, Try.ntmps77
    have hb0 : ((a.length : Int) != b.length) = false := by rw [bne_eq_false_iff_eq]; omega
    have Hl := hd_ hl
    clear hl
    go_wp2
    go_loopw [5] (fun i wr => ((i = .int .i64 (-1) ∧ ∀ j, at_ a j = at_ b j) ∨ ∃ k : Nat, i = .int .i64 k ∧ k < a.length ∧ ∀ j, k < j → at_ a j = at_ b j) ∧ Ext w wr) (fun i _ => (intOf i + 1).toNat)
    case atStart =>
      refine ⟨?_, Ext.rf _⟩
      have Hl := Hl.out
      rcases Nat.eq_zero_or_pos a.length with h0 | h0
      · exact .inl ⟨by rw [h0]; rfl, fun j => by rw [at_ge (by omega), at_ge (by omega)]⟩
      · refine .inr ⟨a.length - 1, ?_, by omega, fun j hj => by rw [at_ge (by omega), at_ge (by omega)]⟩
        congr 1; omega
    case round =>
      obtain ⟨hrel, hx⟩ := hrel
      rcases hrel with ⟨rfl, heq⟩ | ⟨k, rfl, hk, heq⟩
      · have H := hd_ (cmpZ_eq (congrArg valL (list_ext_at Hl.out heq)))
        clear heq
        go_wp2
        go_ret
        exact ⟨by rw [H.out]; rfl, hx⟩
      · replace heq := hd_ heq
        have hkb : k < b.length := by have := Hl.out; omega
        obtain ⟨ba, oa, rfl, hba, ga⟩ := hopa (by omega)
        obtain ⟨bb, ob, rfl, hbb, gb⟩ := hopb (by omega)
        have ga := (hx.cell (p := ⟨ba, oa + k, none⟩) hba.lt).trans (ga k hk)
        have gb := (hx.cell (p := ⟨bb, ob + k, none⟩) hbb.lt).trans (gb k hkb)
        rcases Int.lt_trichotomy (at_ a k) (at_ b k) with h | h | h
        · have H := hd_ (cmpZ_lt (valL_lt_of_at da db Hl.out hk heq.out h))
          go_wp2
          go_quiet (fail)
          go_wp2
          go_ret
          exact ⟨by rw [H.out]; rfl, below_drewN hx _⟩
        · have H := hd_ h
          have h1 : ¬ at_ a k < at_ b k := by omega
          have h2 : ¬ at_ b k < at_ a k := by omega
          clear h
          go_wp2
          go_quiet (fail)
          go_wp2
          go_quiet (fail)
          go_wp2
          go_roundw
          case rel =>
            refine ⟨?_, below_drewN hx _⟩
            rcases Nat.eq_zero_or_pos k with h0 | h0
            · exact .inl ⟨by rw [h0]; rfl, fun j => by
                rcases Nat.eq_zero_or_pos j with h1 | h1
                · subst h1; subst h0; exact H.out
                · exact heq.out j (by omega)⟩
            · exact .inr ⟨k - 1, by congr 1; omega, by omega, fun j hj => if e : j = k then by rw [e]; exact H.out else heq.out j (by omega)⟩
          case measure => first | (simp [intOf]; done) | (simp [intOf]; omega)
        · have H := hd_ (cmpZ_gt (valL_lt_of_at db da Hl.out.symm hkb (fun j hj => (heq.out j hj).symm) h))
          have h1 : ¬ at_ a k < at_ b k := by omega
          go_wp2
          go_quiet (fail)
          go_wp2
          go_quiet (fail)
          go_wp2
          go_ret
          exact ⟨by rw [H.out]; rfl, by first | exact below_drewN (below_drewN hx _) _ | exact below_drewN hx _⟩
  · have H := hd_ (cmpZ_gt (valL_lt_of_len db da na hl))
    go_enter Try.func77, Try.ntmps77
    go_wp2
    go_ret
    exact ⟨by rw [H.out]; rfl, Ext.rf _⟩

/-- The call answers a slice of places of this value. -/
def RetD (w : World) (m : Nat) (z : Int) (e : Ending) (w' : World) : Prop :=
  ∃ (s : SV) (l : List Int), e = .returned (.slice s.a s.len s.cap) ∧ IsL w' s .i64 l ∧ Dig l ∧ l.length ≤ m ∧ valL l = z ∧ Ext w w' ∧ Av w [] s

theorem dadd_step {va vb vo c p x y q : Int} (h : vo + c * p = va + vb) (hq : p * 10000 = q) : vo + (c + x + y) % 10000 * p + (c + x + y) / 10000 * q = va + x * p + (vb + y * p) := by
  have h1 : (c + x + y) % 10000 = (c + x + y) - 10000 * ((c + x + y) / 10000) := by omega
  rw [h1, ← hq]
  generalize (c + x + y) / 10000 = d
  grind

set_option maxRecDepth 100000 in
set_option maxHeartbeats 1000000 in
theorem dadd_any (s t : SV) (a b : List Int) (w : World) (ha : IsL w s .i64 a) (hb : IsL w t .i64 b) (da : Dig a) (db : Dig b) (hla : a.length ≤ 1099511627776) (hlb : b.length ≤ 1099511627776) :
    Calls Try.prog 76 #[.slice s.a s.len s.cap, .slice t.a t.len t.cap] w (RetD w (max a.length b.length + 1) (valL a + valL b)) := by
  obtain ⟨ao, ca, rfl, hca, hcam, hopa⟩ := ha.open_
  obtain ⟨bo, cb, rfl, hcb, hcbm, hopb⟩ := hb.open_
  go_enter Try.func76, Try.ntmps76
  go_wp2
  go_loopw [6, 5, 7] (fun c ov i wr => ∃ (k : Nat) (cc : Int) (so : SV) (o : List Int), c = .int .i64 cc ∧ ov = .slice so.a so.len so.cap ∧ i = .int .i64 k ∧ k ≤ max a.length b.length + 1 ∧ Rw wr w.heap.size .i64 so o ∧ o.length = k ∧ Dig o ∧ (0 ≤ cc ∧ cc ≤ 1) ∧
      valL o + cc * 10000 ^ k = valL (a.take k) + valL (b.take k) ∧ (k = max a.length b.length + 1 → cc = 0) ∧ Ext w wr) (fun _ _ i _ => max a.length b.length + 1 - (intOf i).toNat)
  case atStart => exact ⟨0, 0, ⟨none, 0, 0⟩, [], rfl, rfl, rfl, Nat.zero_le _, Rw.nil_ _ _ _, rfl, (fun x hx => by cases hx), by omega, by simp [valL], fun _ => rfl, Ext.rf _⟩
  case round =>
    obtain ⟨k, cc, so, o, rfl, rfl, rfl, hk, hown, hol, hdo, hcc, hval, hcz, hx⟩ := hrel
    have hsl := hown.len
    obtain ⟨oa, on, oc⟩ := so
    simp only at hsl
    subst hsl
    have fa := da.at_ k
    have fb := db.at_ k
    have holb : o.length ≤ max a.length b.length + 1 := by omega
    replace hval := hd_ hval
    replace hol := hd_ hol
    by_cases h1 : k < a.length
    · obtain ⟨ba, oa', rfl, hba, ga⟩ := hopa (by omega)
      have ga := (hx.cell (p := ⟨ba, oa' + k, none⟩) hba.lt).trans (ga k h1)
      by_cases h2 : k < b.length
      · obtain ⟨bb, ob', rfl, hbb, gb⟩ := hopb (by omega)
        have gb := (hx.cell (p := ⟨bb, ob' + k, none⟩) hbb.lt).trans (gb k h2)
        go_wp2_with ((refine wpL_app1 _ rfl _ _ 29 rfl .i64 8 Try.underlying29 infoI64 w ⟨oa, o.length, oc⟩ o _ rfl rfl (by simpa using hown) hx (by omega) (by omega) ?_); intro s5 w5 hrw5 hx5 hk5)
        go_roundw
        case rel =>
          refine ⟨k + 1, _, s5, o ++ [(cc + at_ a k + at_ b k) % 10000], rfl, rfl, by go_num, by omega, hrw5, by simp [hol.out], hdo.snoc (by omega), by omega, ?_, by omega, hx5⟩
          rw [valL_snoc, hol.out, valL_take_succ, valL_take_succ]
          exact dadd_step hval.out (Int.pow_succ ..).symm
        case measure => first | (simp [intOf]; done) | (simp [intOf]; omega)
      · go_wp2_with ((refine wpL_app1 _ rfl _ _ 29 rfl .i64 8 Try.underlying29 infoI64 w ⟨oa, o.length, oc⟩ o _ rfl rfl (by simpa using hown) hx (by omega) (by omega) ?_); intro s5 w5 hrw5 hx5 hk5)
        go_roundw
        case rel =>
          refine ⟨k + 1, _, s5, o ++ [(cc + at_ a k) % 10000], rfl, rfl, by go_num, by omega, hrw5, by simp [hol.out], hdo.snoc (by omega), by omega, ?_, by omega, hx5⟩
          rw [valL_snoc, hol.out, valL_take_succ, valL_take_succ]
          have S := dadd_step (x := at_ a k) (y := 0) hval.out (Int.pow_succ 10000 k).symm
          rw [Int.add_zero] at S
          rw [at_ge (l := b) (by omega)]
          exact S
        case measure => first | (simp [intOf]; done) | (simp [intOf]; omega)
    · by_cases h2 : k < b.length
      · obtain ⟨bb, ob', rfl, hbb, gb⟩ := hopb (by omega)
        have gb := (hx.cell (p := ⟨bb, ob' + k, none⟩) hbb.lt).trans (gb k h2)
        go_wp2_with ((refine wpL_app1 _ rfl _ _ 29 rfl .i64 8 Try.underlying29 infoI64 w ⟨oa, o.length, oc⟩ o _ rfl rfl (by simpa using hown) hx (by omega) (by omega) ?_); intro s5 w5 hrw5 hx5 hk5)
        go_roundw
        case rel =>
          refine ⟨k + 1, _, s5, o ++ [(cc + at_ b k) % 10000], rfl, rfl, by go_num, by omega, hrw5, by simp [hol.out], hdo.snoc (by omega), by omega, ?_, by omega, hx5⟩
          rw [valL_snoc, hol.out, valL_take_succ, valL_take_succ]
          have S := dadd_step (x := 0) (y := at_ b k) hval.out (Int.pow_succ 10000 k).symm
          rw [Int.add_zero] at S
          rw [at_ge (l := a) (by omega)]
          exact S
        case measure => first | (simp [intOf]; done) | (simp [intOf]; omega)
      · by_cases h3 : 0 < cc
        · have hkk : k ≤ max a.length b.length := by
            rcases Nat.lt_or_ge k (max a.length b.length + 1) with h | h
            · omega
            · have := hcz (by omega); omega
          clear hcz
          go_wp2_with ((refine wpL_app1 _ rfl _ _ 29 rfl .i64 8 Try.underlying29 infoI64 w ⟨oa, o.length, oc⟩ o _ rfl rfl (by simpa using hown) hx (by omega) (by omega) ?_); intro s5 w5 hrw5 hx5 hk5)
          go_roundw
          case rel =>
            refine ⟨k + 1, _, s5, o ++ [(cc) % 10000], rfl, rfl, by go_num, by omega, hrw5, by simp [hol.out], hdo.snoc (by omega), by omega, ?_, by omega, hx5⟩
            rw [valL_snoc, hol.out, valL_take_succ, valL_take_succ]
            have S := dadd_step (x := 0) (y := 0) hval.out (Int.pow_succ 10000 k).symm
            rw [Int.add_zero, Int.add_zero] at S
            rw [at_ge (l := a) (by omega), at_ge (l := b) (by omega)]
            exact S
          case measure => first | (simp [intOf]; done) | (simp [intOf]; omega)
        · obtain rfl : cc = 0 := by omega
          clear hcz
          go_wp2
          go_ret
          have hv := hval.out
          rw [Int.zero_mul, Int.add_zero, List.take_of_length_le (by omega), List.take_of_length_le (by omega)] at hv
          exact ⟨⟨oa, o.length, oc⟩, o, rfl, hown.isL hdo.fit, hdo, holb, hv, hx, Av.row hown (Nat.le_refl _)⟩

end Go.Proofs.Ytbbidekjbgjooaa.Z4
end

section
namespace Go.Proofs.Ytbbidekjbgjooaa
open Go.RowKit

/-- The number of digits. -/
def readN (t : List UInt8) : Int := t.foldl (fun a c => a * 10 + ((c.toNat : Int) - 48)) 0

theorem readN_snoc (t : List UInt8) (c : UInt8) : readN (t ++ [c]) = readN t * 10 + ((c.toNat : Int) - 48) := by simp [readN]

theorem read_acc (b : List UInt8) : ∀ x : Int, b.foldl (fun a c => a * 10 + ((c.toNat : Int) - 48)) x = x * 10 ^ b.length + readN b := by
  induction b with
  | nil => intro x; simp [readN]
  | cons c t ih =>
    intro x
    have h0 := ih (0 * 10 + ((c.toNat : Int) - 48))
    simp only [List.foldl_cons, List.length_cons, Int.pow_succ, readN] at *
    rw [ih, h0]
    grind

theorem readN_append (a b : List UInt8) : readN (a ++ b) = readN a * 10 ^ b.length + readN b := by
  unfold readN
  rw [List.foldl_append, read_acc]
  rfl

theorem readN_take_succ {q : List UInt8} {j : Nat} (h : j < q.length) : readN (q.take (j + 1)) = readN (q.take j) * 10 + ((byt q j : Int) - 48) := by
  rw [List.take_succ_eq_append_getElem h, readN_snoc, byt_lt h]

theorem p10_le {j : Nat} (h : j ≤ 9) : (1 : Int) ≤ 10 ^ j ∧ (10 : Int) ^ j ≤ 1000000000 := by
  have h1 : (10 : Nat) ^ j ≤ 10 ^ 9 := Nat.pow_le_pow_right (by omega) h
  have h2 : 0 < (10 : Nat) ^ j := Nat.pow_pos (by omega)
  have e : (10 : Int) ^ j = ((10 ^ j : Nat) : Int) := by rw [Int.natCast_pow]; rfl
  rw [e]
  simp only [Nat.reducePow] at h1
  omega

theorem valL_snoc (l : List Int) (x : Int) : valL (l ++ [x]) = valL l + x * 4294967296 ^ l.length := by
  induction l with
  | nil => simp [valL]
  | cons y t ih => simp only [List.cons_append, valL, ih, List.length_cons, Int.pow_succ]; grind

theorem Dig.snoc {l : List Int} (h : Dig l) {x : Int} (hx : 0 ≤ x ∧ x ≤ 4294967295) : Dig (l ++ [x]) := by
  intro y hy
  rcases List.mem_append.1 hy with hy | hy
  · exact h y hy
  · rw [List.mem_singleton.1 hy]; exact hx

theorem mul_by_bound {m d : Int} (hm : 0 ≤ m ∧ m ≤ 4294967295) (hd : 1 ≤ d ∧ d ≤ 1000000000) : 0 ≤ m * d ∧ m * d ≤ 4294967295000000000 := by
  refine ⟨Int.mul_nonneg hm.1 (by omega), ?_⟩
  have := Int.mul_le_mul hm.2 hd.2 (by omega) (by omega)
  omega

theorem dig_step {V c V0 d P0 m p q : Int} (h : V + c * p = V0 * d + P0) (hq : p * 4294967296 = q) :
    V + (c + m * d) % 4294967296 * p + (c + m * d) / 4294967296 * q = (V0 + m * p) * d + P0 := by
  have h1 : (c + m * d) % 4294967296 = (c + m * d) - 4294967296 * ((c + m * d) / 4294967296) := by omega
  rw [h1, ← hq]
  generalize (c + m * d) / 4294967296 = e
  grind

set_option maxRecDepth 100000 in
set_option maxHeartbeats 1000000 in
theorem digits_any (t : List UInt8) (w : World) (hs : t.length ≤ 1099511627776) (hd : ∀ j, j < t.length → 48 ≤ byt t j ∧ byt t j ≤ 57) :
    Calls Try.prog 65 #[.string (bs t)] w (RetL w (readN t)) := by
  replace hd := hd_ hd
  go_enter Try.func65, Try.ntmps65
  go_wp2
  go_loopw [0, 3] (fun v m wr => ∃ p s l, v = .string (bs (t.drop p)) ∧ m = .slice (SV.a s) (SV.len s) (SV.cap s) ∧ p ≤ t.length ∧ Rw wr w.heap.size .u32 s l ∧ Dig l ∧ valL l = readN (t.take p) ∧ l.length ≤ p ∧ Ext w wr) (fun v _ _ => match v with | .string b => b.size | _ => 0)
  case atStart => exact ⟨0, ⟨none, 0, 0⟩, [], by simp, rfl, Nat.zero_le _, Rw.nil_ _ _ _, (fun x hx => by cases hx), rfl, Nat.le_refl _, Ext.rf _⟩
  case round =>
    obtain ⟨p, s, l, rfl, rfl, hp, hrw, hdl, hval, hll, hx⟩ := hrel
    have hsl := hrw.len
    obtain ⟨sa, sn, sc⟩ := s
    simp only at hsl
    subst hsl
    obtain ⟨q, hq⟩ : ∃ q, q = t.drop p := ⟨_, rfl⟩
    have hql : q.length + p = t.length := by rw [hq]; simp; omega
    have HQD : Hd (∀ j, j < q.length → 48 ≤ byt q j ∧ byt q j ≤ 57) := hd_ (fun j hj => by rw [hq, byt_drop]; exact hd.out _ (by omega))
    have HQ := hd_ hq
    have HQL := hd_ hql
    replace hql : q.length ≤ t.length := by omega
    rw [← hq]
    clear hq
    replace hval := hd_ hval
    by_cases h0 : 0 < q.length
    · obtain ⟨n, hn, hn1, hn9, hnq⟩ : ∃ n : Nat, ((q.length : Int) - 1) % 9 + 1 = (n : Int) ∧ 1 ≤ n ∧ n ≤ 9 ∧ n ≤ q.length := ⟨(q.length - 1) % 9 + 1, by omega, by omega, by omega, by omega⟩
      go_wp2_with ((refine wpL_bytes _ rfl 9 94 _ rfl Try.underlying9 Try.underlying94 Try.underlying5 (q.take n) (by rfl) (by simp; omega) ?_); intro cb w1 hb1 hx1 hcell1)
      have htl : (q.take n).length = n := by simp; omega
      have HTL := hd_ htl
      clear htl
      go_loop [23, 5, 6] (fun j pt b => ∃ (m : Nat) (pp bb : Int), j = .int .i64 m ∧ pt = .int .u64 pp ∧ b = .int .u64 bb ∧ m ≤ n ∧ bb = 10 ^ m ∧ pp = readN (q.take m) ∧ 0 ≤ pp ∧ pp < bb) (fun j _ _ => n - (intOf j).toNat)
      case atStart => exact ⟨0, 0, 1, rfl, rfl, rfl, Nat.zero_le _, by simp, rfl, by omega, by omega⟩
      case round =>
        obtain ⟨m, pp, bb, rfl, rfl, rfl, hm, hbb, hpp, hpp0, hpp1⟩ := hrel
        have hb9 := p10_le (j := m) (by omega)
        rw [← hbb] at hb9
        replace hbb := hd_ hbb
        replace hpp := hd_ hpp
        by_cases hlt : m < n
        · have hc := hcell1 m (by rw [HTL.out]; exact hlt)
          have hby : byt (q.take n) m = byt q m := by simp [byt, hlt]
          have hd1 := HQD.out m (by omega)
          have hb9' := p10_le (j := m + 1) (by omega)
          have hbs : (10 : Int) ^ (m + 1) = bb * 10 := by rw [hbb.out, Int.pow_succ]
          rw [hbs] at hb9'
          replace hbs := hd_ hbs
          go_wp2
          go_round
          case rel =>
            refine ⟨m + 1, _, _, by go_num, rfl, rfl, by omega, hbs.out.symm, ?_, by omega, by omega⟩
            rw [readN_take_succ (by omega), ← hpp.out]
          case measure => first | (simp [intOf]; done) | (simp [intOf]; omega)
        · obtain rfl : m = n := by omega
          clear hcell1
          go_wp2
          go_loopw [41, 5] (fun i c wi => ∃ (k : Nat) (cc : Int) (l2 : List Int), i = .int .i64 k ∧ c = .int .u64 cc ∧ k ≤ l.length ∧ 0 ≤ cc ∧ cc ≤ 1000000000 ∧ Rw wi w.heap.size .u32 ⟨sa, l.length, sc⟩ l2 ∧ l2.length = l.length ∧ Dig l2 ∧
              valL (l2.take k) + cc * 4294967296 ^ k = valL (l.take k) * bb + pp ∧ (∀ j, k ≤ j → at_ l2 j = at_ l j) ∧ Ext w wi) (fun i _ _ => l.length - (intOf i).toNat)
          case atStart => exact ⟨0, pp, l, rfl, rfl, Nat.zero_le _, hpp0, by omega, hrw.keep hx1, rfl, hdl, by simp [valL], fun _ _ => rfl, hx.tr hx1⟩
          case round =>
            clear hb1 hx1 hrw hx
            obtain ⟨k, cc, l2, rfl, rfl, hk, hcc0, hcc1, hrw, hl2, hdl2, hval2, htl2, hx⟩ := hrel
            replace hval2 := hd_ hval2
            replace htl2 := hd_ htl2
            replace hl2 := hd_ hl2
            by_cases hlt : k < l.length
            · obtain ⟨g, cap, hsv, hgb, hgt, hgc1, hgc2, hgc, hgf⟩ := hrw.open_ (by rw [hl2.out]; omega)
              rw [SV.mk.injEq] at hsv
              obtain ⟨rfl, -, rfl⟩ := hsv
              have gc := hgc k (by rw [hl2.out]; exact hlt)
              have gf := hgf k
              clear hgc hgf
              have fm := hdl2.at_ k
              have fmb := mul_by_bound fm hb9
              go_wp2
              go_roundw
              case rel =>
                refine ⟨k + 1, _, l2.set k ((cc + at_ l2 k * bb) % 4294967296), by go_num, rfl, by omega, by omega, by omega, ?_, by rw [List.length_set]; exact hl2.out, hdl2.set k (by omega), ?_, ?_, ?_⟩
                · have := Rw.set (l := l2) (g := g) (cap := sc) (by rw [hl2.out]; exact hrw) k ((cc + at_ l2 k * bb) % 4294967296)
                  rw [hl2.out] at this
                  exact this
                · rw [valL_set (by rw [hl2.out]; exact hlt), valL_take_succ, ← htl2.out k (Nat.le_refl _)]
                  exact dig_step hval2.out (Int.pow_succ ..).symm
                · intro j hj
                  rw [at_set_ne (by omega)]
                  exact htl2.out j (by omega)
                · exact hx.st hgb _
              case measure => first | (simp [intOf]; done) | (simp [intOf]; omega)
            · obtain rfl : k = l.length := by omega
              have hfin : valL l2 + cc * 4294967296 ^ l.length = readN (t.take (p + m)) := by
                have h1 := hval2.out
                rw [List.take_of_length_le (by rw [hl2.out]; exact Nat.le_refl _), List.take_of_length_le (Nat.le_refl _), hval.out, hpp.out, hbb.out] at h1
                rw [h1, List.take_add, readN_append, ← HQ.out, HTL.out]
              have hdq : q.drop m = t.drop (p + m) := by rw [HQ.out, List.drop_drop]
              replace hfin := hd_ hfin
              by_cases hc0 : 0 < cc
              · have hsl : l2.length = (⟨sa, l.length, sc⟩ : SV).len := hl2.out
                go_wp2_with ((refine wpL_app1 _ rfl _ _ 22 rfl .u32 4 Try.underlying22 infoU32 w ⟨sa, l.length, sc⟩ l2 cc rfl rfl hrw hx (by rw [hl2.out]; omega) (by rw [hl2.out]; omega) ?_); intro s3 w3 hrw3 hx3 _)
                try rw [hdq]
                go_roundw
                case rel =>
                  refine ⟨p + m, s3, l2 ++ [cc], rfl, rfl, ?_, hrw3, hdl2.snoc (by omega), ?_, ?_, hx3⟩
                  · have := HQL.out; omega
                  · rw [valL_snoc, hl2.out, hfin.out]
                  · rw [List.length_append, hl2.out]; simp; omega
                case measure => have := HQL.out; simp; omega
              · obtain rfl : cc = 0 := by omega
                go_wp2
                try rw [hdq]
                go_roundw
                case rel =>
                  refine ⟨p + m, ⟨sa, l.length, sc⟩, l2, rfl, rfl, ?_, hrw, hdl2, ?_, ?_, hx⟩
                  · have := HQL.out; omega
                  · have := hfin.out
                    rw [Int.zero_mul, Int.add_zero] at this
                    exact this
                  · rw [hl2.out]; omega
                case measure => have := HQL.out; simp; omega
    · have hp : p = t.length := by have := HQL.out; omega
      replace hp := hd_ hp
      go_wp2
      go_ret
      refine ⟨⟨sa, l.length, sc⟩, l, rfl, hrw.isL hdl, ?_, hx⟩
      rw [hval.out, hp.out, List.take_of_length_le (Nat.le_refl _)]

end Go.Proofs.Ytbbidekjbgjooaa
end

section
namespace Go.Proofs.Ytbbidekjbgjooaa
open Go.RowKit

theorem or_low {p x : Int} (hp : 0 ≤ p ∧ p ≤ 4294967295) (hx : 0 ≤ x ∧ x ≤ 4294967295) : bits BinOp.or IntKind.u64 (p * 4294967296) x = p * 4294967296 + x := by
  rw [u64_or _ _ (by omega) (by omega) (by omega) (by omega)]
  rw [nat_join 32 _ _ (by omega) (by omega)]
  omega

theorem div32_bounds {hi lo y : Int} (h0 : 0 ≤ hi) (h1 : hi < y) (h2 : 0 ≤ lo ∧ lo ≤ 4294967295) : 0 ≤ (hi * 4294967296 + lo) / y ∧ (hi * 4294967296 + lo) / y ≤ 4294967295 ∧ 0 ≤ (hi * 4294967296 + lo) % y ∧ (hi * 4294967296 + lo) % y < y := by
  refine ⟨Int.ediv_nonneg (by omega) (by omega), ?_, Int.emod_nonneg _ (by omega), Int.emod_lt_of_pos _ (by omega)⟩
  have : (hi * 4294967296 + lo) / y < 4294967296 := Int.ediv_lt_of_lt_mul (by omega) (by omega)
  omega

set_option maxHeartbeats 400000 in
theorem div32 (hi lo y : Int) (w : World) (h0 : 0 ≤ hi) (h1 : hi < y) (hy : y ≤ 4294967295) (h2 : 0 ≤ lo ∧ lo ≤ 4294967295) :
    Calls Try.prog 92 #[.int .u32 hi, .int .u32 lo, .int .u32 y] w (fun e w' => e = .returned (.tuple #[.int .u32 ((hi * 4294967296 + lo) / y), .int .u32 ((hi * 4294967296 + lo) % y)]) ∧ Ext w w') := by
  have ho := or_low (p := hi) (by omega) h2
  have hb := div32_bounds h0 h1 h2
  go_enter Try.func92, Try.ntmps92
  go_wp2
  go_quiet (fail)
  go_wp2
  go_ret2
  exact ⟨rfl, below_drewN (Ext.rf _) _⟩

theorem valL_set_drop {l : List Int} {k : Nat} (h : k < l.length) (v : Int) : valL ((l.set k v).drop k) = v + 4294967296 * valL (l.drop (k + 1)) := by
  rw [valL_at_drop, at_set_eq h, List.drop_set_of_lt (by omega)]

/-- The call answers a slice of these places and a rest. -/
def RetShort (w : World) (n : Nat) (q r : Int) (e : Ending) (w' : World) : Prop :=
  ∃ (s : SV) (l : List Int), e = .returned (.tuple #[.slice s.a s.len s.cap, .int .u32 r]) ∧ IsL w' s .u32 l ∧ l.length = n ∧ valL l = q ∧ Ext w w'

theorem short_end {A D o r : Int} (h : o * D + r = A) (h0 : 0 ≤ r) (h1 : r < D) : o = A / D ∧ r = A % D := by
  have h2 := Int.mul_ediv_add_emod A D
  have h3 := Int.emod_nonneg A (show D ≠ 0 by omega)
  have h4 := Int.emod_lt_of_pos A (show 0 < D by omega)
  have : A / D = o := by
    rw [← h, Int.add_comm, Int.add_mul_ediv_right _ _ (by omega), Int.ediv_eq_zero_of_lt h0 h1, Int.zero_add]
  rw [this] at h2
  refine ⟨this.symm, ?_⟩
  have e : D * o = o * D := Int.mul_comm ..
  omega

theorem short_step {V o r a D : Int} (h : o * D + r = V) : ((r * 4294967296 + a) / D + 4294967296 * o) * D + (r * 4294967296 + a) % D = a + 4294967296 * V := by
  have h2 := Int.mul_ediv_add_emod (r * 4294967296 + a) D
  generalize (r * 4294967296 + a) / D = q at *
  generalize (r * 4294967296 + a) % D = s at *
  subst h
  grind

set_option maxRecDepth 100000 in
set_option maxHeartbeats 1000000 in
theorem short_any (s : SV) (a : List Int) (d : Int) (w : World) (ha : IsL w s .u32 a) (hla : a.length ≤ 1099511627776) (hd : 1 ≤ d ∧ d ≤ 4294967295) :
    Calls Try.prog 80 #[.slice s.a s.len s.cap, .int .u32 d] w (RetShort w a.length (valL a / d) (valL a % d)) := by
  have da : Dig a := ha.2
  obtain ⟨ao, ca, rfl, hca, hcam, hopa⟩ := ha.open_
  go_enter Try.func80, Try.ntmps80
  go_wp2_with (at_make; refine wpL_make _ rfl _ _ 22 rfl 93 .u32 4 Try.underlying22 infoU32 _ _ _ _ a.length rfl rfl (by omega) (by omega) (by omega) (by omega) ?_; intro w1 hown1 hx1 hlt1)
  go_loopw [7, 8] (fun rv i wr => ∃ (k : Nat) (r : Int) (o : List Int), rv = .int .u32 r ∧ i = .int .i64 ((k : Int) - 1) ∧ k ≤ a.length ∧ Own wr w.heap.size 93 .u32 o ∧ o.length = a.length ∧ Dig o ∧ (0 ≤ r ∧ r < d) ∧
      valL (o.drop k) * d + r = valL (a.drop k) ∧ Ext w wr) (fun _ i _ => (intOf i + 1).toNat)
  case atStart => exact ⟨a.length, 0, _, rfl, rfl, Nat.le_refl _, hown1, by simp, dig_zeros _, by omega, by rw [List.drop_of_length_le (by simp), List.drop_of_length_le (by simp)]; simp [valL], hx1⟩
  case round =>
    obtain ⟨k, r, o, rfl, rfl, hk, hown, hol, hdo, hr, hval, hx⟩ := hrel
    clear hown1
    replace hval := hd_ hval
    replace hol := hd_ hol
    match k, hk, hval with
    | 0, hk, hval =>
      go_wp2
      go_ret2
      have h1 := short_end hval.out hr.1 hr.2
      rw [List.drop_zero, List.drop_zero] at h1
      refine ⟨⟨some ⟨w.heap.size, 0, none⟩, a.length, a.length⟩, o, by rw [← h1.2]; rfl, ?_, hol.out, h1.1, hx⟩
      have := hown.isL (by have := hol.out; omega) hdo
      rw [hol.out] at this
      exact this
    | k + 1, hk, hval =>
      rw [show ((k + 1 : Nat) : Int) - 1 = (k : Int) by omega]
      obtain ⟨ba, oa, rfl, hba, ga⟩ := hopa (by omega)
      have ga := (hx.cell (p := ⟨ba, oa + k, none⟩) hba.lt).trans (ga k hk)
      have fa := da.at_ k
      have hb := div32_bounds (y := d) hr.1 hr.2 fa
      go_wp2_with fail
      refine (div32 _ _ _ _ hr.1 hr.2 hd.2 fa).mono ?_
      rintro e w2 ⟨rfl, hx2⟩
      have go := (hown.keep hx2).cell (i := k) (by have := hol.out; omega)
      have gf := (hown.keep hx2).frozen k
      go_wp2
      go_roundw
      case rel =>
        refine ⟨k, _, o.set k _, rfl, rfl, by omega, (hown.keep hx2).set k _, by rw [List.length_set]; exact hol.out, hdo.set k ⟨hb.1, hb.2.1⟩, ⟨hb.2.2.1, hb.2.2.2⟩, ?_, (hx.tr hx2).st (Nat.le_refl _) _⟩
        rw [valL_set_drop (by have := hol.out; omega), valL_at_drop a k]
        exact short_step hval.out
      case measure => first | (simp [intOf]; done) | (simp [intOf]; omega)

theorem at_zeros (n i : Nat) : at_ (List.replicate n 0) i = 0 := by
  simp only [at_, List.getD_eq_getElem?_getD, List.getElem?_replicate]
  split <;> rfl

/-- The call answers a new block of places, known whole. -/
def RetOwn (w : World) (n : Nat) (z : Int) (e : Ending) (w' : World) : Prop :=
  ∃ (b : Nat) (l : List Int), e = .returned (.slice (some ⟨b, 0, none⟩) n n) ∧ Own w' b 93 .u32 l ∧ l.length = n ∧ Dig l ∧ valL l = z ∧ w.heap.size ≤ b ∧ Ext w w'

theorem pow2_le {r : Nat} (h : r < 32) : (1 : Int) ≤ 2 ^ r ∧ (2 : Int) ^ r ≤ 2147483648 ∧ (4294967296 : Int) = 2 ^ r * 2 ^ (32 - r) := by
  have h1 : (2 : Nat) ^ r ≤ 2 ^ 31 := Nat.pow_le_pow_right (by omega) (by omega)
  have h2 : (1 : Nat) ≤ 2 ^ r := Nat.one_le_two_pow
  have e : (2 : Int) ^ r = ((2 ^ r : Nat) : Int) := by simp
  have e3 : (2 : Int) ^ r * 2 ^ (32 - r) = 2 ^ 32 := by rw [← Int.pow_add, show r + (32 - r) = 32 by omega]
  refine ⟨by omega, by omega, e3.symm⟩

theorem or_join32 {r : Nat} {c l : Int} (hr : r < 32) (hc : 0 ≤ c ∧ c < 2 ^ r) (hl : 0 ≤ l ∧ l ≤ 4294967295) (hd : l % 2 ^ r = 0) : bits BinOp.or IntKind.u32 c l = c + l ∧ bits BinOp.or IntKind.u32 l c = l + c ∧ c + l ≤ 4294967295 := by
  have h2 := pow2_le hr
  obtain ⟨C, rfl⟩ := Int.eq_ofNat_of_zero_le hc.1
  obtain ⟨L, rfl⟩ := Int.eq_ofNat_of_zero_le hl.1
  have e : (2 : Int) ^ r = ((2 ^ r : Nat) : Int) := by simp
  have e2 : (2 : Int) ^ (32 - r) = ((2 ^ (32 - r) : Nat) : Int) := by simp
  rw [e] at hd hc h2
  rw [e2] at h2
  have hd' : L % 2 ^ r = 0 := by omega
  have hj := nat_join r L C hd' (by omega)
  have hj2 : C ||| L = C + L := by rw [Nat.or_comm, hj]; omega
  have hlt : C + L < 4294967296 := by
    obtain ⟨m, hm⟩ := Nat.dvd_of_mod_eq_zero hd'
    have h5 : 4294967296 = 2 ^ r * 2 ^ (32 - r) := by have := h2.2.2; rw [← Int.natCast_mul] at this; omega
    generalize 2 ^ (32 - r) = q at *
    generalize 2 ^ r = p at *
    subst hm
    have h6 : m < q := by
      refine Nat.lt_of_mul_lt_mul_left (a := p) ?_
      omega
    have h7 := Nat.mul_le_mul_left p (show m + 1 ≤ q from h6)
    rw [Nat.mul_add, Nat.mul_one] at h7
    omega
  refine ⟨?_, ?_, by omega⟩
  · rw [u32_or_nat _ _ (by omega) (by omega), hj2]; simp
  · rw [u32_or_nat _ _ (by omega) (by omega), hj]; simp

theorem left_cells {r : Nat} {x c : Int} (hr : r < 32) (hx : 0 ≤ x ∧ x ≤ 4294967295) (hc : 0 ≤ c ∧ c < 2 ^ r) :
    bits BinOp.or IntKind.u32 c (IntKind.u64.wrap (x * 2 ^ r) % 4294967296) = c + (x * 2 ^ r) % 4294967296 ∧
    bits BinOp.or IntKind.u32 0 (IntKind.u64.wrap (x * 2 ^ r) / 4294967296 % 4294967296) = x * 2 ^ r / 4294967296 ∧
    (0 ≤ c + (x * 2 ^ r) % 4294967296 ∧ c + (x * 2 ^ r) % 4294967296 ≤ 4294967295) ∧ (0 ≤ x * 2 ^ r / 4294967296 ∧ x * 2 ^ r / 4294967296 < 2 ^ r) ∧ (2 : Int) ^ r ≤ 4294967296 := by
  have h2 := pow2_le hr
  have hd : (x * 2 ^ r) % 4294967296 % 2 ^ r = 0 := by
    rw [Int.emod_emod_of_dvd _ ⟨_, h2.2.2⟩, Int.mul_emod_left]
  have hb : 0 ≤ x * 2 ^ r ∧ x * 2 ^ r ≤ 4294967295 * 2147483648 := ⟨Int.mul_nonneg hx.1 (by omega), Int.mul_le_mul hx.2 h2.2.1 (by omega) (by omega)⟩
  have hlt : x * 2 ^ r < 2 ^ r * 4294967296 := by
    have := Int.mul_le_mul_of_nonneg_right hx.2 (show (0 : Int) ≤ 2 ^ r by omega)
    omega
  have hw : IntKind.u64.wrap (x * 2 ^ r) = x * 2 ^ r := by rw [IntKind.wrap_u64]; omega
  rw [hw]
  have hl : 0 ≤ (x * 2 ^ r) % 4294967296 ∧ (x * 2 ^ r) % 4294967296 ≤ 4294967295 := by omega
  have hj := or_join32 hr hc hl hd
  have hh : 0 ≤ x * 2 ^ r / 4294967296 ∧ x * 2 ^ r / 4294967296 < 2 ^ r := ⟨by omega, Int.ediv_lt_of_lt_mul (by omega) hlt⟩
  have hh2 := hh.2
  refine ⟨hj.1, ?_, ⟨by omega, hj.2.2⟩, hh, by omega⟩
  rw [Int.emod_eq_of_lt hh.1 (by omega)]
  rw [u32_or _ _ (by omega) (by omega) (by omega) (by omega)]
  simp; omega

set_option maxRecDepth 100000 in
set_option maxHeartbeats 1000000 in
theorem left_any (s : SV) (a : List Int) (N : Int) (q r : Nat) (w : World) (ha : IsL w s .u32 a) (hla : a.length ≤ 1099511627776) (hN : N = 32 * q + r) (hr : r < 32) (hq : q ≤ 1099511627776) :
    Calls Try.prog 82 #[.slice s.a s.len s.cap, .int .i64 N] w (RetOwn w (a.length + q + 1) (valL a * 2 ^ r * 4294967296 ^ q)) := by
  have da : Dig a := ha.2
  obtain ⟨ao, ca, rfl, hca, hcam, hopa⟩ := ha.open_
  have e1 : N / 32 = q := by omega
  have e2 : N % 32 = r := by omega
  have hN0 : 0 ≤ N := by omega
  clear hN
  go_enter Try.func82, Try.ntmps82
  go_wp2_with (at_make; refine wpL_make _ rfl _ _ 22 rfl 93 .u32 4 Try.underlying22 infoU32 _ _ _ _ (a.length + q + 1) rfl rfl (by omega) (by omega) (by omega) (by omega) ?_; intro w1 hown1 hx1 hlt1)
  go_loopw [18] (fun i wr => ∃ (k : Nat) (o : List Int), i = .int .i64 k ∧ k ≤ a.length ∧ Own wr w.heap.size 93 .u32 o ∧ o.length = a.length + q + 1 ∧ Dig o ∧
      valL o = valL (a.take k) * 2 ^ r * 4294967296 ^ q ∧ (∀ t, k + q < t → at_ o t = 0) ∧ at_ o (k + q) < 2 ^ r ∧ Ext w wr) (fun i _ => a.length - (intOf i).toNat)
  case atStart =>
    refine ⟨0, _, rfl, Nat.zero_le _, hown1, by simp, dig_zeros _, ?_, fun t _ => ?_, ?_, hx1⟩
    · rw [valL_zero (fun j => at_zeros _ j)]; simp [valL]
    · exact at_zeros _ t
    · rw [at_zeros]; exact Int.pow_pos (by omega)
  case round =>
    obtain ⟨k, o, rfl, hk, hown, hol, hdo, hval, hz, htop, hx⟩ := hrel
    clear hown1
    replace hval := hd_ hval
    replace hol := hd_ hol
    replace hz := hd_ hz
    replace htop := hd_ htop
    by_cases hlt : k < a.length
    · obtain ⟨ba, oa, rfl, hba, ga⟩ := hopa (by omega)
      have ga := (hx.cell (p := ⟨ba, oa + k, none⟩) hba.lt).trans (ga k hlt)
      have fa := da.at_ k
      have go := hown.cell (i := k + q) (by have := hol.out; omega)
      have gf := hown.frozen (k + q)
      have go2 := hown.cell (i := k + q + 1) (by have := hol.out; omega)
      have gf2 := hown.frozen (k + q + 1)
      go_wp2
      have hz1 : at_ o (k + q + 1) = 0 := hz.out _ (by omega)
      have fo := hdo.at_ (k + q)
      obtain ⟨c1, c2, c3, c4, c5⟩ := left_cells hr fa ⟨fo.1, htop.out⟩
      rw [hz1, c1, c2]
      go_roundw
      case rel =>
        refine ⟨k + 1, (o.set (k + q) _).set (k + q + 1) _, rfl, by omega, (hown.set (k + q) _).set (k + q + 1) _, by rw [List.length_set, List.length_set]; exact hol.out, (hdo.set _ c3).set _ (by have := c4.2; omega), ?_, ?_, ?_, (hx.st (Nat.le_refl _) _).st (Nat.le_refl _) _⟩
        · rw [valL_set_full (by rw [List.length_set]; have := hol.out; omega), valL_set_full (by have := hol.out; omega), at_set_ne (by omega), hz1, hval.out, valL_take_succ]
          rw [show k + q + 1 = k + q + 1 from rfl, Int.pow_succ, pow_add' k q]
          generalize (2 : Int) ^ r = p2 at *
          have e := Int.mul_ediv_add_emod (at_ a k * p2) 4294967296
          generalize (at_ a k * p2) / 4294967296 = h at *
          generalize (at_ a k * p2) % 4294967296 = l at *
          generalize (4294967296 : Int) ^ k = bk at *
          generalize (4294967296 : Int) ^ q = bq at *
          clear c1 c2 c3 c4 c5
          grind
        · intro t ht
          rw [at_set_ne (by omega), at_set_ne (by omega)]
          exact hz.out t (by omega)
        · rw [show k + 1 + q = k + q + 1 by omega, at_set_eq (by rw [List.length_set]; have := hol.out; omega)]
          exact c4.2
      case measure => first | (simp [intOf]; done) | (simp [intOf]; omega)
    · obtain rfl : k = a.length := by omega
      go_wp2
      go_ret
      refine ⟨w.heap.size, o, rfl, hown, hol.out, hdo, ?_, Nat.le_refl _, hx⟩
      rw [hval.out, List.take_of_length_le (Nat.le_refl _)]

end Go.Proofs.Ytbbidekjbgjooaa
end

section
namespace Go.Proofs.Ytbbidekjbgjooaa
open Go.RowKit

/-- The call answers a slice, and whether something was lost. -/
def RetRight (w : World) (n : Nat) (p z : Int) (e : Ending) (w' : World) : Prop :=
  ∃ (s : SV) (l : List Int) (b : Bool), e = .returned (.tuple #[.slice s.a s.len s.cap, .bool b]) ∧ IsL w' s .u32 l ∧ l.length = n ∧ p * valL l = z ∧ Ext w w'

theorem right_dig {r : Nat} {x : Int} (hr : r < 32) (hx : 0 ≤ x ∧ x ≤ 4294967295) : 0 ≤ x / 2 ^ r ∧ x / 2 ^ r ≤ 4294967295 := by
  have h2 := pow2_le hr
  refine ⟨Int.ediv_nonneg hx.1 (by omega), ?_⟩
  have := Int.ediv_le_self (2 ^ r) hx.1
  omega

theorem right_cells {r : Nat} {x y : Int} (hr : r < 32) (hr0 : 0 < r) (hx : 0 ≤ x ∧ x ≤ 4294967295) (_hy : 0 ≤ y ∧ y ≤ 4294967295) :
    bits BinOp.or IntKind.u32 (x / 2 ^ r) (y * 2 ^ (32 - r) % 4294967296) = x / 2 ^ r + (y % 2 ^ r) * 2 ^ (32 - r) ∧ 0 ≤ x / 2 ^ r + (y % 2 ^ r) * 2 ^ (32 - r) ∧ x / 2 ^ r + (y % 2 ^ r) * 2 ^ (32 - r) ≤ 4294967295 := by
  have h2 := pow2_le hr
  have h3 := pow2_le (r := 32 - r) (by omega)
  have e : y * 2 ^ (32 - r) % 4294967296 = (y % 2 ^ r) * 2 ^ (32 - r) := by
    rw [h2.2.2, Int.mul_comm y, Int.mul_comm (2 ^ r) (2 ^ (32 - r)), Int.mul_emod_mul_of_pos _ _ (by omega), Int.mul_comm]
  have hl : 0 ≤ y * 2 ^ (32 - r) % 4294967296 ∧ y * 2 ^ (32 - r) % 4294967296 ≤ 4294967295 := by omega
  rw [e] at hl ⊢
  have hc : 0 ≤ x / 2 ^ r ∧ x / 2 ^ r < 2 ^ (32 - r) := ⟨(right_dig hr hx).1, Int.ediv_lt_of_lt_mul (by omega) (by rw [Int.mul_comm, ← h2.2.2]; omega)⟩
  have hj := or_join32 (r := 32 - r) (by omega) hc hl (Int.mul_emod_left _ _)
  exact ⟨hj.1, by omega, hj.2.2⟩

theorem right_step0 {V A c a p bk : Int} (h : p * V = A - c + (a % p) * bk) : p * (V + a / p * bk) = A + a * bk - c := by
  have h1 := Int.mul_ediv_add_emod a p
  generalize a / p = q at *
  generalize a % p = s at *
  subst h1
  rw [Int.mul_add, h]
  grind

theorem right_step {V A c a s2 p p' bk : Int} (h : p * V = A - c + (a % p) * bk) (hp : p * p' = 4294967296) : p * (V + (a / p + s2 * p') * bk) = A + a * bk - c + s2 * (bk * 4294967296) := by
  have h1 := Int.mul_ediv_add_emod a p
  generalize a / p = q at *
  generalize a % p = s at *
  subst h1
  rw [Int.mul_add, h, ← hp]
  grind

set_option maxRecDepth 100000 in
set_option maxHeartbeats 1000000 in
theorem right_pos (s : SV) (a : List Int) (r : Nat) (w : World) (ha : IsL w s .u32 a) (hla : a.length ≤ 1099511627776) (h0 : 0 < a.length) (hr : r < 32) (hr0 : 0 < r) :
    Calls Try.prog 96 #[.slice s.a s.len s.cap, .int .i64 r] w (RetRight w a.length (2 ^ r) (valL a - at_ a 0 % 2 ^ r)) := by
  have da : Dig a := ha.2
  obtain ⟨ao, ca, rfl, hca, hcam, hopa⟩ := ha.open_
  obtain ⟨ba, oa, rfl, hba, ga⟩ := hopa h0
  have g0 := ga 0 h0
  simp only [Nat.add_zero] at g0
  have hbl := hba.lt
  have hne : ¬ a = [] := by rintro rfl; simp at h0
  have e1 : (r : Int) / 32 = 0 := by omega
  have e2 : (r : Int) % 32 = r := by omega
  go_enter Try.func96, Try.ntmps96
  go_wp2
  all_goals
    go_loop [6, 39] (fun b i => (∃ B : Bool, b = .bool B) ∧ i = .int .i64 0) (fun _ _ => 0)
    case atStart => exact ⟨⟨_, rfl⟩, rfl⟩
    case round =>
      obtain ⟨⟨B, rfl⟩, rfl⟩ := hrel
      go_wp2_with (at_make; refine wpL_make _ rfl _ _ 22 rfl 93 .u32 4 Try.underlying22 infoU32 _ _ _ _ a.length rfl rfl (by omega) (by omega) (by omega) (by omega) ?_; intro w1 hown1 hx1 hlt1)
      go_loopw [57] (fun i wr => ∃ (k : Nat) (o : List Int), i = .int .i64 k ∧ k ≤ a.length ∧ Own wr w.heap.size 93 .u32 o ∧ o.length = a.length ∧ Dig o ∧
          2 ^ r * valL (o.take k) = valL (a.take k) - at_ a 0 % 2 ^ r + (at_ a k % 2 ^ r) * 4294967296 ^ k ∧ Ext w wr) (fun i _ => a.length - (intOf i).toNat)
      case atStart => exact ⟨0, _, rfl, Nat.zero_le _, hown1, by simp, dig_zeros _, by rw [List.take_zero, List.take_zero, Int.pow_zero, Int.mul_one]; generalize at_ a 0 % 2 ^ r = c; simp only [valL, Int.mul_zero]; omega, hx1⟩
      case round =>
        obtain ⟨k, o, rfl, hk, hown, hol, hdo, hval, hx⟩ := hrel
        clear hown1
        replace hval := hd_ hval
        replace hol := hd_ hol
        by_cases hlt : k < a.length
        · have gc := (hx.cell (p := ⟨ba, oa + k, none⟩) hbl).trans (ga k hlt)
          have fa := da.at_ k
          have go := hown.cell (i := k) (by have := hol.out; omega)
          have gf := hown.frozen k
          by_cases hlt2 : k + 1 < a.length
          · have gc2 := (hx.cell (p := ⟨ba, oa + (k + 1), none⟩) hbl).trans (ga (k + 1) hlt2)
            have fa2 := da.at_ (k + 1)
            obtain ⟨c1, c2, c3⟩ := right_cells hr hr0 fa fa2
            go_wp2
            have hos := hown.set k (at_ a k / 2 ^ r)
            have gos := hos.cell (i := k) (by rw [List.length_set]; have := hol.out; omega)
            rw [at_set_eq (by have := hol.out; omega)] at gos
            have gfs := hos.frozen k
            have gcs : (wr.setCell ⟨w.heap.size, k, none⟩ (.int .u32 (at_ a k / 2 ^ r))).cell? ⟨ba, oa + (k + 1), none⟩ = some (.int .u32 (at_ a (k + 1))) := by
              rw [World.cell?_setCell_other _ _ _ _ (by simp)]; exact gc2
            go_region
            go_wp2
            go_roundw
            case rel =>
              refine ⟨k + 1, (o.set k _).set k _, rfl, by omega, (hos.set k _).dr, by rw [List.length_set, List.length_set]; exact hol.out, (hdo.set k (right_dig hr fa)).set k ⟨c2, c3⟩, ?_, ((hx.st (Nat.le_refl _) _).st (Nat.le_refl _) _).dr⟩
              rw [List.set_set, valL_set (by have := hol.out; omega), valL_take_succ, Int.pow_succ]
              exact right_step hval.out (pow2_le hr).2.2.symm
            case measure => first | (simp [intOf]; done) | (simp [intOf]; omega)
          · go_wp2
            go_roundw
            case rel =>
              have hz : at_ a (k + 1) = 0 := at_ge (by omega)
              refine ⟨k + 1, o.set k _, rfl, by omega, hown.set k _, by rw [List.length_set]; exact hol.out, hdo.set k (right_dig hr fa), ?_, hx.st (Nat.le_refl _) _⟩
              rw [valL_set (by have := hol.out; omega), valL_take_succ, hz, Int.zero_emod, Int.zero_mul, Int.add_zero]
              exact right_step0 hval.out
            case measure => first | (simp [intOf]; done) | (simp [intOf]; omega)
        · obtain rfl : k = a.length := by omega
          go_wp2
          go_ret2
          have h1 := hval.out
          rw [at_ge (l := a) (i := a.length) (by omega), List.take_of_length_le (by have := hol.out; omega), List.take_of_length_le (Nat.le_refl _)] at h1
          refine ⟨⟨some ⟨w.heap.size, 0, none⟩, a.length, a.length⟩, o, _, rfl, ?_, hol.out, by simpa using h1, hx⟩
          have := hown.isL (by have := hol.out; omega) hdo
          rw [hol.out] at this
          exact this

set_option maxRecDepth 100000 in
set_option maxHeartbeats 1000000 in
theorem right_zero (s : SV) (a : List Int) (w : World) (ha : IsL w s .u32 a) (hla : a.length ≤ 1099511627776) (h0 : 0 < a.length) :
    Calls Try.prog 96 #[.slice s.a s.len s.cap, .int .i64 0] w (RetRight w a.length 1 (valL a)) := by
  have da : Dig a := ha.2
  obtain ⟨ao, ca, rfl, hca, hcam, hopa⟩ := ha.open_
  obtain ⟨ba, oa, rfl, hba, ga⟩ := hopa h0
  have g0 := ga 0 h0
  simp only [Nat.add_zero] at g0
  have hbl := hba.lt
  have hne : ¬ a = [] := by rintro rfl; simp at h0
  go_enter Try.func96, Try.ntmps96
  go_wp2
  all_goals
    go_loop [6, 39] (fun b i => (∃ B : Bool, b = .bool B) ∧ i = .int .i64 0) (fun _ _ => 0)
    case atStart => exact ⟨⟨_, rfl⟩, rfl⟩
    case round =>
      obtain ⟨⟨B, rfl⟩, rfl⟩ := hrel
      go_wp2_with (at_make; refine wpL_make _ rfl _ _ 22 rfl 93 .u32 4 Try.underlying22 infoU32 _ _ _ _ a.length rfl rfl (by omega) (by omega) (by omega) (by omega) ?_; intro w1 hown1 hx1 hlt1)
      go_loopw [57] (fun i wr => ∃ (k : Nat) (o : List Int), i = .int .i64 k ∧ k ≤ a.length ∧ Own wr w.heap.size 93 .u32 o ∧ o.length = a.length ∧ Dig o ∧
          valL (o.take k) = valL (a.take k) ∧ Ext w wr) (fun i _ => a.length - (intOf i).toNat)
      case atStart => exact ⟨0, _, rfl, Nat.zero_le _, hown1, by simp, dig_zeros _, by simp, hx1⟩
      case round =>
        obtain ⟨k, o, rfl, hk, hown, hol, hdo, hval, hx⟩ := hrel
        clear hown1
        replace hval := hd_ hval
        replace hol := hd_ hol
        by_cases hlt : k < a.length
        · have gc := (hx.cell (p := ⟨ba, oa + k, none⟩) hbl).trans (ga k hlt)
          have fa := da.at_ k
          have go := hown.cell (i := k) (by have := hol.out; omega)
          have gf := hown.frozen k
          by_cases hlt2 : k + 1 < a.length
          all_goals
            go_wp2
            go_roundw
            case rel =>
              refine ⟨k + 1, o.set k _, rfl, by omega, hown.set k _, by rw [List.length_set]; exact hol.out, hdo.set k fa, ?_, hx.st (Nat.le_refl _) _⟩
              rw [valL_set (by have := hol.out; omega), valL_take_succ, hval.out]
            case measure => first | (simp [intOf]; done) | (simp [intOf]; omega)
        · obtain rfl : k = a.length := by omega
          go_wp2
          go_ret2
          have h1 := hval.out
          rw [List.take_of_length_le (by have := hol.out; omega), List.take_of_length_le (Nat.le_refl _)] at h1
          refine ⟨⟨some ⟨w.heap.size, 0, none⟩, a.length, a.length⟩, o, _, rfl, ?_, hol.out, by rw [Int.one_mul]; exact h1, hx⟩
          have := hown.isL (by have := hol.out; omega) hdo
          rw [hol.out] at this
          exact this

theorem right_any (s : SV) (a : List Int) (r : Nat) (w : World) (ha : IsL w s .u32 a) (hla : a.length ≤ 1099511627776) (h0 : 0 < a.length) (hr : r < 32) :
    Calls Try.prog 96 #[.slice s.a s.len s.cap, .int .i64 r] w (RetRight w a.length (2 ^ r) (valL a - at_ a 0 % 2 ^ r)) := by
  rcases Nat.eq_zero_or_pos r with h | h
  · subst h
    have := right_zero s a w ha hla h0
    rw [Int.pow_zero, Int.emod_one, Int.sub_zero]
    exact this
  · exact right_pos s a r w ha hla h0 hr h

end Go.Proofs.Ytbbidekjbgjooaa
end

section
namespace Go.Proofs.Ytbbidekjbgjooaa
open Go.RowKit

/-- Is the text a number's as it stands? -/
def numOk (t : List UInt8) : Bool := (numLen true t).2 && decide (t.length ≤ (numLen true t).1)
/-- The number that a text is read as. -/
def numVal (t : List UInt8) : Int := sg (isNeg t) (readN (body t))
/-- What Parse answers: the number, the code, the place. -/
def parseZ (t : List UInt8) : Int := if numOk t then (if (body t).length ≤ 1000 then numVal t else 0) else 0
def parseC (t : List UInt8) : Int := if numOk t then (if (body t).length ≤ 1000 then 0 else 2) else 1
def parseP (t : List UInt8) : Int := if numOk t then 0 else (numLen true t).1

theorem body_length (t : List UInt8) : (body t).length = t.length - (if isNeg t then 1 else 0) := by
  unfold body; split <;> simp

theorem isNeg_pos {t : List UInt8} (h : isNeg t = true) : 1 ≤ t.length := by
  rcases Nat.eq_zero_or_pos t.length with h0 | h0
  · rw [List.eq_nil_of_length_eq_zero h0] at h; cases h
  · exact h0

theorem digRun_all {l : List UInt8} (h : l.length ≤ digRun l) : ∀ j, j < l.length → 48 ≤ byt l j ∧ byt l j ≤ 57 := by
  induction l with
  | nil => intro j hj; simp at hj
  | cons c t ih =>
    have hd : isDig c = true := by
      cases hc : isDig c
      · simp [digRun, hc] at h
      · rfl
    have ht : t.length ≤ digRun t := by simpa [digRun, hd] using h
    intro j hj
    match j with
    | 0 => rw [byt_cons_zero]; unfold isDig at hd; simpa using hd
    | j + 1 => rw [byt_cons_succ]; exact ih ht j (by simpa using hj)

/-- A number's text: digits; the first is not 0, but where it is the one. -/
structure Canon (l : List UInt8) : Prop where
  digs : ∀ j, j < l.length → 48 ≤ byt l j ∧ byt l j ≤ 57
  pos : 0 < l.length
  lead : byt l 0 = 48 → l.length = 1

theorem numOk_canon {t : List UInt8} (h : numOk t = true) : Canon (body t) ∧ (isNeg t = true → byt (body t) 0 ≠ 48) := by
  unfold numOk at h
  rw [Bool.and_eq_true, decide_eq_true_eq] at h
  obtain ⟨h1, h2⟩ := h
  have hbd : ∀ f, (if true && isNeg t then 1 else 0) = f → t.drop f = body t := by
    intro f hf
    subst hf
    cases hn : isNeg t
    · rw [body_pos hn]; simp
    · rw [body_neg hn]; simp
  cases h48 : ((t.drop (if true && isNeg t then 1 else 0)).head? == some 48)
  · have hr := numLen_run (sg := true) rfl h48 rfl
    rw [hr] at h1 h2
    rw [hbd _ rfl] at h48 h1 h2
    simp only [decide_eq_true_eq] at h1 h2
    have hb := body_length t
    have hlen : (body t).length ≤ digRun (body t) := by
      cases hn : isNeg t
      · simp [hn] at hb h2; omega
      · have := isNeg_pos hn; simp [hn] at hb h2; omega
    have hpos : 0 < (body t).length := by have := digRun_le (body t); omega
    have hne : byt (body t) 0 ≠ 48 := by
      intro e
      match hbt : body t, hpos with
      | c :: r, _ =>
        rw [hbt] at e h48
        rw [byt_cons_zero] at e
        have : c = 48 := UInt8.toNat_inj.1 e
        subst this
        simp at h48
    exact ⟨⟨digRun_all hlen, hpos, fun e => absurd e hne⟩, fun _ => hne⟩
  · have hr := numLen_zero (sg := true) rfl h48
    cases hn : isNeg t
    · rw [hr] at h1 h2
      simp [hn] at h1 h2
      simp [hn] at h48
      rw [body_pos hn]
      match t, h2, h48 with
      | [c], _, h48 =>
        simp at h48
        subst h48
        refine ⟨⟨fun j hj => ?_, by simp, fun _ => rfl⟩, fun h => by cases h⟩
        match j, hj with
        | 0, _ => rw [byt_cons_zero]; decide
    · rw [hr] at h1
      simp [hn] at h1

theorem readN_bound {t : List UInt8} (h : ∀ j, j < t.length → 48 ≤ byt t j ∧ byt t j ≤ 57) : 0 ≤ readN t ∧ readN t < 10 ^ t.length := by
  have : ∀ n, n ≤ t.length → 0 ≤ readN (t.take n) ∧ readN (t.take n) < 10 ^ n := by
    intro n
    induction n with
    | zero => intro _; simp [readN]
    | succ n ih =>
      intro hn
      have h1 := ih (by omega)
      have h2 := h n (by omega)
      rw [readN_take_succ (by omega), Int.pow_succ]
      omega
  have := this t.length (Nat.le_refl _)
  rwa [List.take_of_length_le (Nat.le_refl _)] at this

theorem pow10_bt (n : Nat) : (10 : Nat) ^ n ≤ 2 ^ (4 * n) := by
  rw [Nat.pow_mul]
  exact Nat.pow_le_pow_left (by omega) n

theorem readN_bt {t : List UInt8} (h : ∀ j, j < t.length → 48 ≤ byt t j ∧ byt t j ≤ 57) : Bt (readN t) (4 * t.length) := by
  have h1 := readN_bound h
  have h2 := pow10_bt t.length
  have e : (10 : Int) ^ t.length = ((10 ^ t.length : Nat) : Int) := by rw [Int.natCast_pow]; rfl
  rw [e] at h1
  unfold Bt
  omega

theorem sg_bt {n : Bool} {z : Int} {k : Nat} (h : Bt z k) : Bt (sg n z) k := h.le (by rw [natAbs_sg]; exact Nat.le_refl _)

theorem numVal_bt {t : List UInt8} (h : numOk t = true) : Bt (numVal t) (4 * (body t).length) := sg_bt (readN_bt (numOk_canon h).1.digs)

theorem parseZ_bt (t : List UInt8) : Bt (parseZ t) 4000 := by
  unfold parseZ
  split
  · rename_i h
    split
    · rename_i hl
      exact (numVal_bt h).mono (by omega)
    · exact bt_zero _
  · exact bt_zero _

/-- The call answers a number and a fault. -/
def RetIF (w : World) (z c p : Int) (e : Ending) (w' : World) : Prop :=
  ∃ x : IV, e = .returned (.tuple #[.agg #[.bool x.n, .slice x.s.a x.s.len x.s.cap], .agg #[.int .i64 c, .int .i64 p]]) ∧ IsI w' x z ∧ Ext w w'

set_option maxRecDepth 100000 in
set_option maxHeartbeats 1000000 in
theorem parse_any (t : List UInt8) (w : World) (hs : t.length ≤ 9223372036854775807) :
    Calls Try.prog 9 #[.string (bs t)] w (RetIF w (parseZ t) (parseC t) (parseP t)) := by
  have hle := numLen_le true t
  have he0 := ((Ext.rf w).al (Obj.cells #[Value.bool false, Value.slice none 0 0] 24)).al (Obj.cells #[Value.int .i64 0, Value.int .i64 0] 26)
  by_cases h1 : (numLen true t).2 = true
  · by_cases h2 : (numLen true t).1 < t.length
    · have hok : numOk t = false := by simp [numOk]; intro _; omega
      have HZ : Hd (parseZ t = 0) := hd_ (by simp [parseZ, hok])
      have HC : Hd (parseC t = 1) := hd_ (by simp [parseC, hok])
      have HP : Hd (parseP t = (numLen true t).1) := hd_ (by simp [parseP, hok])
      clear hok
      go_enter Try.func9, Try.ntmps9
      go_wp2_with (go_at_call 62; ((with_reducible refine (number_any _ _ _ hs).mono ?_); rintro e w1 ⟨rfl, hx⟩; obtain ⟨hc1, hf1⟩ := bcell hx))
      have k0 : w1.cell? ⟨w.heap.size, 0, none⟩ = some (Value.bool false) := cell_later hx (by simp [go_sem])
      have k1 : w1.cell? ⟨w.heap.size, 1, none⟩ = some (Value.slice none 0 0) := cell_later hx (by simp [go_sem])
      have k2 : w1.cell? ⟨w.heap.size + 1, 0, none⟩ = some (Value.int .i64 0) := cell_later hx (by simp [go_sem])
      have k3 : w1.cell? ⟨w.heap.size + 1, 1, none⟩ = some (Value.int .i64 0) := cell_later hx (by simp [go_sem])
      refine bodyPost_ret (v := .tuple #[.agg #[.bool false, .slice none 0 0], .agg #[.int .i64 1, .int .i64 ((numLen true t).1 : Int)]]) (by simp [results, Try.results9, go_sem, k0, k1, k2, k3]) rfl ?_
      rw [HC.out, HP.out, HZ.out]
      exact ⟨⟨false, ⟨none, 0, 0⟩⟩, rfl, isI_zero _, (((he0.tr hx).st2 (by simp) _ _).st2 (by simp) _ _)⟩
    · have hok : numOk t = true := by simp [numOk, h1]; omega
      have hcan := (numOk_canon hok).1
      have hbl := body_length t
      by_cases h3 : (body t).length ≤ 1000
      · have HZ : Hd (parseZ t = numVal t) := hd_ (by simp [parseZ, hok, h3])
        have HC : Hd (parseC t = 0) := hd_ (by simp [parseC, hok, h3])
        have HP : Hd (parseP t = 0) := hd_ (by simp [parseP, hok])
        have HS : Hd (Sm (numVal t)) := hd_ ((numVal_bt hok).sm (by omega))
        have hlb : Hd ((decide ((body t).length < t.length)) = isNeg t) := hd_ (by
          cases hn : isNeg t
          · rw [hn] at hbl; simp at hbl; simp; omega
          · have := isNeg_pos hn; rw [hn] at hbl; simp at hbl; simp; omega)
        replace hcan := hd_ hcan
        clear hok hbl
        go_enter Try.func9, Try.ntmps9
        go_wp2_with (first
          | (go_at_call 62; ((with_reducible refine (number_any _ _ _ hs).mono ?_); rintro e w1 ⟨rfl, hx⟩; obtain ⟨hc1, hf1⟩ := bcell hx))
          | (go_at_call 63; ((with_reducible refine (trimPre _ _ hs).mono ?_); rintro e w2 ⟨rfl, rfl⟩))
          | (go_at_call 65; ((with_reducible refine (digits_any _ _ (by omega) hcan.out.digs).mono ?_); rintro e w2 ⟨s2, l2, rfl, hl2, hv2, hx2⟩)))
        have hE : sg (decide ((body t).length < t.length)) (valL l2) = numVal t := by rw [hlb.out, hv2]; rfl
        refine (made_any _ s2 l2 _ hl2 (by rw [hE]; exact HS.out)).mono ?_
        rintro e w3 ⟨y, rfl, hy, hx3⟩
        rw [hE] at hy
        clear hE hc1 hf1
        replace hx := (hx.tr hx2).tr hx3
        clear hx2 hx3 hl2
        obtain ⟨hc1, hf1⟩ := bcell hx
        obtain ⟨w1, rfl⟩ : ∃ w1, w1 = w3 := ⟨_, rfl⟩
        have k0 : w1.cell? ⟨w.heap.size, 0, none⟩ = some (Value.bool false) := cell_later hx (by simp [go_sem])
        have k1 : w1.cell? ⟨w.heap.size, 1, none⟩ = some (Value.slice none 0 0) := cell_later hx (by simp [go_sem])
        have k2 : w1.cell? ⟨w.heap.size + 1, 0, none⟩ = some (Value.int .i64 0) := cell_later hx (by simp [go_sem])
        have k3 : w1.cell? ⟨w.heap.size + 1, 1, none⟩ = some (Value.int .i64 0) := cell_later hx (by simp [go_sem])
        go_wp2
        refine bodyPost_ret (v := .tuple #[.agg #[.bool y.n, .slice y.s.a y.s.len y.s.cap], .agg #[.int .i64 0, .int .i64 0]]) (by simp [results, Try.results9, go_sem, k0, k1, k2, k3]) rfl ?_
        rw [HC.out, HP.out, HZ.out]
        exact ⟨y, rfl, hy.kept ((((Kept.rf _ _).st2 (T' := 24) (Ty.keep ((Ty.new' (by simp)).al _) hx) (by decide) _ _)).st2 (T' := 26) (((Ty.keep (Ty.new' (by simp)) hx).st _ _).st _ _) (by decide) _ _), (((he0.tr hx).st2 (by simp) _ _).st2 (by simp) _ _)⟩
      · have HZ : Hd (parseZ t = 0) := hd_ (by simp [parseZ, hok, h3])
        have HC : Hd (parseC t = 2) := hd_ (by simp [parseC, hok, h3])
        have HP : Hd (parseP t = 0) := hd_ (by simp [parseP, hok])
        clear hok hcan hbl
        go_enter Try.func9, Try.ntmps9
        go_wp2_with (first
          | (go_at_call 62; ((with_reducible refine (number_any _ _ _ hs).mono ?_); rintro e w1 ⟨rfl, hx⟩; obtain ⟨hc1, hf1⟩ := bcell hx))
          | (go_at_call 63; ((with_reducible refine (trimPre _ _ hs).mono ?_); rintro e w2 ⟨rfl, rfl⟩)))
        have k0 : w1.cell? ⟨w.heap.size, 0, none⟩ = some (Value.bool false) := cell_later hx (by simp [go_sem])
        have k1 : w1.cell? ⟨w.heap.size, 1, none⟩ = some (Value.slice none 0 0) := cell_later hx (by simp [go_sem])
        have k2 : w1.cell? ⟨w.heap.size + 1, 0, none⟩ = some (Value.int .i64 0) := cell_later hx (by simp [go_sem])
        have k3 : w1.cell? ⟨w.heap.size + 1, 1, none⟩ = some (Value.int .i64 0) := cell_later hx (by simp [go_sem])
        refine bodyPost_ret (v := .tuple #[.agg #[.bool false, .slice none 0 0], .agg #[.int .i64 2, .int .i64 0]]) (by simp [results, Try.results9, go_sem, k0, k1, k2, k3]) rfl ?_
        rw [HC.out, HP.out, HZ.out]
        exact ⟨⟨false, ⟨none, 0, 0⟩⟩, rfl, isI_zero _, (((he0.tr hx).st2 (by simp) _ _).st2 (by simp) _ _)⟩
  · have hok : numOk t = false := by simp [numOk, h1]
    have HZ : Hd (parseZ t = 0) := hd_ (by simp [parseZ, hok])
    have HC : Hd (parseC t = 1) := hd_ (by simp [parseC, hok])
    have HP : Hd (parseP t = (numLen true t).1) := hd_ (by simp [parseP, hok])
    replace h1 : (numLen true t).2 = false := by simpa using h1
    clear hok
    go_enter Try.func9, Try.ntmps9
    go_wp2_with (go_at_call 62; ((with_reducible refine (number_any _ _ _ hs).mono ?_); rintro e w1 ⟨rfl, hx⟩; obtain ⟨hc1, hf1⟩ := bcell hx))
    have k0 : w1.cell? ⟨w.heap.size, 0, none⟩ = some (Value.bool false) := cell_later hx (by simp [go_sem])
    have k1 : w1.cell? ⟨w.heap.size, 1, none⟩ = some (Value.slice none 0 0) := cell_later hx (by simp [go_sem])
    have k2 : w1.cell? ⟨w.heap.size + 1, 0, none⟩ = some (Value.int .i64 0) := cell_later hx (by simp [go_sem])
    have k3 : w1.cell? ⟨w.heap.size + 1, 1, none⟩ = some (Value.int .i64 0) := cell_later hx (by simp [go_sem])
    refine bodyPost_ret (v := .tuple #[.agg #[.bool false, .slice none 0 0], .agg #[.int .i64 1, .int .i64 ((numLen true t).1 : Int)]]) (by simp [results, Try.results9, go_sem, k0, k1, k2, k3]) rfl ?_
    rw [HC.out, HP.out, HZ.out]
    exact ⟨⟨false, ⟨none, 0, 0⟩⟩, rfl, isI_zero _, (((he0.tr hx).st2 (by simp) _ _).st2 (by simp) _ _)⟩

end Go.Proofs.Ytbbidekjbgjooaa
end

section
namespace Go.Proofs.Ytbbidekjbgjooaa
open Go.RowKit

/-- Of what was there, only block b may have changed. -/
structure Only (b : Nat) (w w' : World) : Prop where
  os : w'.os = w.os
  tape : w'.tape = w.tape
  output : w'.output = w.output
  size : w.heap.size ≤ w'.heap.size
  block : ∀ k, k ≠ b → k < w.heap.size → w'.heap[k]? = w.heap[k]?

theorem Only.rf (b : Nat) (w : World) : Only b w w := ⟨rfl, rfl, rfl, Nat.le_refl _, fun _ _ _ => rfl⟩
theorem Only.tr {b : Nat} {x y z : World} (h : Only b x y) (k : Only b y z) : Only b x z :=
  ⟨k.os.trans h.os, k.tape.trans h.tape, k.output.trans h.output, Nat.le_trans h.size k.size, fun i hi hl => (k.block i hi (Nat.lt_of_lt_of_le hl h.size)).trans (h.block i hi hl)⟩
theorem Only.of {b : Nat} {w w' : World} (e : Ext w w') : Only b w w' := ⟨e.os, e.tape, e.output, e.size, fun k _ hl => e.block k hl⟩
theorem Only.dr {b : Nat} {w w' : World} (h : Only b w w') : Only b w w'.drew := ⟨h.os, h.tape, h.output, h.size, h.block⟩
theorem Only.st {b : Nat} {w w' : World} (h : Only b w w') (i : Nat) (u : Value) : Only b w (w'.setCell ⟨b, i, none⟩ u) := by
  refine ⟨h.os, h.tape, h.output, ?_, fun k hk hl => (Below.heap_setCell w' _ u k hk).trans (h.block k hk hl)⟩
  have := h.size
  simpa [World.setCell] using this
theorem Only.ext {b : Nat} {a w w' : World} (h : Only b w w') (e : Ext a w) (hb : a.heap.size ≤ b) : Ext a w' :=
  ⟨h.os.trans e.os, h.tape.trans e.tape, h.output.trans e.output, Nat.le_trans e.size h.size, fun k hk => (h.block k (by omega) (Nat.lt_of_lt_of_le hk e.size)).trans (e.block k hk)⟩
theorem Only.cell {b : Nat} {w w' : World} (h : Only b w w') {p : Addr} (hp : p.block ≠ b) (hl : p.block < w.heap.size) : w'.cell? p = w.cell? p := World.cell?_of_block (w := w) (h.block p.block hp hl)
theorem Only.frozen {b : Nat} {w w' : World} (h : Only b w w') {p : Addr} (hp : p.block ≠ b) (hl : p.block < w.heap.size) : w'.frozen? p = w.frozen? p := World.frozen?_of_block (w := w) (h.block p.block hp hl)
theorem Own.only {b c : Nat} {w w' : World} {T : TypeId} {k : IntKind} {l : List Int} (h : Own w b T k l) (e : Only c w w') (hne : b ≠ c) : Own w' b T k l := (e.block b hne h.lt).trans h

theorem and32 {x : Int} (h : 0 ≤ x ∧ x ≤ 18446744073709551615) : bits BinOp.and IntKind.u64 x 4294967295 = x % 4294967296 := by
  rw [u64_and _ _ (by omega) (by omega) (by omega) (by omega)]
  obtain ⟨n, rfl⟩ := Int.eq_ofNat_of_zero_le h.1
  have e : ((n : Int).toNat &&& (4294967295 : Int).toNat) = n % 4294967296 := Nat.and_two_pow_sub_one_eq_mod n 32
  rw [e]
  omega

/-- One place of a difference: what stays, what is borrowed. -/
theorem take_cell {u c b : Int} (hu : 0 ≤ u ∧ u ≤ 4294967295) (hc : 0 ≤ c ∧ c ≤ 18446744073709551615) (hb : 0 ≤ b ∧ b ≤ 1) :
    IntKind.u64.wrap (IntKind.u64.wrap (u - bits BinOp.and IntKind.u64 c 4294967295) - b) % 4294967296 = (u - c % 4294967296 - b) % 4294967296 ∧
    IntKind.u64.wrap (IntKind.u64.wrap (u - bits BinOp.and IntKind.u64 c 4294967295) - b) / 9223372036854775808 = bor u (c % 4294967296) b := by
  rw [and32 hc]
  have h : 0 ≤ c % 4294967296 ∧ c % 4294967296 ≤ 4294967295 := by omega
  generalize c % 4294967296 = d at *
  rw [IntKind.wrap_u64, IntKind.wrap_u64]
  unfold bor
  split <;> omega

theorem bor_mod {u d b : Int} (hu : 0 ≤ u ∧ u ≤ 4294967295) (hd : 0 ≤ d ∧ d ≤ 4294967295) (hb : 0 ≤ b ∧ b ≤ 1) : (u - d - b) % 4294967296 = u - d - b + 4294967296 * bor u d b := by
  unfold bor; split <;> omega

theorem take_step {V L0 u cc bb bo v g bj bk W d : Int} (h : V = L0 + bj * (bk * (cc + bb) - g * W)) (hd : d = u - (cc + v * g) % 4294967296 - bb + 4294967296 * bo) :
    V + (d - u) * (bj * bk) = L0 + bj * (bk * 4294967296 * ((cc + v * g) / 4294967296 + bo) - g * (W + v * bk)) := by
  have h1 := Int.mul_ediv_add_emod (cc + v * g) 4294967296
  generalize (cc + v * g) / 4294967296 = q at *
  generalize (cc + v * g) % 4294967296 = s at *
  subst h; subst hd
  have e : s = cc + v * g - 4294967296 * q := by omega
  subst e
  grind

theorem take_end {V L0 u cc bb bo g bj bk W d : Int} (h : V = L0 + bj * (bk * (cc + bb) - g * W)) (hd : d = u - cc - bb + 4294967296 * bo) :
    V + (d - u) * (bj * bk) = L0 - bj * (g * W) + bj * (bk * 4294967296) * bo := by
  subst h; subst hd
  grind

theorem end_cell {u c b : Int} (hu : 0 ≤ u ∧ u ≤ 4294967295) (hc : 0 ≤ c ∧ c ≤ 4294967295) (hb : 0 ≤ b ∧ b ≤ 1) :
    IntKind.u64.wrap (IntKind.u64.wrap (u - c) - b) % 4294967296 = (u - c - b) % 4294967296 ∧
    IntKind.u64.wrap (IntKind.u64.wrap (u - c) - b) / 9223372036854775808 = bor u c b := by
  rw [IntKind.wrap_u64, IntKind.wrap_u64]
  unfold bor
  split <;> omega

theorem bor_cases (u d b : Int) : bor u d b = 0 ∨ bor u d b = 1 := by unfold bor; split <;> simp

/-- The call has changed block b, from place j on, to the number z (of all of it); and tells whether it was too much. -/
def RetTake (w : World) (b j n : Nat) (L : List Int) (z top : Int) (e : Ending) (w' : World) : Prop :=
  ∃ (L' : List Int) (c : Int), e = .returned (.bool (decide (0 < c))) ∧ (c = 0 ∨ c = 1) ∧ Own w' b 93 .u32 L' ∧ L'.length = L.length ∧ Dig L' ∧ (∀ i, j + n < i → at_ L' i = at_ L i) ∧ valL L' = z + top * c ∧ Only b w w'

set_option maxRecDepth 100000 in
set_option maxHeartbeats 1000000 in
theorem takeAway_any (b j n bv cu cv : Nat) (L lv : List Int) (g : Int) (w : World) (hu : Own w b 93 .u32 L) (hdu : Dig L) (hj : j + n < L.length) (_hL : L.length ≤ 1099511627776) (hcu : n + 1 ≤ cu)
    (hcm : cu ≤ 9223372036854775807) (hv : Own w bv 93 .u32 lv) (hdv : Dig lv) (hn : n ≤ lv.length) (hne : bv ≠ b) (hg : 0 ≤ g ∧ g ≤ 4294967295) :
    Calls Try.prog 94 #[.slice (some ⟨b, j, none⟩) (n + 1) cu, .slice (some ⟨bv, 0, none⟩) n cv, .int .u32 g] w
      (RetTake w b j n L (valL L - 4294967296 ^ j * (g * valL (lv.take n))) (4294967296 ^ j * 4294967296 ^ (n + 1))) := by
  go_enter Try.func94, Try.ntmps94
  go_wp2
  go_loopw [7, 8, 15] (fun bo ca i wr => ∃ (k : Nat) (bb cc : Int) (o : List Int), bo = .int .u64 bb ∧ ca = .int .u64 cc ∧ i = .int .i64 k ∧ k ≤ n ∧ (0 ≤ bb ∧ bb ≤ 1) ∧ (0 ≤ cc ∧ cc ≤ 4294967295) ∧ Own wr b 93 .u32 o ∧ o.length = L.length ∧ Dig o ∧
      valL o = valL L + 4294967296 ^ j * (4294967296 ^ k * (cc + bb) - g * valL (lv.take k)) ∧ (∀ i, j + k ≤ i → at_ o i = at_ L i) ∧ Only b w wr) (fun _ _ i _ => n - (intOf i).toNat)
  case atStart => exact ⟨0, 0, 0, L, rfl, rfl, rfl, Nat.zero_le _, by omega, by omega, hu, rfl, hdu, by simp [valL], fun _ _ => rfl, Only.rf _ _⟩
  case round =>
    obtain ⟨k, bb, cc, o, rfl, rfl, rfl, hk, hbb, hcc, hown, hol, hdo, hval, hsame, hx⟩ := hrel
    replace hval := hd_ hval
    replace hol := hd_ hol
    replace hsame := hd_ hsame
    by_cases hlt : k < n
    · have gv := (hv.only hx hne).cell (i := k) (by omega)
      have fv := hdv.at_ k
      have go := hown.cell (i := j + k) (by have := hol.out; omega)
      have gf := hown.frozen (j + k)
      have fo := hdo.at_ (j + k)
      have fm := mul_bound fv hg
      go_wp2
      have hcc2 : 0 ≤ cc + at_ lv k * g ∧ cc + at_ lv k * g ≤ 18446744069414584320 := by omega
      obtain ⟨c1, c2⟩ := take_cell (u := at_ o (j + k)) (c := cc + at_ lv k * g) (b := bb) fo (by omega) hbb
      have c3 := bor_mod (u := at_ o (j + k)) (d := (cc + at_ lv k * g) % 4294967296) (b := bb) fo (by omega) hbb
      rw [c1, c2]
      go_roundw
      case rel =>
        refine ⟨k + 1, _, _, o.set (j + k) _, rfl, rfl, rfl, by omega, bor_01 _ _ _, by omega, hown.set _ _, by rw [List.length_set]; exact hol.out, hdo.set _ (by omega), ?_, fun i hi => ?_, hx.st _ _⟩
        · rw [valL_set_full (by have := hol.out; omega), valL_take_succ, pow_add', Int.pow_succ]
          exact take_step hval.out c3
        · rw [at_set_ne (by omega)]
          exact hsame.out i (by omega)
      case measure => first | (simp [intOf]; done) | (simp [intOf]; omega)
    · obtain rfl : k = n := by omega
      have go := hown.cell (i := j + k) (by have := hol.out; omega)
      have gf := hown.frozen (j + k)
      have fo := hdo.at_ (j + k)
      go_wp2
      obtain ⟨c1, c2⟩ := end_cell (u := at_ o (j + k)) (c := cc) (b := bb) fo hcc hbb
      have c3 := bor_mod (u := at_ o (j + k)) (d := cc) (b := bb) fo hcc hbb
      rw [c1, c2]
      go_ret
      refine ⟨o.set (j + k) _, bor (at_ o (j + k)) cc bb, rfl, bor_cases _ _ _, hown.set _ _, by rw [List.length_set]; exact hol.out, hdo.set _ (by omega), fun i hi => ?_, ?_, hx.st _ _⟩
      · rw [at_set_ne (by omega)]
        exact hsame.out i (by omega)
      · rw [valL_set_full (by have := hol.out; omega), pow_add', Int.pow_succ]
        exact take_end hval.out c3

theorem give_step {V L0 u v c bj bk W d d' : Int} (h : V = L0 + bj * (W - bk * c)) (hd : d = (u + v + c) % 4294967296) (hd' : d' = (u + v + c) / 4294967296) :
    V + (d - u) * (bj * bk) = L0 + bj * (W + v * bk - bk * 4294967296 * d') := by
  have h1 := Int.mul_ediv_add_emod (u + v + c) 4294967296
  rw [← hd, ← hd'] at h1
  have e : d = u + v + c - 4294967296 * d' := by omega
  subst h; subst e
  grind

theorem give_end {V L0 u c bj bk W d d' : Int} (h : V = L0 + bj * (W - bk * c)) (hd : d = (u + c) % 4294967296) (hd' : d' = (u + c) / 4294967296) :
    V + (d - u) * (bj * bk) = L0 + bj * W - bj * (bk * 4294967296) * d' := by
  have h1 := Int.mul_ediv_add_emod (u + c) 4294967296
  rw [← hd, ← hd'] at h1
  have e : d = u + c - 4294967296 * d' := by omega
  subst h; subst e
  grind

/-- The call has changed block b, from place j on, to the number z (of all of it), but for a last carry. -/
def RetGive (w : World) (b j n : Nat) (L : List Int) (z top : Int) (e : Ending) (w' : World) : Prop :=
  ∃ (L' : List Int) (c : Int), e = .returned (.tuple #[]) ∧ (c = 0 ∨ c = 1) ∧ Own w' b 93 .u32 L' ∧ L'.length = L.length ∧ Dig L' ∧ (∀ i, j + n < i → at_ L' i = at_ L i) ∧ valL L' = z - top * c ∧ Only b w w'

set_option maxRecDepth 100000 in
set_option maxHeartbeats 1000000 in
theorem giveBack_any (b j n bv cu cv : Nat) (L lv : List Int) (w : World) (hu : Own w b 93 .u32 L) (hdu : Dig L) (hj : j + n < L.length) (_hL : L.length ≤ 1099511627776) (hcu : n + 1 ≤ cu)
    (hcm : cu ≤ 9223372036854775807) (hv : Own w bv 93 .u32 lv) (hdv : Dig lv) (hn : n ≤ lv.length) (hne : bv ≠ b) :
    Calls Try.prog 95 #[.slice (some ⟨b, j, none⟩) (n + 1) cu, .slice (some ⟨bv, 0, none⟩) n cv] w
      (RetGive w b j n L (valL L + 4294967296 ^ j * valL (lv.take n)) (4294967296 ^ j * 4294967296 ^ (n + 1))) := by
  go_enter Try.func95, Try.ntmps95
  go_wp2
  go_loopw [4, 9] (fun ca i wr => ∃ (k : Nat) (cc : Int) (o : List Int), ca = .int .u32 cc ∧ i = .int .i64 k ∧ k ≤ n ∧ (0 ≤ cc ∧ cc ≤ 1) ∧ Own wr b 93 .u32 o ∧ o.length = L.length ∧ Dig o ∧
      valL o = valL L + 4294967296 ^ j * (valL (lv.take k) - 4294967296 ^ k * cc) ∧ (∀ i, j + k ≤ i → at_ o i = at_ L i) ∧ Only b w wr) (fun _ i _ => n - (intOf i).toNat)
  case atStart => exact ⟨0, 0, L, rfl, rfl, Nat.zero_le _, by omega, hu, rfl, hdu, by simp [valL], fun _ _ => rfl, Only.rf _ _⟩
  case round =>
    obtain ⟨k, cc, o, rfl, rfl, hk, hcc, hown, hol, hdo, hval, hsame, hx⟩ := hrel
    replace hval := hd_ hval
    replace hol := hd_ hol
    replace hsame := hd_ hsame
    by_cases hlt : k < n
    · have gv := (hv.only hx hne).cell (i := k) (by omega)
      have fv := hdv.at_ k
      have go := hown.cell (i := j + k) (by have := hol.out; omega)
      have gf := hown.frozen (j + k)
      have fo := hdo.at_ (j + k)
      go_wp2_with (go_at_call 88; refine (add32 _ _ _ _ fo fv hcc).mono ?_; rintro e w' ⟨rfl, rfl⟩)
      go_roundw
      case rel =>
        refine ⟨k + 1, _, o.set (j + k) _, rfl, rfl, by omega, by omega, hown.set _ _, by rw [List.length_set]; exact hol.out, hdo.set _ (by omega), ?_, fun i hi => ?_, hx.st _ _⟩
        · rw [valL_set_full (by have := hol.out; omega), valL_take_succ, pow_add', Int.pow_succ]
          exact give_step hval.out rfl rfl
        · rw [at_set_ne (by omega)]
          exact hsame.out i (by omega)
      case measure => first | (simp [intOf]; done) | (simp [intOf]; omega)
    · obtain rfl : k = n := by omega
      have go := hown.cell (i := j + k) (by have := hol.out; omega)
      have gf := hown.frozen (j + k)
      have fo := hdo.at_ (j + k)
      go_wp2
      go_end0
      refine ⟨o.set (j + k) _, (at_ o (j + k) + cc) / 4294967296, rfl, by omega, hown.set _ _, by rw [List.length_set]; exact hol.out, hdo.set _ (by omega), fun i hi => ?_, ?_, hx.st _ _⟩
      · rw [at_set_ne (by omega)]
        exact hsame.out i (by omega)
      · rw [valL_set_full (by have := hol.out; omega), pow_add', Int.pow_succ, Int.mul_assoc]
        have := give_end (d := (at_ o (j + k) + cc) % 4294967296) hval.out rfl rfl
        rw [Int.mul_assoc] at this
        exact this

end Go.Proofs.Ytbbidekjbgjooaa
end

section
namespace Go.Proofs.Ytbbidekjbgjooaa
open Go.RowKit

/-- The byte of a digit. -/
def dch (d : Nat) : UInt8 := UInt8.ofNat (48 + d)
/-- The digits, the lowest first (of 0: none). -/
def rdec (n : Nat) : List UInt8 := if h : n = 0 then [] else dch (n % 10) :: rdec (n / 10)
termination_by n
decreasing_by omega
/-- The digits of a number. -/
def decN (n : Nat) : List UInt8 := if n = 0 then [48] else (rdec n).reverse
/-- The number as it is written. -/
def dec (z : Int) : List UInt8 := if z < 0 then 45 :: decN z.natAbs else decN z.natAbs

theorem rdec_zero : rdec 0 = [] := by rw [rdec]; rfl
theorem rdec_pos {n : Nat} (h : 0 < n) : rdec n = dch (n % 10) :: rdec (n / 10) := by rw [rdec, dif_neg (by omega)]
theorem dch_toNat {d : Nat} (h : d < 10) : (dch d).toNat = 48 + d := by
  unfold dch
  simp [UInt8.toNat_ofNat']
  omega
theorem dch_int {x : Nat} (h : x < 10) : (dch x).toNat = (48 + (x : Int)) := by rw [dch_toNat h]; omega

theorem readN_nil : readN [] = 0 := rfl

/-- Read and written. -/
theorem readN_rdec (n : Nat) : readN (rdec n).reverse = n := by
  induction n using Nat.strongRecOn with
  | ind n ih =>
    rcases Nat.eq_zero_or_pos n with h | h
    · subst h; rw [rdec_zero]; rfl
    · rw [rdec_pos h, List.reverse_cons, readN_snoc, ih (n / 10) (by omega), dch_toNat (by omega)]
      omega

theorem readN_decN (n : Nat) : readN (decN n) = n := by
  unfold decN
  split
  · rename_i h; subst h; rfl
  · exact readN_rdec n

theorem byt_mem {l : List UInt8} (h : ∀ c ∈ l, 48 ≤ c.toNat ∧ c.toNat ≤ 57) : ∀ j, j < l.length → 48 ≤ byt l j ∧ byt l j ≤ 57 := by
  intro j hj
  rw [byt_lt hj]
  exact h _ (List.getElem_mem hj)
theorem mem_byt {l : List UInt8} (h : ∀ j, j < l.length → 48 ≤ byt l j ∧ byt l j ≤ 57) : ∀ c ∈ l, 48 ≤ c.toNat ∧ c.toNat ≤ 57 := by
  intro c hc
  obtain ⟨j, hj, rfl⟩ := List.mem_iff_getElem.1 hc
  have := h j hj
  rwa [byt_lt hj] at this

theorem rdec_digs (n : Nat) : ∀ c ∈ rdec n, 48 ≤ c.toNat ∧ c.toNat ≤ 57 := by
  induction n using Nat.strongRecOn with
  | ind n ih =>
    rcases Nat.eq_zero_or_pos n with h | h
    · subst h; rw [rdec_zero]; intro c hc; cases hc
    · rw [rdec_pos h]
      intro c hc
      rcases List.mem_cons.1 hc with hc | hc
      · subst hc; rw [dch_toNat (by omega)]; omega
      · exact ih (n / 10) (by omega) c hc

theorem rdec_inj : ∀ (a : List UInt8), (∀ c ∈ a, 48 ≤ c.toNat ∧ c.toNat ≤ 57) → a.getLast? ≠ some 48 → a = rdec (readN a.reverse).toNat := by
  intro a
  induction a with
  | nil => intro _ _; rw [List.reverse_nil, readN_nil]; exact rdec_zero.symm
  | cons c t ih =>
    intro hd hl
    have hc := hd c (List.mem_cons_self ..)
    have ht : t = rdec (readN t.reverse).toNat := by
      by_cases e : t = []
      · subst e; rw [List.reverse_nil, readN_nil]; exact rdec_zero.symm
      · refine ih (fun x hx => hd x (List.mem_cons_of_mem _ hx)) ?_
        rwa [List.getLast?_cons_of_ne_nil e] at hl
    have hb : 0 ≤ readN t.reverse := (readN_bound (byt_mem (l := t.reverse) fun x hx => hd x (List.mem_cons_of_mem _ (List.mem_reverse.1 hx)))).1
    rw [List.reverse_cons, readN_snoc]
    obtain ⟨m, hm⟩ := Int.eq_ofNat_of_zero_le hb
    rw [hm] at ht ⊢
    have e : ((m : Int) * 10 + ((c.toNat : Int) - 48)).toNat = m * 10 + (c.toNat - 48) := by omega
    rw [e]
    simp only [Int.toNat_natCast] at ht
    have hpos : 0 < m * 10 + (c.toNat - 48) := by
      rcases Nat.eq_zero_or_pos m with h0 | h0
      · subst h0
        rw [rdec_zero] at ht
        subst ht
        rcases Nat.eq_zero_or_pos (c.toNat - 48) with h1 | h1
        · have : c = 48 := UInt8.toNat_inj.1 (by show c.toNat = 48; omega)
          subst this
          simp at hl
        · omega
      · omega
    rw [rdec_pos hpos, show (m * 10 + (c.toNat - 48)) % 10 = c.toNat - 48 by omega, show (m * 10 + (c.toNat - 48)) / 10 = m by omega, ← ht]
    congr 1
    apply UInt8.toNat_inj.1
    rw [dch_toNat (by omega)]
    omega

/-- A number's digits, written anew. -/
theorem decN_canon {l : List UInt8} (h : Canon l) : decN (readN l).toNat = l := by
  have hb := readN_bound h.digs
  by_cases h0 : byt l 0 = 48
  · have h1 := h.lead h0
    match l, h1, h0 with
    | [c], _, h0 =>
      rw [byt_cons_zero] at h0
      have : c = 48 := UInt8.toNat_inj.1 h0
      subst this
      rfl
  · have hr := rdec_inj l.reverse (fun c hc => mem_byt h.digs c (List.mem_reverse.1 hc)) (by
      rw [List.getLast?_reverse]
      intro e
      match l, e, h0 with
      | c :: t, e, h0 =>
        simp at e
        subst e
        exact h0 rfl)
    rw [List.reverse_reverse] at hr
    unfold decN
    split
    · rename_i hz
      rw [hz, rdec_zero] at hr
      have := h.pos
      rw [List.reverse_eq_nil_iff] at hr
      rw [hr] at this
      simp at this
    · rw [← hr, List.reverse_reverse]

/-- What is read is written as it was. -/
theorem dec_numVal {t : List UInt8} (h : numOk t = true) : dec (numVal t) = t := by
  obtain ⟨hc, hz⟩ := numOk_canon h
  have hb := readN_bound hc.digs
  have hd := decN_canon hc
  unfold numVal dec
  cases hn : isNeg t
  · simp only [sg, Bool.false_eq_true, if_false]
    rw [if_neg (by omega), show (readN (body t)).natAbs = (readN (body t)).toNat by omega, hd, body_pos hn]
  · have hpos : 0 < readN (body t) := by
      rcases Int.lt_or_le 0 (readN (body t)) with h1 | h1
      · exact h1
      · exfalso
        have e0 : readN (body t) = 0 := by omega
        rw [e0] at hd
        have := hz hn
        rw [← hd] at this
        exact this rfl
    simp only [sg, if_true]
    rw [if_pos (by omega), show (-readN (body t)).natAbs = (readN (body t)).toNat by omega, hd, body_neg hn]
    match t, hn with
    | c :: r, hn =>
      have : c = 45 := by simpa [isNeg] using hn
      subst this
      rfl

/-- Different numbers are written differently. -/
theorem dec_inj {a b : Int} (h : dec a = dec b) : a = b := by
  have hne : ∀ n, (decN n).head? ≠ some 45 := by
    intro n e
    have hd : ∀ c ∈ decN n, 48 ≤ c.toNat ∧ c.toNat ≤ 57 := by
      unfold decN; split
      · intro c hc; simp at hc; subst hc; decide
      · intro c hc; exact rdec_digs n c (List.mem_reverse.1 hc)
    have := hd 45 (List.mem_of_head? e)
    revert this; decide
  unfold dec at h
  split at h <;> split at h
  · have := congrArg readN (List.cons.inj h).2
    rw [readN_decN, readN_decN] at this; omega
  · exact absurd (by rw [← h]; rfl) (hne b.natAbs)
  · exact absurd (by rw [h]; rfl) (hne a.natAbs)
  · have := congrArg readN h
    rw [readN_decN, readN_decN] at this; omega

end Go.Proofs.Ytbbidekjbgjooaa
end
