/- Polynomials modulo a prime: the pieces are the irreducible factors. -/
import Derived.Test.YtlnhembcfhfpkaaFxHx
namespace Go.Proofs.Ytlnhembcfhfpkaa.Fx
open Go.RowKit Go.Proofs.Ytlnhembcfhfpkaa.M
set_option linter.unusedSimpArgs false
set_option linter.unusedVariables false
variable {P : Pr}
theorem sqf_dvd {f v : Po P} (hf : Sqf f) (h : ∀ q, Irr q → q ∣ f → q ∣ v) : f ∣ v := by
  by_cases hv : v = 0
  · rw [hv]; exact dvd_0 f
  · refine dvd_of_val hf.mo hv fun q hq => ?_
    have h1 := hf.sq q hq
    rcases Nat.eq_zero_or_pos (val q f) with h0 | h0
    · omega
    · have := (dvd_iff hq hv).1 (h q hq ((dvd_iff hq hf.mo.ne).2 h0))
      omega
theorem KerOk.pos {f : Po P} {B : List (Po P)} (hf : Sqf f) (h : KerOk f B) : 1 ≤ B.length := by
  obtain ⟨a, ha⟩ := h.sp 1 (by rw [dg_1]; have := hf.d2; omega) (by rw [pw_one, sub_self]; exact dvd_0 f)
  rcases Nat.eq_zero_or_pos B.length with h0 | h0
  · rw [h0] at ha
    exact absurd ha one_ne
  · exact h0
theorem pieces_many {f : Po P} {B o : List (Po P)} (hf : Sqf f) (hB : KerOk f B) (h : SI f o) (hc : ∀ v ∈ B, ∀ a, a < o.length → Cst v (at_ o a)) : B.length ≤ o.length := by
  rcases Nat.lt_or_ge o.length B.length with hlt | hge
  · exfalso
    have hb : ∀ i, i < B.length → B.getD i 0 ∈ B := fun i hi => by simp [hi]
    have hs : ∀ j i : Nat, ∃ s : Nat, i < B.length → j < o.length → at_ o j ∣ B.getD i 0 - cn s := fun j i => by
      by_cases hi : i < B.length
      · by_cases hj : j < o.length
        · obtain ⟨s, hs⟩ := hc _ (hb i hi) j hj
          exact ⟨s, fun _ _ => hs⟩
        · exact ⟨0, fun _ h => absurd h hj⟩
      · exact ⟨0, fun h => absurd h hi⟩
    obtain ⟨a, ⟨i0, hi0, ha0⟩, hA⟩ := hom_sol (P := P) o.length B.length (fun j i => ((hs j i).choose : Int)) hlt
    let v := li a (fun i => B.getD i 0) B.length
    have h1 : ∀ j, j < o.length → at_ o j ∣ v := fun j hj => by
      have h2 : v = li a (fun i => B.getD i 0 - cn ((hs j i).choose : Int)) B.length := by
        have h3 : li a (fun i => B.getD i 0 - cn ((hs j i).choose : Int)) B.length + li a (fun i => (cn ((hs j i).choose : Int) : Po P)) B.length = v := by
          show sm _ _ + sm _ _ = sm _ _
          rw [← sm_add]
          exact sm_congr fun i _ => rg_ [cn (a i), B.getD i 0, cn ((hs j i).choose : Int)] (x0 * (x1 - x2) + x0 * x2) (x0 * x1)
        rw [hA j hj, add_zero] at h3
        exact h3.symm
      rw [h2]
      exact dvd_li fun i hi => (hs j i).choose_spec hi hj
    have h2 : f ∣ v := sqf_dvd hf fun q hq hd => by
      obtain ⟨j, hj, hqj⟩ := h.ex q hq hd
      exact dvd_trans hqj (h1 j hj)
    have h3 : v = 0 := by
      apply Classical.byContradiction
      intro h4
      have h5 := dg_dvd h2 h4
      have h6 : dg v ≤ dg f - 1 := li_dg fun i hi => by have := hB.dgb _ (hb i hi); omega
      have := hf.d2
      omega
    exact ha0 (hB.ind a h3 i0 hi0)
  · exact hge
theorem pw_sub_dvd (x v w : Po P) (h : x ∣ v - w) : ∀ n, x ∣ pw v n - pw w n
  | 0 => by rw [pw_0, pw_0, sub_self]; exact dvd_0 x
  | n + 1 => by
    have ih := pw_sub_dvd x v w h n
    rw [pw_s, pw_s, show pw v n * v - pw w n * w = (pw v n - pw w n) * v + pw w n * (v - w) from rg_ [pw v n, v, pw w n, w] (x0 * x1 - x2 * x3) ((x0 - x2) * x1 + x2 * (x1 - x3))]
    exact dvd_add (dvd_mul_of ih _) (dvd_mul_of' h _)
theorem li_swap (d : Nat → Int) (c : Nat → Nat → Int) (R : Nat → Po P) (m : Nat) : ∀ n, sm (fun i => cn (d i) * li (c i) R m) n = sm (fun j => li d (fun i => (cn (c i j) : Po P)) n * R j) m
  | 0 => by
    rw [sm]
    exact (sm_zero fun j _ => zero_mul _).symm
  | n + 1 => by
    rw [sm, li_swap d c R m n]
    unfold li
    rw [mul_comm (cn (d n)), ← sm_mul, ← sm_add]
    refine sm_congr fun j _ => ?_
    show sm (fun i => cn (d i) * cn (c i j)) n * R j + cn (c n j) * R j * cn (d n) = (sm (fun i => cn (d i) * cn (c i j)) n + cn (d n) * cn (c n j)) * R j
    exact rg_ [sm (fun i => cn (d i) * cn (c i j)) n, R j, cn (c n j), cn (d n)] (x0 * x1 + x2 * x1 * x3) ((x0 + x3 * x2) * x1)
theorem irr_few {f : Po P} {B qs : List (Po P)} (hf : Sqf f) (hB : KerOk f B) (hq : ∀ a, a < qs.length → Irr (at_ qs a) ∧ at_ qs a ∣ f) (hne : ∀ a b, a < qs.length → b < qs.length → a ≠ b → at_ qs a ≠ at_ qs b) : qs.length ≤ B.length := by
  rcases Nat.lt_or_ge B.length qs.length with hlt | hge
  · exfalso
    have hf0 : f ≠ 0 := hf.mo.ne
    have key : ∀ i, ∃ e : Po P, i < qs.length → (dg e < dg f ∧ f ∣ pw e (pn P) - e ∧ at_ qs i ∣ e - 1 ∧ ∀ k, k < qs.length → k ≠ i → at_ qs k ∣ e) := by
      intro i
      by_cases hi : i < qs.length
      · obtain ⟨hI, hd⟩ := hq i hi
        let r := qo f (at_ qs i)
        have hr : r * at_ qs i = f := qo_mul hI.ne hd
        have hrm : Mo r := qo_mo hf.mo hI.mo hd
        have hnd : ¬ at_ qs i ∣ r := fun h => by
          have h1 := qo_val hI hf.mo hI.mo hd
          have h2 := (dvd_iff hI hrm.ne).1 h
          have h3 := hf.sq _ hI
          rw [val_self hI] at h1
          have h4 : val (at_ qs i) r = val (at_ qs i) (qo f (at_ qs i)) := rfl
          omega
        have hcop : Cop (at_ qs i) r := by
          rcases hI.cop r with h | h
          · exact absurd h hnd
          · exact h
        obtain ⟨u, w, huw⟩ := hcop
        let e := w * r
        have he1 : at_ qs i ∣ e - 1 := ⟨-u, by
          show w * r - 1 = _
          rw [← huw]
          exact rg_ [w, r, u, at_ qs i] (x0 * x1 - (x2 * x3 + x0 * x1)) (x3 * -x2)⟩
        have her : r ∣ e := dvd_mul_l r w
        have hpe : at_ qs i ∣ pw e (pn P) - e := by
          have h1 := pw_sub_dvd _ _ _ he1 (pn P)
          rw [pw_one] at h1
          have := dvd_sub h1 he1
          rwa [show pw e (pn P) - 1 - (e - 1) = pw e (pn P) - e from rg_ [pw e (pn P), e] (x0 - 1 - (x1 - 1)) (x0 - x1)] at this
        have hpr : r ∣ pw e (pn P) - e := by
          obtain ⟨m, hm⟩ : ∃ m, pn P = m + 1 := ⟨pn P - 1, by have := pn_2 P; omega⟩
          rw [hm, pw_s]
          exact dvd_sub (dvd_mul_of' her _) her
        have hfe : f ∣ pw e (pn P) - e := by
          rw [← hr, mul_comm]
          exact Cop.mul_dvd ⟨u, w, huw⟩ hpe hpr
        have hrm' := dvd_rm (f := e) hf0
        refine ⟨rm e f, fun _ => ⟨rm_dg e hf0, ?_, ?_, fun k hk hki => ?_⟩⟩
        · have h1 := pw_sub_dvd f _ _ hrm' (pn P)
          have h2 := dvd_sub (dvd_add hfe hrm') h1
          rwa [show pw e (pn P) - e + (e - rm e f) - (pw e (pn P) - pw (rm e f) (pn P)) = pw (rm e f) (pn P) - rm e f from
            rg_ [pw e (pn P), e, rm e f, pw (rm e f) (pn P)] (x0 - x1 + (x1 - x2) - (x0 - x3)) (x3 - x2)] at h2
        · have h1 := dvd_sub he1 (dvd_trans hd hrm')
          rwa [show e - 1 - (e - rm e f) = rm e f - 1 from rg_ [e, rm e f] (x0 - 1 - (x0 - x1)) (x1 - 1)] at h1
        · obtain ⟨hK, hkd⟩ := hq k hk
          have h1 : at_ qs k ∣ r := by
            have h2 : at_ qs k ∣ r * at_ qs i := by rw [hr]; exact hkd
            rcases hK.pr h2 with h3 | h3
            · exact h3
            · exact absurd (hK.eq hI h3) (hne k i hk hi hki)
          have h2 := dvd_sub (dvd_trans h1 her) (dvd_trans hkd hrm')
          rwa [show e - (e - rm e f) = rm e f from rg_ [e, rm e f] (x0 - (x0 - x1)) x1] at h2
      · exact ⟨0, fun h => absurd h hi⟩
    let E : Nat → Po P := fun i => (key i).choose
    have hE : ∀ i, i < qs.length → (dg (E i) < dg f ∧ f ∣ pw (E i) (pn P) - E i ∧ at_ qs i ∣ E i - 1 ∧ ∀ k, k < qs.length → k ≠ i → at_ qs k ∣ E i) := fun i => (key i).choose_spec
    have hc : ∀ i, ∃ c : Nat → Int, i < qs.length → E i = li c (fun j => B.getD j 0) B.length := fun i => by
      by_cases hi : i < qs.length
      · obtain ⟨c, h⟩ := hB.sp (E i) (hE i hi).1 (hE i hi).2.1
        exact ⟨c, fun _ => h⟩
      · exact ⟨fun _ => 0, fun h => absurd h hi⟩
    obtain ⟨d, ⟨k, hk, hdk⟩, hd⟩ := hom_sol (P := P) B.length qs.length (fun j i => (hc i).choose j) hlt
    have h1 : sm (fun i => cn (d i) * E i) qs.length = 0 := by
      rw [sm_congr (g := fun i => cn (d i) * li (hc i).choose (fun j => B.getD j 0) B.length) fun i hi => congrArg (cn (d i) * ·) ((hc i).choose_spec hi), li_swap]
      refine sm_zero fun j hj => ?_
      rw [hd j hj, zero_mul]
    have h2 : at_ qs k ∣ cn (d k) := by
      have h3 := sm_diff (f := fun i => cn (d i) * E i) (g := fun i => if i = k then 0 else cn (d i) * E i) (e := cn (d k) * E k) hk (fun i _ hne => (if_neg hne).symm) (by rw [if_pos rfl, zero_add])
      rw [h1] at h3
      have h4 : ∀ n, n ≤ qs.length → at_ qs k ∣ sm (fun i => if i = k then 0 else cn (d i) * E i) n := by
        intro n
        induction n with
        | zero => exact fun _ => dvd_0 _
        | succ n ih =>
          intro hn
          refine dvd_add (ih (by omega)) ?_
          show at_ qs k ∣ (if n = k then 0 else cn (d n) * E n)
          split
          · exact dvd_0 _
          · rename_i hnk
            exact dvd_mul_of' ((hE n (by omega)).2.2.2 k hk (fun e => hnk e.symm)) _
      have h5 : at_ qs k ∣ cn (d k) * E k := dvd_of_add (h3 ▸ dvd_0 _) (h4 _ (Nat.le_refl _))
      rcases (hq k hk).1.pr h5 with h6 | h6
      · exact h6
      · exfalso
        have h7 := dvd_sub h6 (hE k hk).2.2.1
        rw [show E k - (E k - 1) = 1 from rg_ [E k] (x0 - (x0 - 1)) 1] at h7
        exact (hq k hk).1.not_one h7
    exact hdk (cn_dvd (hq k hk).1 h2)
  · exact hge
structure SpOk (f : Po P) (o : List (Po P)) : Prop where
  ir : ∀ x ∈ o, Irr x ∧ x ∣ f
  ex : ∀ q, Irr q → q ∣ f → q ∈ o
  nd : o.Pairwise (fun x y => x ≠ y)
theorem split_ok {f : Po P} {B : List (Po P)} (hf : Sqf f) (hB : KerOk f B) : SpOk f (spB B.length B [f]) := by
  obtain ⟨a1, a2⟩ := spB_ok hf B.length B [f] hB.fx (SI.start hf)
  have hpos := hB.pos hf
  have hle := a1.lm (by simpa using hpos)
  have h := a1.si
  generalize spB B.length B [f] = o at *
  have heq : o.length = B.length := by
    rcases Nat.lt_or_ge o.length B.length with hlt | hge
    · have := pieces_many hf hB h (a2 hlt)
      omega
    · omega
  have hch : ∀ a, ∃ q : Po P, a < o.length → Irr q ∧ q ∣ at_ o a := fun a => by
    by_cases ha : a < o.length
    · obtain ⟨q, hq⟩ := irr_of (h.d2 a ha)
      exact ⟨q, fun _ => hq⟩
    · exact ⟨0, fun h => absurd h ha⟩
  obtain ⟨cf, hcf⟩ : ∃ cf : Nat → Po P, ∀ a, a < o.length → Irr (cf a) ∧ cf a ∣ at_ o a := ⟨fun a => (hch a).choose, fun a => (hch a).choose_spec⟩
  have hirr : ∀ a, a < o.length → Irr (at_ o a) := fun a ha => by
    obtain ⟨q, hq, hqd⟩ := irr_of (h.d2 a ha)
    by_cases hd : dg (at_ o a) ≤ dg q
    · rw [← dvd_eq hqd hq.mo (h.mo a ha) hd]; exact hq
    · exfalso
      obtain ⟨r, hr⟩ := hqd
      have hr0 : r ≠ 0 := mul_ne_r (hr ▸ (h.mo a ha).ne)
      have h1 := dg_mul hq.ne hr0
      rw [← hr] at h1
      obtain ⟨q', hq', hqd'⟩ := irr_of (f := r) (by omega)
      have hq'a : q' ∣ at_ o a := by rw [hr]; exact dvd_mul_of' hqd' q
      have hqa : q ∣ at_ o a := by rw [hr]; exact dvd_mul_r q r
      have hqq : q ≠ q' := fun e => by
        subst e
        have h2 := hf.sq q hq
        have h3 := val_dvd hq (h.dv a ha) hf.mo.ne
        have h4 : val q (at_ o a) = val q q + val q r := by rw [hr, val_mul hq hq.ne hr0]
        have h5 := (dvd_iff hq hr0).1 hqd'
        rw [val_self hq] at h4
        omega
      let qs : List (Po P) := ((List.range o.length).map fun b => if b = a then q else cf b) ++ [q']
      have hlen : qs.length = o.length + 1 := by simp [qs]
      have hat : ∀ b, b < o.length → at_ qs b = if b = a then q else cf b := fun b hb => by
        unfold at_
        rw [List.getD_eq_getElem?_getD, List.getElem?_append_left (by simpa using hb)]
        simp [hb]
      have hlast : at_ qs o.length = q' := by
        unfold at_
        rw [List.getD_eq_getElem?_getD, List.getElem?_append_right (by simp)]
        simp
      have hp : ∀ b, b < o.length → Irr (at_ qs b) ∧ at_ qs b ∣ at_ o b := fun b hb => by
        rw [hat b hb]
        split
        · rename_i e; rw [e]; exact ⟨hq, hqa⟩
        · exact hcf b hb
      have := irr_few (qs := qs) hf hB (fun b hb => by
        by_cases e : b = o.length
        · rw [e, hlast]; exact ⟨hq', dvd_trans hq'a (h.dv a ha)⟩
        · have hb' : b < o.length := by omega
          exact ⟨(hp b hb').1, dvd_trans (hp b hb').2 (h.dv b hb')⟩) (fun b c hb hc hne he => by
        by_cases eb : b = o.length
        · have hc' : c < o.length := by omega
          rw [eb, hlast] at he
          by_cases eca : c = a
          · rw [hat c hc', if_pos eca] at he
            exact hqq he.symm
          · exact h.pw c a hc' ha eca _ (hp c hc').1 (hp c hc').2 (he ▸ hq'a)
        · have hb' : b < o.length := by omega
          by_cases ec : c = o.length
          · rw [ec, hlast] at he
            by_cases eba : b = a
            · rw [hat b hb', if_pos eba] at he
              exact hqq he
            · exact h.pw b a hb' ha eba _ (hp b hb').1 (hp b hb').2 (he.symm ▸ hq'a)
          · have hc' : c < o.length := by omega
            exact h.pw b c hb' hc' hne _ (hp b hb').1 (hp b hb').2 (he ▸ (hp c hc').2))
      omega
  refine ⟨fun x hx => ?_, fun q hq hd => ?_, ?_⟩
  · obtain ⟨a, ha, rfl⟩ := mem_at.1 hx
    exact ⟨hirr a ha, h.dv a ha⟩
  · obtain ⟨a, ha, hqa⟩ := h.ex q hq hd
    exact mem_at.2 ⟨a, ha, (hq.eq (hirr a ha) hqa).symm⟩
  · rw [List.pairwise_iff_getElem]
    intro a b ha hb hab he
    have e1 : o[a] = at_ o a := by simp [at_, ha]
    have e2 : o[b] = at_ o b := by simp [at_, hb]
    rw [e1, e2] at he
    exact h.pw a b ha hb (by omega) _ (hirr a ha) (dvd_refl _) (he ▸ dvd_refl _)
end Go.Proofs.Ytlnhembcfhfpkaa.Fx
