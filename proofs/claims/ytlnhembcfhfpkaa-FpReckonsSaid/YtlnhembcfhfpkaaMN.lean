/- The small machine: any operation but a call. -/
import Derived.Test.YtlnhembcfhfpkaaMMA
namespace Go.Proofs.Ytlnhembcfhfpkaa.M
open Go.RowKit

section
variable {P : Program} {w0 : World} {base : Bs} {nt : Nat} {loc : Locs} {s t : St} {a : Act} {w : World} {o : Oper} {id : Nat} {d : AV}

theorem ev_call {f : FuncId} {args : List Opd} {x : Option (Bool × AV × St)} (h : ev (.call f args) id s = x) : x = none := by
  subst h; rfl

theorem ev_callv {fs : List FuncId} {x : Opd} {args : List Opd} {y : Option (Bool × AV × St)} (h : ev (.callv fs x args) id s = y) : y = none := by
  subst h; rfl
theorem opdsD_spec (h : Rel w0 base nt loc s a w) : ∀ (l : List Operand) (ds : List D), opdsD s.r s.m (l.map (opd P none)) = some ds → l.length = ds.length ∧ ∀ (i : Nat) (e : D), ds[i]? = some e → ∃ x, l[i]? = some x ∧ V w (NB base s.m loc w) (a.eval x) e
  | [], ds, hd => by
    simp only [List.map_nil, opdsD, Option.some.injEq] at hd
    subst hd
    exact ⟨rfl, fun i e he => by simp at he⟩
  | x :: l, ds, hd => by
    simp only [List.map_cons, opdsD] at hd
    split at hd
    case h_2 => cases hd
    rename_i d' ds' h1 h2
    simp only [Option.some.injEq] at hd
    subst hd
    obtain ⟨g1, g2⟩ := opdsD_spec h l ds' h2
    refine ⟨by simp [g1], fun i e he => ?_⟩
    match i, he with
    | 0, he =>
      simp at he
      subst he
      exact ⟨x, rfl, toD_pure h h1 (h.opd (P := P) none x)⟩
    | i + 1, he => simpa using g2 i e (by simpa using he)
theorem sim_fnv {fn : Fn} {x y : Array Operand} (h : Rel w0 base nt loc s a w) (ho : o.op = .makeFunc fn x y) (he : ev (.fnv fn (x.toList.map (opd P none)) (y.toList.map (opd P none))) id s = some (true, d, t)) : Good P w0 base nt o a w t d := by
  simp only [ev] at he
  split at he
  case h_2 => cases he
  rename_i l k hl hk
  simp only [Option.some.injEq, Prod.mk.injEq, true_and] at he
  obtain ⟨rfl, rfl⟩ := he
  obtain ⟨g1, g2⟩ := opdsD_spec (P := P) h _ _ hl
  obtain ⟨g3, g4⟩ := opdsD_spec (P := P) h _ _ hk
  have get : ∀ (z : Array Operand) (i : Nat) (q : Operand), z.toList[i]? = some q → (z.map a.eval).getD i undef = a.eval q := fun z i q hq => by
    have : z[i]? = some q := by simpa using hq
    simp [this]
  refine good_same h (v := .func fn (x.map a.eval) (y.map a.eval)) (by simp [execOp, ho, Instr.makeFunc]) (.p _ _ (.fn _ _ _ _ _ (by simpa using g1) (by simpa using g3) (fun i e he => ?_) (fun i e he => ?_)))
  · obtain ⟨q, hq, hv⟩ := g2 i e he
    rw [get x i q hq]; exact hv
  · obtain ⟨q, hq, hv⟩ := g4 i e he
    rw [get y i q hq]; exact hv
theorem sim (h : Rel w0 base nt loc s a w) {ao : AOp} (hc : aop P o = some ao) (hnc : ∀ T sz b y, ao ≠ .copyS T sz b y) (hnd : ∀ x y, ao ≠ .copyA x y) (hne : ∀ sz z x, ao ≠ .clearS sz z x) (he : ev ao id s = some (true, d, t)) : Good P w0 base nt o a w t d := by
  cases hop : o.op <;> simp only [aop, hop] at hc
  case move x => cases hc; exact sim_mov h (.inl hop) he
  case assign x => cases hc; exact sim_mov h (.inr hop) he
  case nilCheck x => cases hc; exact sim_nilCheck h hop he
  case pick c x y => cases hc; exact sim_pick h hop he
  case alloc T =>
    split at hc
    · rename_i l ag sz hz
      split at hc
      · rename_i hok
        cases hc
        simp only [avOk, Bool.and_eq_true, beq_iff_eq, List.all_eq_true] at hok
        exact sim_alloc h hop (zeroOf_ok hz) he hok.1 hok.2
      · cases hc
    · cases hc
  case box T x =>
    split at hc
    · cases hc; exact sim_box h hop he
    · cases hc
  case build T parts =>
    split at hc
    case h_3 => cases hc
    · rename_i l sz fs hz hu
      split at hc
      case h_2 => cases hc
      rename_i places hpl
      split at hc
      case h_2 => cases hc
      rename_i ps hps
      cases hc
      exact sim_build h hop (zeroOf_ok hz) hu hpl hps he
    · rename_i l sz n e hz hu
      split at hc
      case h_2 => cases hc
      rename_i ie hi
      cases hc
      exact sim_buildA h hop (zeroOf_ok hz) hu hi he
  case buildSlice T n parts =>
    split at hc
    case h_2 => cases hc
    rename_i e hu
    split at hc
    case h_2 => cases hc
    rename_i l ag sz hz
    split at hc
    case isFalse => cases hc
    rename_i hn
    cases hc
    exact sim_buildSlice h hop hu (zeroOf_ok hz) hn.1 hn.2 he
  case load T x =>
    split at hc
    case h_2 => cases hc
    rename_i ag sz hT
    split at hc
    case isFalse => cases hc
    rename_i hs
    cases hc
    exact sim_load h hop (tyOf_ok hT) (fun e => by simpa [e] using hs) he
  case store T x v =>
    split at hc
    case h_2 => cases hc
    rename_i ag sz hT
    cases hc
    exact sim_store h hop (tyOf_ok hT) he
  case binOp op T x y Y =>
    split at hc
    · cases hc; exact sim_bin h hop (by simp) he
    · cases hc; exact sim_bin h hop (by simp) he
    · rename_i hu; cases hc; exact sim_bin h hop (fun _ => hu) he
    · rename_i fs hu
      split at hc
      case isFalse => cases hc
      rename_i hi
      split at hc
      · cases hc; exact sim_eqs h hop (by simp) hi hu he
      · cases hc; exact sim_eqs h hop (by simp) hi hu he
      · cases hc
    · split at hc
      · cases hc; cases he
      · cases hc; cases he
      · cases hc
    · rename_i n e hu
      split at hc
      case isFalse => cases hc
      rename_i hi
      split at hc
      · cases hc; exact sim_eqA (neg := false) h hop (by simp) hu hi he
      · cases hc; exact sim_eqA (neg := true) h hop (by simp) hu hi he
      · cases hc
    · cases hc
  case unOp op T x => cases hc; exact sim_un h hop he
  case convert S T x =>
    split at hc
    · rename_i hS hT; cases hc; exact sim_conv h hop hS hT he
    · cases hc
  case makeSlice T l c =>
    split at hc
    case h_2 => cases hc
    rename_i e hu
    split at hc
    case h_2 => cases hc
    rename_i z ag sz i hz hi
    cases hc
    exact sim_makeSlice h hop hu (zeroOf_ok hz) hi rfl he
  case slice T x lo hi mx =>
    split at hc
    · rename_i hu
      split at hc
      · cases hc
      · rename_i hm
        cases hc
        have hm' : mx = none := by cases mx <;> simp at hm; rfl
        subst hm'
        exact sim_sliceS h hop hu he
    · rename_i e hu
      split at hc
      case h_2 => cases hc
      rename_i ag sz hT
      split at hc
      · cases hc
      · rename_i hm
        cases hc
        exact sim_slice h hop hu (tyOf_ok hT) (fun hh => by cases hi <;> simp_all) he
    · rename_i n e hu
      split at hc
      case h_2 => cases hc
      rename_i ag hT
      split at hc
      · cases hc
      · rename_i hm
        cases hc
        exact sim_sliceA h hop hu (tyOf_ok hT) (fun hh => by cases hi <;> simp_all) he
    · cases hc
  case fieldAddr S x f =>
    split at hc
    case h_2 => cases hc
    rename_i fs hu
    split at hc
    case h_2 => cases hc
    rename_i g hf
    split at hc
    case h_2 => cases hc
    rename_i ag sz hT
    split at hc
    · cases hc
    · rename_i hz
      cases hc
      exact sim_fieldAddr h hop hu hf (tyOf_ok hT) (by simpa using hz) he
  case field S x f =>
    split at hc
    case h_2 => cases hc
    rename_i fs hu
    split at hc
    case h_2 => cases hc
    rename_i g hf
    split at hc
    case h_2 => cases hc
    rename_i ag sz hT
    cases hc
    exact sim_field h hop hu hf (tyOf_ok hT) he
  case indexAddr T x i =>
    split at hc
    case h_3 => cases hc
    · rename_i e hu
      split at hc
      case h_2 => cases hc
      rename_i ag sz hT
      cases hc
      exact sim_indexAddr h hop hu (tyOf_ok hT) he
    · rename_i n e hu
      split at hc
      case h_2 => cases hc
      rename_i ag sz hT
      cases hc
      exact sim_indexAddrA h hop hu (tyOf_ok hT) he
  case index T x i =>
    split at hc
    · rename_i hu; cases hc; exact sim_index h hop hu he
    · rename_i n e hu
      split at hc
      case h_2 => cases hc
      rename_i ag sz hT
      cases hc
      exact sim_indexA h hop hu (tyOf_ok hT) he
    · cases hc
  case makeFunc fn x y => cases hc; exact sim_fnv h hop he
  case panic x => cases hc; cases he
  case makeInterface T x => cases hc; cases he
  case extract x i => cases hc; exact sim_extract h hop he
  case call c =>
    split at hc
    · cases hc; cases ev_call he
    · cases hc; cases ev_callv he
    · rename_i hcal
      split at hc
      · rename_i x T hx hT
        split at hc
        · rename_i hu; cases hc; exact sim_lenS h hop hcal hx hT hu he
        · rename_i e hu; cases hc; exact sim_len h hop hcal hx hT hu he
        · cases hc
      · cases hc
    · rename_i hcal
      split at hc
      · rename_i x y hx; cases hc; exact sim_mm (mx := true) h hop hcal hx he
      · cases hc
    · rename_i hcal
      split at hc
      · rename_i x y hx; cases hc; exact sim_mm (mx := false) h hop hcal hx he
      · cases hc
    · split at hc
      · split at hc
        · split at hc
          · split at hc
            · simp only [Option.some.injEq] at hc
              rcases appOp_is hc with ⟨_, _, _, _, _, rfl⟩ | ⟨_, _, _, _, rfl⟩
              · cases he
              · exact absurd rfl (hnc _ _ _ _)
            · cases hc
          · cases hc
        · cases hc
      · cases hc
    · split at hc
      · split at hc
        · split at hc
          · cases hc; exact absurd rfl (hnd _ _)
          · cases hc
        · cases hc
      · cases hc
    · split at hc
      · split at hc
        · split at hc
          · cases hc; exact absurd rfl (hne _ _ _)
          · cases hc
        · cases hc
      · cases hc
    · cases hc
  all_goals cases hc

end

end Go.Proofs.Ytlnhembcfhfpkaa.M
