/- How much an argument takes, of its data in the small machine's words. -/
import Derived.Test.YtlnhembcfhfpkaaRd
import Derived.ChangeArms
import Derived.SizedLaws
namespace Go.Proofs.Ytlnhembcfhfpkaa.M
open Go.RowKit
set_option linter.unusedVariables false

theorem weigh {H : Type} {enc : TypeId × Value → H} {P : Program} {w : World} {N : Nat → Prop} {spare : Nat → Bool} {held : Bool} {v : Value} {t e : TypeId} {T : TypeId} {l : List D} {d : DataW H} {ps : List MemPlace} (hu : P.underlying t = some (.slice e)) (hv : V w N v (.list T 1 l))
    (h : DataW.Trod enc P w 0 spare held t v d ps) {j : Nat} {ts : List TypeId} {ds : List (DataW H)} (ht : ts[j]? = some t) (hd : ds[j]? = some d) (hsz : (DataW.weightsEach P ts ds).all (· ≤ reachBytes) = true) : l.length * P.bytesOf e ≤ reachBytes := by
  obtain ⟨fuel, h⟩ := h
  cases hv with
  | empty a cap => simp
  | list b o cap _ _ _ c fr =>
    rcases DataW.trod_slice hu h with ⟨hc, -⟩ | ⟨a, len, cap', elems, rest, n, -, hc, hx, -, -, -, hlen, -⟩
    · simp [Value.cells] at hc
    · simp [Value.cells] at hc
      obtain ⟨-, h2, -⟩ := hc
      cases hx
      have := sized_slice hsz ht hd hu
      rw [List.length_map, hlen, ← h2] at this
      exact Nat.le_trans (Nat.mul_le_mul_right _ (Nat.le_add_right _ _)) this

theorem weighS {H : Type} {enc : TypeId × Value → H} {P : Program} {w : World} {N : Nat → Prop} {spare : Nat → Bool} {held : Bool} {v : Value} {t : TypeId} {l : List UInt8} {d : DataW H} {ps : List MemPlace} (hu : P.underlying t = some .string) (hv : V w N v (.str l))
    (h : DataW.Trod enc P w 0 spare held t v d ps) {j : Nat} {ts : List TypeId} {ds : List (DataW H)} (ht : ts[j]? = some t) (hd : ds[j]? = some d) (hsz : (DataW.weightsEach P ts ds).all (· ≤ reachBytes) = true) : l.length ≤ reachBytes := by
  obtain ⟨fuel, h⟩ := h
  cases hv with
  | str s =>
    obtain ⟨s', hc, hx, -⟩ := DataW.trod_string hu h
    simp [Value.cells] at hc
    subst hc
    cases hx
    exact sized_string hsz ht hd

end Go.Proofs.Ytlnhembcfhfpkaa.M
