/-
  No cell of these rows narrows 'for every input' (looked for: loops, veiled, ifaces, maps, wideKeys, modest, calm, conditions, laid).
  DERIVED. THE GIVEN ROWS OF THIS SEAT. 3 by the template 'for every input the law returns true; each argument reads behind the call as it read before'; 0 by the template 'total and deterministic' (their statements: YtdjbfgfbpimakaaTotals.lean).
  GIVEN WITH THE SEED: the statements are not yours to turn. If you find one false, say at which input.
  Laid BY PROGRAM, IN A SANDBOX (cutbox-rows.mjs): the forced cells as the released guide's own fill.sh prints them over the translation 77d8ec40f32c71fe… (all of the seat's roots in one cut). By AI agents, Wed Nov 11 2026. No macro, syntax, notation, axiom, sorry.
-/
import Derived.Test.YtdjbfgfbpimakaaChecked
import GoSem.Claim
import GoSem.ClaimJoined
import GoSem.ClaimMapViews
import Derived.JoinedTies
import Derived.KernelRfl
namespace Go.Proofs.Ytdjbfgfbpimakaa
/- THE CELL 'sum', in the pinned program and in every row, IS THE sha256 OF THE DUMP (.gsa) THAT YtdjbfgfbpimakaaProg.lean LOADS. Nothing in Lean hashes anything: it is a label: what it is worth is what the hold of that sum in a sandbox is worth. -/
noncomputable def Try.pinned : Pinned := { name := "ytdjbfgfbpimakaa", sum := "77d8ec40f32c71fee44cbd8d329647ed3062887d58f10391394936f3d22e7ac6", checked := Try.checked }
namespace Rows
def none {H : Type} : Left H := { results := [], args := [] }

/-- 'radicandlaw.PolyResults': WHATEVER THE INPUT: true; the input reads as it did. -/
def polyResultsSpec : ChangeSpec := { name := "polyResults", fn := fun _ => fun
  | [d1, d2] => { results := [.lit (.bool true)], args := [d1, d2] }
  | _ => none }
def polyResultsRow : OpenClaim := { program := "ytdjbfgfbpimakaa", sum := "77d8ec40f32c71fee44cbd8d329647ed3062887d58f10391394936f3d22e7ac6", func := "radicand/radicandlaw.PolyResults", spec := "polyResults", recurses := true, named := ["math/bits.overflowError"], apart := false }
def PolyResultsSaid : Prop := polyResultsRow.holds Try.pinned (OpenSpec.ofChange polyResultsSpec)

/-- ITS FALSE NEIGHBOUR: 'it returns false'. Refute it at one input. -/
def polyResultsWrong : ChangeSpec := { name := "polyResults", fn := fun _ => fun
  | [d1, d2] => { results := [.lit (.bool false)], args := [d1, d2] }
  | _ => none }
def PolyResultsWrongFalsely : Prop := polyResultsRow.holds Try.pinned (OpenSpec.ofChange polyResultsWrong)

/-- 'radicandlaw.PolyThrough': WHATEVER THE INPUT: true; the input reads as it did. -/
def polyThroughSpec : ChangeSpec := { name := "polyThrough", fn := fun _ => fun
  | [d1, d2] => { results := [.lit (.bool true)], args := [d1, d2] }
  | _ => none }
def polyThroughRow : OpenClaim := { program := "ytdjbfgfbpimakaa", sum := "77d8ec40f32c71fee44cbd8d329647ed3062887d58f10391394936f3d22e7ac6", func := "radicand/radicandlaw.PolyThrough", spec := "polyThrough", named := ["math/bits.overflowError"], apart := false }
def PolyThroughSaid : Prop := polyThroughRow.holds Try.pinned (OpenSpec.ofChange polyThroughSpec)

/-- ITS FALSE NEIGHBOUR: 'it returns false'. Refute it at one input. -/
def polyThroughWrong : ChangeSpec := { name := "polyThrough", fn := fun _ => fun
  | [d1, d2] => { results := [.lit (.bool false)], args := [d1, d2] }
  | _ => none }
def PolyThroughWrongFalsely : Prop := polyThroughRow.holds Try.pinned (OpenSpec.ofChange polyThroughWrong)

/-- 'radicandlaw.PolyLaws': WHATEVER THE INPUT: true; the input reads as it did. -/
def polyLawsSpec : ChangeSpec := { name := "polyLaws", fn := fun _ => fun
  | [d1, d2, d3] => { results := [.lit (.bool true)], args := [d1, d2, d3] }
  | _ => none }
def polyLawsRow : OpenClaim := { program := "ytdjbfgfbpimakaa", sum := "77d8ec40f32c71fee44cbd8d329647ed3062887d58f10391394936f3d22e7ac6", func := "radicand/radicandlaw.PolyLaws", spec := "polyLaws", named := ["math/bits.overflowError"], apart := false }
def PolyLawsSaid : Prop := polyLawsRow.holds Try.pinned (OpenSpec.ofChange polyLawsSpec)

/-- ITS FALSE NEIGHBOUR: 'it returns false'. Refute it at one input. -/
def polyLawsWrong : ChangeSpec := { name := "polyLaws", fn := fun _ => fun
  | [d1, d2, d3] => { results := [.lit (.bool false)], args := [d1, d2, d3] }
  | _ => none }
def PolyLawsWrongFalsely : Prop := polyLawsRow.holds Try.pinned (OpenSpec.ofChange polyLawsWrong)

/- THE SECOND FORM. 'bulk': how many values and letters a reading holds, each counted each time it is reached (what is shared counts as often as it is met; a slice's spare places count too). A statement '..UptoSaid' is the law's where the arguments, and the package variables that the reading takes, are together of bulk at most 1048576: NARROWER than '..Said'. Prove '..Said' where nothing that the law and all that it calls make is longer than what came in: it says more and counts as full. Else prove '..UptoSaid'. A law counts once. -/
mutual
def uptoBulk {H : Type} : DataW H → Nat
  | .lit (.string bytes) => bytes.length + 1
  | .lit _ => 1
  | .nil => 1
  | .ptr d => uptoBulk d + 1
  | .slice elems spare => uptoBulkAll elems + uptoBulkAll spare + 1
  | .agg parts => uptoBulkAll parts + 1
  | .iface _ d => uptoBulk d + 1
  | .map entries => uptoBulkEntries entries + 1
  | .held _ => 1
def uptoBulkAll {H : Type} : List (DataW H) → Nat
  | [] => 0
  | d :: r => uptoBulk d + uptoBulkAll r
def uptoBulkEntries {H : Type} : List (Lit × DataW H) → Nat
  | [] => 0
  | x :: r => uptoBulkEntry x + uptoBulkEntries r
def uptoBulkEntry {H : Type} : Lit × DataW H → Nat
  | (.string bytes, d) => bytes.length + uptoBulk d + 1
  | (_, d) => uptoBulk d + 1
 end
def uptoSmall : (H : Type) → List (DataW H) → Bool := fun _ ds => decide (uptoBulkAll ds ≤ 1048576)
def OpenSpec.upto (s : _root_.Go.ChangeSpec) : _root_.Go.OpenSpec := { _root_.Go.OpenSpec.ofChange s with cond := some uptoSmall }

/-- 'radicandlaw.PolyResults', WHERE WHAT IT READS IS OF BULK AT MOST 1048576: true; the input reads as it did. -/
def polyResultsUptoRow : OpenClaim := { program := "ytdjbfgfbpimakaa", sum := "77d8ec40f32c71fee44cbd8d329647ed3062887d58f10391394936f3d22e7ac6", func := "radicand/radicandlaw.PolyResults", spec := "polyResults", recurses := true, named := ["math/bits.overflowError"], apart := false, narrowed := true }
def PolyResultsUptoSaid : Prop := polyResultsUptoRow.holds Try.pinned (OpenSpec.upto polyResultsSpec)

/-- 'radicandlaw.PolyThrough', WHERE WHAT IT READS IS OF BULK AT MOST 1048576: true; the input reads as it did. -/
def polyThroughUptoRow : OpenClaim := { program := "ytdjbfgfbpimakaa", sum := "77d8ec40f32c71fee44cbd8d329647ed3062887d58f10391394936f3d22e7ac6", func := "radicand/radicandlaw.PolyThrough", spec := "polyThrough", named := ["math/bits.overflowError"], apart := false, narrowed := true }
def PolyThroughUptoSaid : Prop := polyThroughUptoRow.holds Try.pinned (OpenSpec.upto polyThroughSpec)

/-- 'radicandlaw.PolyLaws', WHERE WHAT IT READS IS OF BULK AT MOST 1048576: true; the input reads as it did. -/
def polyLawsUptoRow : OpenClaim := { program := "ytdjbfgfbpimakaa", sum := "77d8ec40f32c71fee44cbd8d329647ed3062887d58f10391394936f3d22e7ac6", func := "radicand/radicandlaw.PolyLaws", spec := "polyLaws", named := ["math/bits.overflowError"], apart := false, narrowed := true }
def PolyLawsUptoSaid : Prop := polyLawsUptoRow.holds Try.pinned (OpenSpec.upto polyLawsSpec)

end Rows
end Go.Proofs.Ytdjbfgfbpimakaa
