/-
  No cell of these rows narrows 'for every input' (looked for: loops, veiled, ifaces, maps, wideKeys, modest, calm, conditions, laid).
  DERIVED. THE GIVEN ROWS OF THIS SEAT. 5 by the template 'for every input the law returns true; each argument reads behind the call as it read before'; 0 by the template 'total and deterministic' (their statements: YtbnhgnhgbhjkcaaGreatTotals.lean).
  GIVEN WITH THE SEED: the statements are not yours to turn. If you find one false, say at which input.
  Laid BY PROGRAM, IN A SANDBOX (cutbox-rows.mjs): the forced cells as the released guide's own fill.sh prints them over the translation 5824536ffe7f8172… (all of the seat's roots in one cut). By AI agents, Wed Nov 11 2026. No macro, syntax, notation, axiom, sorry.
-/
import Derived.Test.YtbnhgnhgbhjkcaaGreatChecked
import GoSem.Claim
import GoSem.ClaimJoined
import GoSem.ClaimMapViews
import Derived.JoinedTies
import Derived.KernelRfl
namespace Go.Proofs.YtbnhgnhgbhjkcaaGreat
/- THE CELL 'sum', in the pinned program and in every row, IS THE sha256 OF THE DUMP (.gsa) THAT YtbnhgnhgbhjkcaaGreatProg.lean LOADS. Nothing in Lean hashes anything: it is a label: what it is worth is what the hold of that sum in a sandbox is worth. -/
noncomputable def Tryz.pinned : Pinned := { name := "ytbnhgnhgbhjkcaagreat", sum := "5824536ffe7f81728405b9a97b6c5db14377ead73581a68a2befc1e8ba7d122c", checked := Tryz.checked }
namespace Rows
def none {H : Type} : Left H := { results := [], args := [] }

/-- 'radicandlaw.MultiReckons': WHATEVER THE INPUT: true; the input reads as it did. -/
def multiReckonsSpec : ChangeSpec := { name := "multiReckons", fn := fun _ => fun
  | [d1, d2, d3, d4] => { results := [.lit (.bool true)], args := [d1, d2, d3, d4] }
  | _ => none }
def multiReckonsRow : OpenClaim := { program := "ytbnhgnhgbhjkcaagreat", sum := "5824536ffe7f81728405b9a97b6c5db14377ead73581a68a2befc1e8ba7d122c", func := "radicand/radicandlaw.MultiReckons", spec := "multiReckons", unfollowed := true, recurses := true, named := ["math/bits.overflowError"], apart := false }
def MultiReckonsSaid : Prop := multiReckonsRow.holds Tryz.pinned (OpenSpec.ofChange multiReckonsSpec)

/-- ITS FALSE NEIGHBOUR: 'it returns false'. Refute it at one input. -/
def multiReckonsWrong : ChangeSpec := { name := "multiReckons", fn := fun _ => fun
  | [d1, d2, d3, d4] => { results := [.lit (.bool false)], args := [d1, d2, d3, d4] }
  | _ => none }
def MultiReckonsWrongFalsely : Prop := multiReckonsRow.holds Tryz.pinned (OpenSpec.ofChange multiReckonsWrong)

/-- 'radicandlaw.MultiValues': WHATEVER THE INPUT: true; the input reads as it did. -/
def multiValuesSpec : ChangeSpec := { name := "multiValues", fn := fun _ => fun
  | [d1, d2, d3, d4, d5] => { results := [.lit (.bool true)], args := [d1, d2, d3, d4, d5] }
  | _ => none }
def multiValuesRow : OpenClaim := { program := "ytbnhgnhgbhjkcaagreat", sum := "5824536ffe7f81728405b9a97b6c5db14377ead73581a68a2befc1e8ba7d122c", func := "radicand/radicandlaw.MultiValues", spec := "multiValues", unfollowed := true, recurses := true, named := ["math/bits.overflowError"], apart := false }
def MultiValuesSaid : Prop := multiValuesRow.holds Tryz.pinned (OpenSpec.ofChange multiValuesSpec)

/-- ITS FALSE NEIGHBOUR: 'it returns false'. Refute it at one input. -/
def multiValuesWrong : ChangeSpec := { name := "multiValues", fn := fun _ => fun
  | [d1, d2, d3, d4, d5] => { results := [.lit (.bool false)], args := [d1, d2, d3, d4, d5] }
  | _ => none }
def MultiValuesWrongFalsely : Prop := multiValuesRow.holds Tryz.pinned (OpenSpec.ofChange multiValuesWrong)

/-- 'radicandlaw.MultiLaws': WHATEVER THE INPUT: true; the input reads as it did. -/
def multiLawsSpec : ChangeSpec := { name := "multiLaws", fn := fun _ => fun
  | [d1, d2, d3, d4, d5, d6, d7] => { results := [.lit (.bool true)], args := [d1, d2, d3, d4, d5, d6, d7] }
  | _ => none }
def multiLawsRow : OpenClaim := { program := "ytbnhgnhgbhjkcaagreat", sum := "5824536ffe7f81728405b9a97b6c5db14377ead73581a68a2befc1e8ba7d122c", func := "radicand/radicandlaw.MultiLaws", spec := "multiLaws", unfollowed := true, recurses := true, named := ["math/bits.overflowError"], apart := false }
def MultiLawsSaid : Prop := multiLawsRow.holds Tryz.pinned (OpenSpec.ofChange multiLawsSpec)

/-- ITS FALSE NEIGHBOUR: 'it returns false'. Refute it at one input. -/
def multiLawsWrong : ChangeSpec := { name := "multiLaws", fn := fun _ => fun
  | [d1, d2, d3, d4, d5, d6, d7] => { results := [.lit (.bool false)], args := [d1, d2, d3, d4, d5, d6, d7] }
  | _ => none }
def MultiLawsWrongFalsely : Prop := multiLawsRow.holds Tryz.pinned (OpenSpec.ofChange multiLawsWrong)

/-- 'radicandlaw.SquaresRefutes': WHATEVER THE INPUT: true; the input reads as it did. -/
def squaresRefutesSpec : ChangeSpec := { name := "squaresRefutes", fn := fun _ => fun
  | [d1, d2, d3, d4, d5, d6] => { results := [.lit (.bool true)], args := [d1, d2, d3, d4, d5, d6] }
  | _ => none }
def squaresRefutesRow : OpenClaim := { program := "ytbnhgnhgbhjkcaagreat", sum := "5824536ffe7f81728405b9a97b6c5db14377ead73581a68a2befc1e8ba7d122c", func := "radicand/radicandlaw.SquaresRefutes", spec := "squaresRefutes", unfollowed := true, recurses := true, named := ["math/bits.overflowError"], apart := false }
def SquaresRefutesSaid : Prop := squaresRefutesRow.holds Tryz.pinned (OpenSpec.ofChange squaresRefutesSpec)

/-- ITS FALSE NEIGHBOUR: 'it returns false'. Refute it at one input. -/
def squaresRefutesWrong : ChangeSpec := { name := "squaresRefutes", fn := fun _ => fun
  | [d1, d2, d3, d4, d5, d6] => { results := [.lit (.bool false)], args := [d1, d2, d3, d4, d5, d6] }
  | _ => none }
def SquaresRefutesWrongFalsely : Prop := squaresRefutesRow.holds Tryz.pinned (OpenSpec.ofChange squaresRefutesWrong)

/-- 'radicandlaw.SquaresSum': WHATEVER THE INPUT: true; the input reads as it did. -/
def squaresSumSpec : ChangeSpec := { name := "squaresSum", fn := fun _ => fun
  | [d1, d2, d3] => { results := [.lit (.bool true)], args := [d1, d2, d3] }
  | _ => none }
def squaresSumRow : OpenClaim := { program := "ytbnhgnhgbhjkcaagreat", sum := "5824536ffe7f81728405b9a97b6c5db14377ead73581a68a2befc1e8ba7d122c", func := "radicand/radicandlaw.SquaresSum", spec := "squaresSum", unfollowed := true, recurses := true, named := ["math/bits.overflowError"], apart := false }
def SquaresSumSaid : Prop := squaresSumRow.holds Tryz.pinned (OpenSpec.ofChange squaresSumSpec)

/-- ITS FALSE NEIGHBOUR: 'it returns false'. Refute it at one input. -/
def squaresSumWrong : ChangeSpec := { name := "squaresSum", fn := fun _ => fun
  | [d1, d2, d3] => { results := [.lit (.bool false)], args := [d1, d2, d3] }
  | _ => none }
def SquaresSumWrongFalsely : Prop := squaresSumRow.holds Tryz.pinned (OpenSpec.ofChange squaresSumWrong)

/- THE SECOND FORM. 'bulk': how many values and letters a reading holds, each counted each time it is reached (what is shared counts as often as it is met; a slice's spare places count too). A statement '..UptoSaid' is the law's where the arguments, and the package variables that the reading takes, are together of bulk at most 1048576: NARROWER than '..Said'. Prove '..Said' where nothing that the law and all that it calls make is longer than what came in: it says more and counts as full. Else prove '..UptoSaid'. A law counts once. -/
mutual
def uptoBulk {H : Type} : DataW H → Nat
  | .lit (.string bytes) => bytes.length + 1
  | .lit _ => 1
  | .nil => 1
  | .ptr d => uptoBulk d + 1
  | .slice elems spare => uptoBulkAll elems + uptoBulkAll spare + 1
  | .agg parts => uptoBulkAll parts + 1
  | .iface _ d => uptoBulk d + 1
  | .map entries => uptoBulkEntries entries + 1
  | .held _ => 1
def uptoBulkAll {H : Type} : List (DataW H) → Nat
  | [] => 0
  | d :: r => uptoBulk d + uptoBulkAll r
def uptoBulkEntries {H : Type} : List (Lit × DataW H) → Nat
  | [] => 0
  | x :: r => uptoBulkEntry x + uptoBulkEntries r
def uptoBulkEntry {H : Type} : Lit × DataW H → Nat
  | (.string bytes, d) => bytes.length + uptoBulk d + 1
  | (_, d) => uptoBulk d + 1
 end
def uptoSmall : (H : Type) → List (DataW H) → Bool := fun _ ds => decide (uptoBulkAll ds ≤ 1048576)
def OpenSpec.upto (s : _root_.Go.ChangeSpec) : _root_.Go.OpenSpec := { _root_.Go.OpenSpec.ofChange s with cond := some uptoSmall }

/-- 'radicandlaw.MultiReckons', WHERE WHAT IT READS IS OF BULK AT MOST 1048576: true; the input reads as it did. -/
def multiReckonsUptoRow : OpenClaim := { program := "ytbnhgnhgbhjkcaagreat", sum := "5824536ffe7f81728405b9a97b6c5db14377ead73581a68a2befc1e8ba7d122c", func := "radicand/radicandlaw.MultiReckons", spec := "multiReckons", unfollowed := true, recurses := true, named := ["math/bits.overflowError"], apart := false, narrowed := true }
def MultiReckonsUptoSaid : Prop := multiReckonsUptoRow.holds Tryz.pinned (OpenSpec.upto multiReckonsSpec)

/-- 'radicandlaw.MultiValues', WHERE WHAT IT READS IS OF BULK AT MOST 1048576: true; the input reads as it did. -/
def multiValuesUptoRow : OpenClaim := { program := "ytbnhgnhgbhjkcaagreat", sum := "5824536ffe7f81728405b9a97b6c5db14377ead73581a68a2befc1e8ba7d122c", func := "radicand/radicandlaw.MultiValues", spec := "multiValues", unfollowed := true, recurses := true, named := ["math/bits.overflowError"], apart := false, narrowed := true }
def MultiValuesUptoSaid : Prop := multiValuesUptoRow.holds Tryz.pinned (OpenSpec.upto multiValuesSpec)

/-- 'radicandlaw.MultiLaws', WHERE WHAT IT READS IS OF BULK AT MOST 1048576: true; the input reads as it did. -/
def multiLawsUptoRow : OpenClaim := { program := "ytbnhgnhgbhjkcaagreat", sum := "5824536ffe7f81728405b9a97b6c5db14377ead73581a68a2befc1e8ba7d122c", func := "radicand/radicandlaw.MultiLaws", spec := "multiLaws", unfollowed := true, recurses := true, named := ["math/bits.overflowError"], apart := false, narrowed := true }
def MultiLawsUptoSaid : Prop := multiLawsUptoRow.holds Tryz.pinned (OpenSpec.upto multiLawsSpec)

/-- 'radicandlaw.SquaresRefutes', WHERE WHAT IT READS IS OF BULK AT MOST 1048576: true; the input reads as it did. -/
def squaresRefutesUptoRow : OpenClaim := { program := "ytbnhgnhgbhjkcaagreat", sum := "5824536ffe7f81728405b9a97b6c5db14377ead73581a68a2befc1e8ba7d122c", func := "radicand/radicandlaw.SquaresRefutes", spec := "squaresRefutes", unfollowed := true, recurses := true, named := ["math/bits.overflowError"], apart := false, narrowed := true }
def SquaresRefutesUptoSaid : Prop := squaresRefutesUptoRow.holds Tryz.pinned (OpenSpec.upto squaresRefutesSpec)

/-- 'radicandlaw.SquaresSum', WHERE WHAT IT READS IS OF BULK AT MOST 1048576: true; the input reads as it did. -/
def squaresSumUptoRow : OpenClaim := { program := "ytbnhgnhgbhjkcaagreat", sum := "5824536ffe7f81728405b9a97b6c5db14377ead73581a68a2befc1e8ba7d122c", func := "radicand/radicandlaw.SquaresSum", spec := "squaresSum", unfollowed := true, recurses := true, named := ["math/bits.overflowError"], apart := false, narrowed := true }
def SquaresSumUptoSaid : Prop := squaresSumUptoRow.holds Tryz.pinned (OpenSpec.upto squaresSumSpec)

end Rows
end Go.Proofs.YtbnhgnhgbhjkcaaGreat
