/-
  NARROWER THAN 'FOR EVERY INPUT', by the rows' own cells (each row's printed sentence says how): LogicPrenex: loops.
  DERIVED. THE GIVEN ROWS OF THIS SEAT. 10 by the template 'for every input the law returns true; each argument reads behind the call as it read before'; 0 by the template 'total and deterministic' (their statements: YtkidkimjdiichaaGreatTotals.lean).
  GIVEN WITH THE SEED: the statements are not yours to turn. If you find one false, say at which input.
  Laid BY PROGRAM, IN A SANDBOX (cutbox-rows.mjs): the forced cells as the released guide's own fill.sh prints them over the translation dd1bd80a081ae88e… (all of the seat's roots in one cut). By AI agents, Wed Nov 11 2026. No macro, syntax, notation, axiom, sorry.
-/
import Derived.Test.YtkidkimjdiichaaGreatChecked
import GoSem.Claim
import GoSem.ClaimJoined
import GoSem.ClaimMapViews
import Derived.JoinedTies
import Derived.KernelRfl
namespace Go.Proofs.YtkidkimjdiichaaGreat
/- THE CELL 'sum', in the pinned program and in every row, IS THE sha256 OF THE DUMP (.gsa) THAT YtkidkimjdiichaaGreatProg.lean LOADS. Nothing in Lean hashes anything: it is a label: what it is worth is what the hold of that sum in a sandbox is worth. -/
noncomputable def Tryz.pinned : Pinned := { name := "ytkidkimjdiichaagreat", sum := "dd1bd80a081ae88e6fb30b34eac64e6ade55a1caa673eedefca14a526f361d61", checked := Tryz.checked }
namespace Rows
def none {H : Type} : Left H := { results := [], args := [] }

/-- 'radicandlaw.PolyReckons': WHATEVER THE INPUT: true; the input reads as it did. -/
def polyReckonsSpec : ChangeSpec := { name := "polyReckons", fn := fun _ => fun
  | [d1, d2] => { results := [.lit (.bool true)], args := [d1, d2] }
  | _ => none }
def polyReckonsRow : OpenClaim := { program := "ytkidkimjdiichaagreat", sum := "dd1bd80a081ae88e6fb30b34eac64e6ade55a1caa673eedefca14a526f361d61", func := "radicand/radicandlaw.PolyReckons", spec := "polyReckons", named := ["math/bits.overflowError"], apart := false }
def PolyReckonsSaid : Prop := polyReckonsRow.holds Tryz.pinned (OpenSpec.ofChange polyReckonsSpec)

/-- ITS FALSE NEIGHBOUR: 'it returns false'. Refute it at one input. -/
def polyReckonsWrong : ChangeSpec := { name := "polyReckons", fn := fun _ => fun
  | [d1, d2] => { results := [.lit (.bool false)], args := [d1, d2] }
  | _ => none }
def PolyReckonsWrongFalsely : Prop := polyReckonsRow.holds Tryz.pinned (OpenSpec.ofChange polyReckonsWrong)

/-- 'radicandlaw.PolyReads': WHATEVER THE INPUT: true; the input reads as it did. -/
def polyReadsSpec : ChangeSpec := { name := "polyReads", fn := fun _ => fun
  | [d1, d2, d3] => { results := [.lit (.bool true)], args := [d1, d2, d3] }
  | _ => none }
def polyReadsRow : OpenClaim := { program := "ytkidkimjdiichaagreat", sum := "dd1bd80a081ae88e6fb30b34eac64e6ade55a1caa673eedefca14a526f361d61", func := "radicand/radicandlaw.PolyReads", spec := "polyReads", named := ["math/bits.overflowError"], apart := false }
def PolyReadsSaid : Prop := polyReadsRow.holds Tryz.pinned (OpenSpec.ofChange polyReadsSpec)

/-- ITS FALSE NEIGHBOUR: 'it returns false'. Refute it at one input. -/
def polyReadsWrong : ChangeSpec := { name := "polyReads", fn := fun _ => fun
  | [d1, d2, d3] => { results := [.lit (.bool false)], args := [d1, d2, d3] }
  | _ => none }
def PolyReadsWrongFalsely : Prop := polyReadsRow.holds Tryz.pinned (OpenSpec.ofChange polyReadsWrong)

/-- 'radicandlaw.PolyParts': WHATEVER THE INPUT: true; the input reads as it did. -/
def polyPartsSpec : ChangeSpec := { name := "polyParts", fn := fun _ => fun
  | [d] => { results := [.lit (.bool true)], args := [d] }
  | _ => none }
def polyPartsRow : OpenClaim := { program := "ytkidkimjdiichaagreat", sum := "dd1bd80a081ae88e6fb30b34eac64e6ade55a1caa673eedefca14a526f361d61", func := "radicand/radicandlaw.PolyParts", spec := "polyParts", named := ["math/bits.overflowError"], apart := false }
def PolyPartsSaid : Prop := polyPartsRow.holds Tryz.pinned (OpenSpec.ofChange polyPartsSpec)

/-- ITS FALSE NEIGHBOUR: 'it returns false'. Refute it at one input. -/
def polyPartsWrong : ChangeSpec := { name := "polyParts", fn := fun _ => fun
  | [d] => { results := [.lit (.bool false)], args := [d] }
  | _ => none }
def PolyPartsWrongFalsely : Prop := polyPartsRow.holds Tryz.pinned (OpenSpec.ofChange polyPartsWrong)

/-- 'radicandlaw.PolyDivides': WHATEVER THE INPUT: true; the input reads as it did. -/
def polyDividesSpec : ChangeSpec := { name := "polyDivides", fn := fun _ => fun
  | [d1, d2] => { results := [.lit (.bool true)], args := [d1, d2] }
  | _ => none }
def polyDividesRow : OpenClaim := { program := "ytkidkimjdiichaagreat", sum := "dd1bd80a081ae88e6fb30b34eac64e6ade55a1caa673eedefca14a526f361d61", func := "radicand/radicandlaw.PolyDivides", spec := "polyDivides", named := ["math/bits.overflowError"], apart := false }
def PolyDividesSaid : Prop := polyDividesRow.holds Tryz.pinned (OpenSpec.ofChange polyDividesSpec)

/-- ITS FALSE NEIGHBOUR: 'it returns false'. Refute it at one input. -/
def polyDividesWrong : ChangeSpec := { name := "polyDivides", fn := fun _ => fun
  | [d1, d2] => { results := [.lit (.bool false)], args := [d1, d2] }
  | _ => none }
def PolyDividesWrongFalsely : Prop := polyDividesRow.holds Tryz.pinned (OpenSpec.ofChange polyDividesWrong)

/-- 'radicandlaw.MultiReckons': WHATEVER THE INPUT: true; the input reads as it did. -/
def multiReckonsSpec : ChangeSpec := { name := "multiReckons", fn := fun _ => fun
  | [d1, d2, d3, d4] => { results := [.lit (.bool true)], args := [d1, d2, d3, d4] }
  | _ => none }
def multiReckonsRow : OpenClaim := { program := "ytkidkimjdiichaagreat", sum := "dd1bd80a081ae88e6fb30b34eac64e6ade55a1caa673eedefca14a526f361d61", func := "radicand/radicandlaw.MultiReckons", spec := "multiReckons", unfollowed := true, recurses := true, named := ["math/bits.overflowError"], apart := false }
def MultiReckonsSaid : Prop := multiReckonsRow.holds Tryz.pinned (OpenSpec.ofChange multiReckonsSpec)

/-- ITS FALSE NEIGHBOUR: 'it returns false'. Refute it at one input. -/
def multiReckonsWrong : ChangeSpec := { name := "multiReckons", fn := fun _ => fun
  | [d1, d2, d3, d4] => { results := [.lit (.bool false)], args := [d1, d2, d3, d4] }
  | _ => none }
def MultiReckonsWrongFalsely : Prop := multiReckonsRow.holds Tryz.pinned (OpenSpec.ofChange multiReckonsWrong)

/-- 'radicandlaw.MultiValues': WHATEVER THE INPUT: true; the input reads as it did. -/
def multiValuesSpec : ChangeSpec := { name := "multiValues", fn := fun _ => fun
  | [d1, d2, d3, d4, d5] => { results := [.lit (.bool true)], args := [d1, d2, d3, d4, d5] }
  | _ => none }
def multiValuesRow : OpenClaim := { program := "ytkidkimjdiichaagreat", sum := "dd1bd80a081ae88e6fb30b34eac64e6ade55a1caa673eedefca14a526f361d61", func := "radicand/radicandlaw.MultiValues", spec := "multiValues", unfollowed := true, recurses := true, named := ["math/bits.overflowError"], apart := false }
def MultiValuesSaid : Prop := multiValuesRow.holds Tryz.pinned (OpenSpec.ofChange multiValuesSpec)

/-- ITS FALSE NEIGHBOUR: 'it returns false'. Refute it at one input. -/
def multiValuesWrong : ChangeSpec := { name := "multiValues", fn := fun _ => fun
  | [d1, d2, d3, d4, d5] => { results := [.lit (.bool false)], args := [d1, d2, d3, d4, d5] }
  | _ => none }
def MultiValuesWrongFalsely : Prop := multiValuesRow.holds Tryz.pinned (OpenSpec.ofChange multiValuesWrong)

/-- 'radicandlaw.MultiLaws': WHATEVER THE INPUT: true; the input reads as it did. -/
def multiLawsSpec : ChangeSpec := { name := "multiLaws", fn := fun _ => fun
  | [d1, d2, d3, d4, d5, d6, d7] => { results := [.lit (.bool true)], args := [d1, d2, d3, d4, d5, d6, d7] }
  | _ => none }
def multiLawsRow : OpenClaim := { program := "ytkidkimjdiichaagreat", sum := "dd1bd80a081ae88e6fb30b34eac64e6ade55a1caa673eedefca14a526f361d61", func := "radicand/radicandlaw.MultiLaws", spec := "multiLaws", unfollowed := true, recurses := true, named := ["math/bits.overflowError"], apart := false }
def MultiLawsSaid : Prop := multiLawsRow.holds Tryz.pinned (OpenSpec.ofChange multiLawsSpec)

/-- ITS FALSE NEIGHBOUR: 'it returns false'. Refute it at one input. -/
def multiLawsWrong : ChangeSpec := { name := "multiLaws", fn := fun _ => fun
  | [d1, d2, d3, d4, d5, d6, d7] => { results := [.lit (.bool false)], args := [d1, d2, d3, d4, d5, d6, d7] }
  | _ => none }
def MultiLawsWrongFalsely : Prop := multiLawsRow.holds Tryz.pinned (OpenSpec.ofChange multiLawsWrong)

/-- 'radicandlaw.SquaresRefutes': WHATEVER THE INPUT: true; the input reads as it did. -/
def squaresRefutesSpec : ChangeSpec := { name := "squaresRefutes", fn := fun _ => fun
  | [d1, d2, d3, d4, d5, d6] => { results := [.lit (.bool true)], args := [d1, d2, d3, d4, d5, d6] }
  | _ => none }
def squaresRefutesRow : OpenClaim := { program := "ytkidkimjdiichaagreat", sum := "dd1bd80a081ae88e6fb30b34eac64e6ade55a1caa673eedefca14a526f361d61", func := "radicand/radicandlaw.SquaresRefutes", spec := "squaresRefutes", unfollowed := true, recurses := true, named := ["math/bits.overflowError"], apart := false }
def SquaresRefutesSaid : Prop := squaresRefutesRow.holds Tryz.pinned (OpenSpec.ofChange squaresRefutesSpec)

/-- ITS FALSE NEIGHBOUR: 'it returns false'. Refute it at one input. -/
def squaresRefutesWrong : ChangeSpec := { name := "squaresRefutes", fn := fun _ => fun
  | [d1, d2, d3, d4, d5, d6] => { results := [.lit (.bool false)], args := [d1, d2, d3, d4, d5, d6] }
  | _ => none }
def SquaresRefutesWrongFalsely : Prop := squaresRefutesRow.holds Tryz.pinned (OpenSpec.ofChange squaresRefutesWrong)

/-- 'radicandlaw.SquaresSum': WHATEVER THE INPUT: true; the input reads as it did. -/
def squaresSumSpec : ChangeSpec := { name := "squaresSum", fn := fun _ => fun
  | [d1, d2, d3] => { results := [.lit (.bool true)], args := [d1, d2, d3] }
  | _ => none }
def squaresSumRow : OpenClaim := { program := "ytkidkimjdiichaagreat", sum := "dd1bd80a081ae88e6fb30b34eac64e6ade55a1caa673eedefca14a526f361d61", func := "radicand/radicandlaw.SquaresSum", spec := "squaresSum", unfollowed := true, recurses := true, named := ["math/bits.overflowError"], apart := false }
def SquaresSumSaid : Prop := squaresSumRow.holds Tryz.pinned (OpenSpec.ofChange squaresSumSpec)

/-- ITS FALSE NEIGHBOUR: 'it returns false'. Refute it at one input. -/
def squaresSumWrong : ChangeSpec := { name := "squaresSum", fn := fun _ => fun
  | [d1, d2, d3] => { results := [.lit (.bool false)], args := [d1, d2, d3] }
  | _ => none }
def SquaresSumWrongFalsely : Prop := squaresSumRow.holds Tryz.pinned (OpenSpec.ofChange squaresSumWrong)

/-- 'radicandlaw.LogicPrenex': WHATEVER THE INPUT: true; the input reads as it did. -/
def logicPrenexSpec : ChangeSpec := { name := "logicPrenex", fn := fun _ => fun
  | [d1, d2, d3] => { results := [.lit (.bool true)], args := [d1, d2, d3] }
  | _ => none }
def logicPrenexRow : OpenClaim := { program := "ytkidkimjdiichaagreat", sum := "dd1bd80a081ae88e6fb30b34eac64e6ade55a1caa673eedefca14a526f361d61", func := "radicand/radicandlaw.LogicPrenex", spec := "logicPrenex", unfollowed := true, recurses := true, named := ["math/bits.overflowError"], loops := true, apart := false }
def LogicPrenexSaid : Prop := logicPrenexRow.holds Tryz.pinned (OpenSpec.ofChange logicPrenexSpec)

/-- ITS FALSE NEIGHBOUR: 'it returns false'. Refute it at one input. -/
def logicPrenexWrong : ChangeSpec := { name := "logicPrenex", fn := fun _ => fun
  | [d1, d2, d3] => { results := [.lit (.bool false)], args := [d1, d2, d3] }
  | _ => none }
def LogicPrenexWrongFalsely : Prop := logicPrenexRow.holds Tryz.pinned (OpenSpec.ofChange logicPrenexWrong)

/- THE SECOND FORM. 'bulk': how many values and letters a reading holds, each counted each time it is reached (what is shared counts as often as it is met; a slice's spare places count too). A statement '..UptoSaid' is the law's where the arguments, and the package variables that the reading takes, are together of bulk at most 1048576: NARROWER than '..Said'. Prove '..Said' where nothing that the law and all that it calls make is longer than what came in: it says more and counts as full. Else prove '..UptoSaid'. A law counts once. -/
mutual
def uptoBulk {H : Type} : DataW H → Nat
  | .lit (.string bytes) => bytes.length + 1
  | .lit _ => 1
  | .nil => 1
  | .ptr d => uptoBulk d + 1
  | .slice elems spare => uptoBulkAll elems + uptoBulkAll spare + 1
  | .agg parts => uptoBulkAll parts + 1
  | .iface _ d => uptoBulk d + 1
  | .map entries => uptoBulkEntries entries + 1
  | .held _ => 1
def uptoBulkAll {H : Type} : List (DataW H) → Nat
  | [] => 0
  | d :: r => uptoBulk d + uptoBulkAll r
def uptoBulkEntries {H : Type} : List (Lit × DataW H) → Nat
  | [] => 0
  | x :: r => uptoBulkEntry x + uptoBulkEntries r
def uptoBulkEntry {H : Type} : Lit × DataW H → Nat
  | (.string bytes, d) => bytes.length + uptoBulk d + 1
  | (_, d) => uptoBulk d + 1
 end
def uptoSmall : (H : Type) → List (DataW H) → Bool := fun _ ds => decide (uptoBulkAll ds ≤ 1048576)
def OpenSpec.upto (s : _root_.Go.ChangeSpec) : _root_.Go.OpenSpec := { _root_.Go.OpenSpec.ofChange s with cond := some uptoSmall }

/-- 'radicandlaw.PolyReckons', WHERE WHAT IT READS IS OF BULK AT MOST 1048576: true; the input reads as it did. -/
def polyReckonsUptoRow : OpenClaim := { program := "ytkidkimjdiichaagreat", sum := "dd1bd80a081ae88e6fb30b34eac64e6ade55a1caa673eedefca14a526f361d61", func := "radicand/radicandlaw.PolyReckons", spec := "polyReckons", named := ["math/bits.overflowError"], apart := false, narrowed := true }
def PolyReckonsUptoSaid : Prop := polyReckonsUptoRow.holds Tryz.pinned (OpenSpec.upto polyReckonsSpec)

/-- 'radicandlaw.PolyReads', WHERE WHAT IT READS IS OF BULK AT MOST 1048576: true; the input reads as it did. -/
def polyReadsUptoRow : OpenClaim := { program := "ytkidkimjdiichaagreat", sum := "dd1bd80a081ae88e6fb30b34eac64e6ade55a1caa673eedefca14a526f361d61", func := "radicand/radicandlaw.PolyReads", spec := "polyReads", named := ["math/bits.overflowError"], apart := false, narrowed := true }
def PolyReadsUptoSaid : Prop := polyReadsUptoRow.holds Tryz.pinned (OpenSpec.upto polyReadsSpec)

/-- 'radicandlaw.PolyParts', WHERE WHAT IT READS IS OF BULK AT MOST 1048576: true; the input reads as it did. -/
def polyPartsUptoRow : OpenClaim := { program := "ytkidkimjdiichaagreat", sum := "dd1bd80a081ae88e6fb30b34eac64e6ade55a1caa673eedefca14a526f361d61", func := "radicand/radicandlaw.PolyParts", spec := "polyParts", named := ["math/bits.overflowError"], apart := false, narrowed := true }
def PolyPartsUptoSaid : Prop := polyPartsUptoRow.holds Tryz.pinned (OpenSpec.upto polyPartsSpec)

/-- 'radicandlaw.PolyDivides', WHERE WHAT IT READS IS OF BULK AT MOST 1048576: true; the input reads as it did. -/
def polyDividesUptoRow : OpenClaim := { program := "ytkidkimjdiichaagreat", sum := "dd1bd80a081ae88e6fb30b34eac64e6ade55a1caa673eedefca14a526f361d61", func := "radicand/radicandlaw.PolyDivides", spec := "polyDivides", named := ["math/bits.overflowError"], apart := false, narrowed := true }
def PolyDividesUptoSaid : Prop := polyDividesUptoRow.holds Tryz.pinned (OpenSpec.upto polyDividesSpec)

/-- 'radicandlaw.MultiReckons', WHERE WHAT IT READS IS OF BULK AT MOST 1048576: true; the input reads as it did. -/
def multiReckonsUptoRow : OpenClaim := { program := "ytkidkimjdiichaagreat", sum := "dd1bd80a081ae88e6fb30b34eac64e6ade55a1caa673eedefca14a526f361d61", func := "radicand/radicandlaw.MultiReckons", spec := "multiReckons", unfollowed := true, recurses := true, named := ["math/bits.overflowError"], apart := false, narrowed := true }
def MultiReckonsUptoSaid : Prop := multiReckonsUptoRow.holds Tryz.pinned (OpenSpec.upto multiReckonsSpec)

/-- 'radicandlaw.MultiValues', WHERE WHAT IT READS IS OF BULK AT MOST 1048576: true; the input reads as it did. -/
def multiValuesUptoRow : OpenClaim := { program := "ytkidkimjdiichaagreat", sum := "dd1bd80a081ae88e6fb30b34eac64e6ade55a1caa673eedefca14a526f361d61", func := "radicand/radicandlaw.MultiValues", spec := "multiValues", unfollowed := true, recurses := true, named := ["math/bits.overflowError"], apart := false, narrowed := true }
def MultiValuesUptoSaid : Prop := multiValuesUptoRow.holds Tryz.pinned (OpenSpec.upto multiValuesSpec)

/-- 'radicandlaw.MultiLaws', WHERE WHAT IT READS IS OF BULK AT MOST 1048576: true; the input reads as it did. -/
def multiLawsUptoRow : OpenClaim := { program := "ytkidkimjdiichaagreat", sum := "dd1bd80a081ae88e6fb30b34eac64e6ade55a1caa673eedefca14a526f361d61", func := "radicand/radicandlaw.MultiLaws", spec := "multiLaws", unfollowed := true, recurses := true, named := ["math/bits.overflowError"], apart := false, narrowed := true }
def MultiLawsUptoSaid : Prop := multiLawsUptoRow.holds Tryz.pinned (OpenSpec.upto multiLawsSpec)

/-- 'radicandlaw.SquaresRefutes', WHERE WHAT IT READS IS OF BULK AT MOST 1048576: true; the input reads as it did. -/
def squaresRefutesUptoRow : OpenClaim := { program := "ytkidkimjdiichaagreat", sum := "dd1bd80a081ae88e6fb30b34eac64e6ade55a1caa673eedefca14a526f361d61", func := "radicand/radicandlaw.SquaresRefutes", spec := "squaresRefutes", unfollowed := true, recurses := true, named := ["math/bits.overflowError"], apart := false, narrowed := true }
def SquaresRefutesUptoSaid : Prop := squaresRefutesUptoRow.holds Tryz.pinned (OpenSpec.upto squaresRefutesSpec)

/-- 'radicandlaw.SquaresSum', WHERE WHAT IT READS IS OF BULK AT MOST 1048576: true; the input reads as it did. -/
def squaresSumUptoRow : OpenClaim := { program := "ytkidkimjdiichaagreat", sum := "dd1bd80a081ae88e6fb30b34eac64e6ade55a1caa673eedefca14a526f361d61", func := "radicand/radicandlaw.SquaresSum", spec := "squaresSum", unfollowed := true, recurses := true, named := ["math/bits.overflowError"], apart := false, narrowed := true }
def SquaresSumUptoSaid : Prop := squaresSumUptoRow.holds Tryz.pinned (OpenSpec.upto squaresSumSpec)

/-- 'radicandlaw.LogicPrenex', WHERE WHAT IT READS IS OF BULK AT MOST 1048576: true; the input reads as it did. -/
def logicPrenexUptoRow : OpenClaim := { program := "ytkidkimjdiichaagreat", sum := "dd1bd80a081ae88e6fb30b34eac64e6ade55a1caa673eedefca14a526f361d61", func := "radicand/radicandlaw.LogicPrenex", spec := "logicPrenex", unfollowed := true, recurses := true, named := ["math/bits.overflowError"], loops := true, apart := false, narrowed := true }
def LogicPrenexUptoSaid : Prop := logicPrenexUptoRow.holds Tryz.pinned (OpenSpec.upto logicPrenexSpec)

end Rows
end Go.Proofs.YtkidkimjdiichaaGreat
