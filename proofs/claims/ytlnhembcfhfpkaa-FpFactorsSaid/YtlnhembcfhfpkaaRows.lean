/-
  No cell of these rows narrows 'for every input' (looked for: loops, veiled, ifaces, maps, wideKeys, modest, calm, conditions, laid).
  DERIVED. THE GIVEN ROWS OF THIS SEAT. 5 by the template 'for every input the law returns true; each argument reads behind the call as it read before'; 0 by the template 'total and deterministic' (their statements: YtlnhembcfhfpkaaTotals.lean).
  GIVEN WITH THE SEED: the statements are not yours to turn. If you find one false, say at which input.
  Laid BY PROGRAM, IN A SANDBOX (cutbox-rows.mjs): the forced cells as the released guide's own fill.sh prints them over the translation 8b976a5a536d9bed… (all of the seat's roots in one cut). By AI agents, Wed Nov 11 2026. No macro, syntax, notation, axiom, sorry.
-/
import Derived.Test.YtlnhembcfhfpkaaChecked
import GoSem.Claim
import GoSem.ClaimJoined
import GoSem.ClaimMapViews
import Derived.JoinedTies
import Derived.KernelRfl
namespace Go.Proofs.Ytlnhembcfhfpkaa
/- THE CELL 'sum', in the pinned program and in every row, IS THE sha256 OF THE DUMP (.gsa) THAT YtlnhembcfhfpkaaProg.lean LOADS. Nothing in Lean hashes anything: it is a label: what it is worth is what the hold of that sum in a sandbox is worth. -/
noncomputable def Try.pinned : Pinned := { name := "ytlnhembcfhfpkaa", sum := "8b976a5a536d9bedc0159b73cf9c0239375e4a706d4b3d4e194d688fe18ac696", checked := Try.checked }
namespace Rows
def none {H : Type} : Left H := { results := [], args := [] }

/-- 'radicandlaw.FpGcds': WHATEVER THE INPUT: true; the input reads as it did. -/
def fpGcdsSpec : ChangeSpec := { name := "fpGcds", fn := fun _ => fun
  | [d1, d2, d3] => { results := [.lit (.bool true)], args := [d1, d2, d3] }
  | _ => none }
def fpGcdsRow : OpenClaim := { program := "ytlnhembcfhfpkaa", sum := "8b976a5a536d9bedc0159b73cf9c0239375e4a706d4b3d4e194d688fe18ac696", func := "radicand/radicandlaw.FpGcds", spec := "fpGcds", unfollowed := true, recurses := true, apart := false }
def FpGcdsSaid : Prop := fpGcdsRow.holds Try.pinned (OpenSpec.ofChange fpGcdsSpec)

/-- ITS FALSE NEIGHBOUR: 'it returns false'. Refute it at one input. -/
def fpGcdsWrong : ChangeSpec := { name := "fpGcds", fn := fun _ => fun
  | [d1, d2, d3] => { results := [.lit (.bool false)], args := [d1, d2, d3] }
  | _ => none }
def FpGcdsWrongFalsely : Prop := fpGcdsRow.holds Try.pinned (OpenSpec.ofChange fpGcdsWrong)

/-- 'radicandlaw.FpUnique': WHATEVER THE INPUT: true; the input reads as it did. -/
def fpUniqueSpec : ChangeSpec := { name := "fpUnique", fn := fun _ => fun
  | [d1, d2, d3] => { results := [.lit (.bool true)], args := [d1, d2, d3] }
  | _ => none }
def fpUniqueRow : OpenClaim := { program := "ytlnhembcfhfpkaa", sum := "8b976a5a536d9bedc0159b73cf9c0239375e4a706d4b3d4e194d688fe18ac696", func := "radicand/radicandlaw.FpUnique", spec := "fpUnique", unfollowed := true, recurses := true, apart := false }
def FpUniqueSaid : Prop := fpUniqueRow.holds Try.pinned (OpenSpec.ofChange fpUniqueSpec)

/-- ITS FALSE NEIGHBOUR: 'it returns false'. Refute it at one input. -/
def fpUniqueWrong : ChangeSpec := { name := "fpUnique", fn := fun _ => fun
  | [d1, d2, d3] => { results := [.lit (.bool false)], args := [d1, d2, d3] }
  | _ => none }
def FpUniqueWrongFalsely : Prop := fpUniqueRow.holds Try.pinned (OpenSpec.ofChange fpUniqueWrong)

/-- 'radicandlaw.FpFermat': WHATEVER THE INPUT: true; the input reads as it did. -/
def fpFermatSpec : ChangeSpec := { name := "fpFermat", fn := fun _ => fun
  | [d1, d2, d3] => { results := [.lit (.bool true)], args := [d1, d2, d3] }
  | _ => none }
def fpFermatRow : OpenClaim := { program := "ytlnhembcfhfpkaa", sum := "8b976a5a536d9bedc0159b73cf9c0239375e4a706d4b3d4e194d688fe18ac696", func := "radicand/radicandlaw.FpFermat", spec := "fpFermat", unfollowed := true, recurses := true, apart := false }
def FpFermatSaid : Prop := fpFermatRow.holds Try.pinned (OpenSpec.ofChange fpFermatSpec)

/-- ITS FALSE NEIGHBOUR: 'it returns false'. Refute it at one input. -/
def fpFermatWrong : ChangeSpec := { name := "fpFermat", fn := fun _ => fun
  | [d1, d2, d3] => { results := [.lit (.bool false)], args := [d1, d2, d3] }
  | _ => none }
def FpFermatWrongFalsely : Prop := fpFermatRow.holds Try.pinned (OpenSpec.ofChange fpFermatWrong)

/-- 'radicandlaw.FpReckons': WHATEVER THE INPUT: true; the input reads as it did. -/
def fpReckonsSpec : ChangeSpec := { name := "fpReckons", fn := fun _ => fun
  | [d1, d2, d3, d4] => { results := [.lit (.bool true)], args := [d1, d2, d3, d4] }
  | _ => none }
def fpReckonsRow : OpenClaim := { program := "ytlnhembcfhfpkaa", sum := "8b976a5a536d9bedc0159b73cf9c0239375e4a706d4b3d4e194d688fe18ac696", func := "radicand/radicandlaw.FpReckons", spec := "fpReckons", unfollowed := true, recurses := true, apart := false }
def FpReckonsSaid : Prop := fpReckonsRow.holds Try.pinned (OpenSpec.ofChange fpReckonsSpec)

/-- ITS FALSE NEIGHBOUR: 'it returns false'. Refute it at one input. -/
def fpReckonsWrong : ChangeSpec := { name := "fpReckons", fn := fun _ => fun
  | [d1, d2, d3, d4] => { results := [.lit (.bool false)], args := [d1, d2, d3, d4] }
  | _ => none }
def FpReckonsWrongFalsely : Prop := fpReckonsRow.holds Try.pinned (OpenSpec.ofChange fpReckonsWrong)

/-- 'radicandlaw.FpFactors': WHATEVER THE INPUT: true; the input reads as it did. -/
def fpFactorsSpec : ChangeSpec := { name := "fpFactors", fn := fun _ => fun
  | [d1, d2] => { results := [.lit (.bool true)], args := [d1, d2] }
  | _ => none }
def fpFactorsRow : OpenClaim := { program := "ytlnhembcfhfpkaa", sum := "8b976a5a536d9bedc0159b73cf9c0239375e4a706d4b3d4e194d688fe18ac696", func := "radicand/radicandlaw.FpFactors", spec := "fpFactors", unfollowed := true, recurses := true, apart := false }
def FpFactorsSaid : Prop := fpFactorsRow.holds Try.pinned (OpenSpec.ofChange fpFactorsSpec)

/-- ITS FALSE NEIGHBOUR: 'it returns false'. Refute it at one input. -/
def fpFactorsWrong : ChangeSpec := { name := "fpFactors", fn := fun _ => fun
  | [d1, d2] => { results := [.lit (.bool false)], args := [d1, d2] }
  | _ => none }
def FpFactorsWrongFalsely : Prop := fpFactorsRow.holds Try.pinned (OpenSpec.ofChange fpFactorsWrong)

/- THE SECOND FORM. 'bulk': how many values and letters a reading holds, each counted each time it is reached (what is shared counts as often as it is met; a slice's spare places count too). A statement '..UptoSaid' is the law's where the arguments, and the package variables that the reading takes, are together of bulk at most 1048576: NARROWER than '..Said'. Prove '..Said' where nothing that the law and all that it calls make is longer than what came in: it says more and counts as full. Else prove '..UptoSaid'. A law counts once. -/
mutual
def uptoBulk {H : Type} : DataW H → Nat
  | .lit (.string bytes) => bytes.length + 1
  | .lit _ => 1
  | .nil => 1
  | .ptr d => uptoBulk d + 1
  | .slice elems spare => uptoBulkAll elems + uptoBulkAll spare + 1
  | .agg parts => uptoBulkAll parts + 1
  | .iface _ d => uptoBulk d + 1
  | .map entries => uptoBulkEntries entries + 1
  | .held _ => 1
def uptoBulkAll {H : Type} : List (DataW H) → Nat
  | [] => 0
  | d :: r => uptoBulk d + uptoBulkAll r
def uptoBulkEntries {H : Type} : List (Lit × DataW H) → Nat
  | [] => 0
  | x :: r => uptoBulkEntry x + uptoBulkEntries r
def uptoBulkEntry {H : Type} : Lit × DataW H → Nat
  | (.string bytes, d) => bytes.length + uptoBulk d + 1
  | (_, d) => uptoBulk d + 1
 end
def uptoSmall : (H : Type) → List (DataW H) → Bool := fun _ ds => decide (uptoBulkAll ds ≤ 1048576)
def OpenSpec.upto (s : _root_.Go.ChangeSpec) : _root_.Go.OpenSpec := { _root_.Go.OpenSpec.ofChange s with cond := some uptoSmall }

/-- 'radicandlaw.FpGcds', WHERE WHAT IT READS IS OF BULK AT MOST 1048576: true; the input reads as it did. -/
def fpGcdsUptoRow : OpenClaim := { program := "ytlnhembcfhfpkaa", sum := "8b976a5a536d9bedc0159b73cf9c0239375e4a706d4b3d4e194d688fe18ac696", func := "radicand/radicandlaw.FpGcds", spec := "fpGcds", unfollowed := true, recurses := true, apart := false, narrowed := true }
def FpGcdsUptoSaid : Prop := fpGcdsUptoRow.holds Try.pinned (OpenSpec.upto fpGcdsSpec)

/-- 'radicandlaw.FpUnique', WHERE WHAT IT READS IS OF BULK AT MOST 1048576: true; the input reads as it did. -/
def fpUniqueUptoRow : OpenClaim := { program := "ytlnhembcfhfpkaa", sum := "8b976a5a536d9bedc0159b73cf9c0239375e4a706d4b3d4e194d688fe18ac696", func := "radicand/radicandlaw.FpUnique", spec := "fpUnique", unfollowed := true, recurses := true, apart := false, narrowed := true }
def FpUniqueUptoSaid : Prop := fpUniqueUptoRow.holds Try.pinned (OpenSpec.upto fpUniqueSpec)

/-- 'radicandlaw.FpFermat', WHERE WHAT IT READS IS OF BULK AT MOST 1048576: true; the input reads as it did. -/
def fpFermatUptoRow : OpenClaim := { program := "ytlnhembcfhfpkaa", sum := "8b976a5a536d9bedc0159b73cf9c0239375e4a706d4b3d4e194d688fe18ac696", func := "radicand/radicandlaw.FpFermat", spec := "fpFermat", unfollowed := true, recurses := true, apart := false, narrowed := true }
def FpFermatUptoSaid : Prop := fpFermatUptoRow.holds Try.pinned (OpenSpec.upto fpFermatSpec)

/-- 'radicandlaw.FpReckons', WHERE WHAT IT READS IS OF BULK AT MOST 1048576: true; the input reads as it did. -/
def fpReckonsUptoRow : OpenClaim := { program := "ytlnhembcfhfpkaa", sum := "8b976a5a536d9bedc0159b73cf9c0239375e4a706d4b3d4e194d688fe18ac696", func := "radicand/radicandlaw.FpReckons", spec := "fpReckons", unfollowed := true, recurses := true, apart := false, narrowed := true }
def FpReckonsUptoSaid : Prop := fpReckonsUptoRow.holds Try.pinned (OpenSpec.upto fpReckonsSpec)

/-- 'radicandlaw.FpFactors', WHERE WHAT IT READS IS OF BULK AT MOST 1048576: true; the input reads as it did. -/
def fpFactorsUptoRow : OpenClaim := { program := "ytlnhembcfhfpkaa", sum := "8b976a5a536d9bedc0159b73cf9c0239375e4a706d4b3d4e194d688fe18ac696", func := "radicand/radicandlaw.FpFactors", spec := "fpFactors", unfollowed := true, recurses := true, apart := false, narrowed := true }
def FpFactorsUptoSaid : Prop := fpFactorsUptoRow.holds Try.pinned (OpenSpec.upto fpFactorsSpec)

end Rows
end Go.Proofs.Ytlnhembcfhfpkaa
