/-
  No cell of these rows narrows 'for every input' (looked for: loops, veiled, ifaces, maps, wideKeys, modest, calm, conditions, laid).
  DERIVED. THE GIVEN ROWS OF THIS SEAT. 6 by the template 'for every input the law returns true; each argument reads behind the call as it read before'; 0 by the template 'total and deterministic' (their statements: YtojpcbbmbnmchaaTotals.lean).
  GIVEN WITH THE SEED: the statements are not yours to turn. If you find one false, say at which input.
  Laid BY PROGRAM, IN A SANDBOX (cutbox-rows.mjs): the forced cells as the released guide's own fill.sh prints them over the translation be5de4a5137c2666… (all of the seat's roots in one cut). By AI agents, Wed Nov 11 2026. No macro, syntax, notation, axiom, sorry.
-/
import Derived.Test.YtojpcbbmbnmchaaChecked
import GoSem.Claim
import GoSem.ClaimJoined
import GoSem.ClaimMapViews
import Derived.JoinedTies
import Derived.KernelRfl
namespace Go.Proofs.Ytojpcbbmbnmchaa
/- THE CELL 'sum', in the pinned program and in every row, IS THE sha256 OF THE DUMP (.gsa) THAT YtojpcbbmbnmchaaProg.lean LOADS. Nothing in Lean hashes anything: it is a label: what it is worth is what the hold of that sum in a sandbox is worth. -/
noncomputable def Try.pinned : Pinned := { name := "ytojpcbbmbnmchaa", sum := "be5de4a5137c266683949423787d899fa106e2e607a60a8557618ebef9bd4fcd", checked := Try.checked }
namespace Rows
def none {H : Type} : Left H := { results := [], args := [] }

/-- 'laws.FnExactMoveSide': WHATEVER THE INPUT: true; the input reads as it did. -/
def fnExactMoveSideSpec : ChangeSpec := { name := "fnExactMoveSide", fn := fun _ => fun
  | [d1, d2, d3] => { results := [.lit (.bool true)], args := [d1, d2, d3] }
  | _ => none }
def fnExactMoveSideRow : OpenClaim := { program := "ytojpcbbmbnmchaa", sum := "be5de4a5137c266683949423787d899fa106e2e607a60a8557618ebef9bd4fcd", func := "loop.example/g01252/laws.FnExactMoveSide", spec := "fnExactMoveSide", named := ["math/bits.divideError", "math/bits.overflowError"], apart := false }
def FnExactMoveSideSaid : Prop := fnExactMoveSideRow.holds Try.pinned (OpenSpec.ofChange fnExactMoveSideSpec)

/-- ITS FALSE NEIGHBOUR: 'it returns false'. Refute it at one input. -/
def fnExactMoveSideWrong : ChangeSpec := { name := "fnExactMoveSide", fn := fun _ => fun
  | [d1, d2, d3] => { results := [.lit (.bool false)], args := [d1, d2, d3] }
  | _ => none }
def FnExactMoveSideWrongFalsely : Prop := fnExactMoveSideRow.holds Try.pinned (OpenSpec.ofChange fnExactMoveSideWrong)

/-- 'laws.FnExactTriangularPart': WHATEVER THE INPUT: true; the input reads as it did. -/
def fnExactTriangularPartSpec : ChangeSpec := { name := "fnExactTriangularPart", fn := fun _ => fun
  | [d1, d2] => { results := [.lit (.bool true)], args := [d1, d2] }
  | _ => none }
def fnExactTriangularPartRow : OpenClaim := { program := "ytojpcbbmbnmchaa", sum := "be5de4a5137c266683949423787d899fa106e2e607a60a8557618ebef9bd4fcd", func := "loop.example/g01252/laws.FnExactTriangularPart", spec := "fnExactTriangularPart", named := ["math/bits.divideError", "math/bits.overflowError"], apart := false }
def FnExactTriangularPartSaid : Prop := fnExactTriangularPartRow.holds Try.pinned (OpenSpec.ofChange fnExactTriangularPartSpec)

/-- ITS FALSE NEIGHBOUR: 'it returns false'. Refute it at one input. -/
def fnExactTriangularPartWrong : ChangeSpec := { name := "fnExactTriangularPart", fn := fun _ => fun
  | [d1, d2] => { results := [.lit (.bool false)], args := [d1, d2] }
  | _ => none }
def FnExactTriangularPartWrongFalsely : Prop := fnExactTriangularPartRow.holds Try.pinned (OpenSpec.ofChange fnExactTriangularPartWrong)

/-- 'laws.FnExactUnitPart': WHATEVER THE INPUT: true; the input reads as it did. -/
def fnExactUnitPartSpec : ChangeSpec := { name := "fnExactUnitPart", fn := fun _ => fun
  | [d1, d2] => { results := [.lit (.bool true)], args := [d1, d2] }
  | _ => none }
def fnExactUnitPartRow : OpenClaim := { program := "ytojpcbbmbnmchaa", sum := "be5de4a5137c266683949423787d899fa106e2e607a60a8557618ebef9bd4fcd", func := "loop.example/g01252/laws.FnExactUnitPart", spec := "fnExactUnitPart", named := ["math/bits.divideError", "math/bits.overflowError"], apart := false }
def FnExactUnitPartSaid : Prop := fnExactUnitPartRow.holds Try.pinned (OpenSpec.ofChange fnExactUnitPartSpec)

/-- ITS FALSE NEIGHBOUR: 'it returns false'. Refute it at one input. -/
def fnExactUnitPartWrong : ChangeSpec := { name := "fnExactUnitPart", fn := fun _ => fun
  | [d1, d2] => { results := [.lit (.bool false)], args := [d1, d2] }
  | _ => none }
def FnExactUnitPartWrongFalsely : Prop := fnExactUnitPartRow.holds Try.pinned (OpenSpec.ofChange fnExactUnitPartWrong)

/-- 'laws.FnExactStepsOfMatrix': WHATEVER THE INPUT: true; the input reads as it did. -/
def fnExactStepsOfMatrixSpec : ChangeSpec := { name := "fnExactStepsOfMatrix", fn := fun _ => fun
  | [d1, d2] => { results := [.lit (.bool true)], args := [d1, d2] }
  | _ => none }
def fnExactStepsOfMatrixRow : OpenClaim := { program := "ytojpcbbmbnmchaa", sum := "be5de4a5137c266683949423787d899fa106e2e607a60a8557618ebef9bd4fcd", func := "loop.example/g01252/laws.FnExactStepsOfMatrix", spec := "fnExactStepsOfMatrix", named := ["math/bits.divideError", "math/bits.overflowError"], apart := false }
def FnExactStepsOfMatrixSaid : Prop := fnExactStepsOfMatrixRow.holds Try.pinned (OpenSpec.ofChange fnExactStepsOfMatrixSpec)

/-- ITS FALSE NEIGHBOUR: 'it returns false'. Refute it at one input. -/
def fnExactStepsOfMatrixWrong : ChangeSpec := { name := "fnExactStepsOfMatrix", fn := fun _ => fun
  | [d1, d2] => { results := [.lit (.bool false)], args := [d1, d2] }
  | _ => none }
def FnExactStepsOfMatrixWrongFalsely : Prop := fnExactStepsOfMatrixRow.holds Try.pinned (OpenSpec.ofChange fnExactStepsOfMatrixWrong)

/-- 'laws.FnExactIsFree': WHATEVER THE INPUT: true; the input reads as it did. -/
def fnExactIsFreeSpec : ChangeSpec := { name := "fnExactIsFree", fn := fun _ => fun
  | [d1, d2, d3] => { results := [.lit (.bool true)], args := [d1, d2, d3] }
  | _ => none }
def fnExactIsFreeRow : OpenClaim := { program := "ytojpcbbmbnmchaa", sum := "be5de4a5137c266683949423787d899fa106e2e607a60a8557618ebef9bd4fcd", func := "loop.example/g01252/laws.FnExactIsFree", spec := "fnExactIsFree", named := ["math/bits.divideError", "math/bits.overflowError"], apart := false }
def FnExactIsFreeSaid : Prop := fnExactIsFreeRow.holds Try.pinned (OpenSpec.ofChange fnExactIsFreeSpec)

/-- ITS FALSE NEIGHBOUR: 'it returns false'. Refute it at one input. -/
def fnExactIsFreeWrong : ChangeSpec := { name := "fnExactIsFree", fn := fun _ => fun
  | [d1, d2, d3] => { results := [.lit (.bool false)], args := [d1, d2, d3] }
  | _ => none }
def FnExactIsFreeWrongFalsely : Prop := fnExactIsFreeRow.holds Try.pinned (OpenSpec.ofChange fnExactIsFreeWrong)

/-- 'laws.FnExactSideOfWord': WHATEVER THE INPUT: true; the input reads as it did. -/
def fnExactSideOfWordSpec : ChangeSpec := { name := "fnExactSideOfWord", fn := fun _ => fun
  | [d1, d2, d3, d4] => { results := [.lit (.bool true)], args := [d1, d2, d3, d4] }
  | _ => none }
def fnExactSideOfWordRow : OpenClaim := { program := "ytojpcbbmbnmchaa", sum := "be5de4a5137c266683949423787d899fa106e2e607a60a8557618ebef9bd4fcd", func := "loop.example/g01252/laws.FnExactSideOfWord", spec := "fnExactSideOfWord", named := ["math/bits.divideError", "math/bits.overflowError"], apart := false }
def FnExactSideOfWordSaid : Prop := fnExactSideOfWordRow.holds Try.pinned (OpenSpec.ofChange fnExactSideOfWordSpec)

/-- ITS FALSE NEIGHBOUR: 'it returns false'. Refute it at one input. -/
def fnExactSideOfWordWrong : ChangeSpec := { name := "fnExactSideOfWord", fn := fun _ => fun
  | [d1, d2, d3, d4] => { results := [.lit (.bool false)], args := [d1, d2, d3, d4] }
  | _ => none }
def FnExactSideOfWordWrongFalsely : Prop := fnExactSideOfWordRow.holds Try.pinned (OpenSpec.ofChange fnExactSideOfWordWrong)

/- THE SECOND FORM. 'bulk': how many values and letters a reading holds, each counted each time it is reached (what is shared counts as often as it is met; a slice's spare places count too). A statement '..UptoSaid' is the law's where the arguments, and the package variables that the reading takes, are together of bulk at most 1048576: NARROWER than '..Said'. Prove '..Said' where nothing that the law and all that it calls make is longer than what came in: it says more and counts as full. Else prove '..UptoSaid'. A law counts once. -/
mutual
def uptoBulk {H : Type} : DataW H → Nat
  | .lit (.string bytes) => bytes.length + 1
  | .lit _ => 1
  | .nil => 1
  | .ptr d => uptoBulk d + 1
  | .slice elems spare => uptoBulkAll elems + uptoBulkAll spare + 1
  | .agg parts => uptoBulkAll parts + 1
  | .iface _ d => uptoBulk d + 1
  | .map entries => uptoBulkEntries entries + 1
  | .held _ => 1
def uptoBulkAll {H : Type} : List (DataW H) → Nat
  | [] => 0
  | d :: r => uptoBulk d + uptoBulkAll r
def uptoBulkEntries {H : Type} : List (Lit × DataW H) → Nat
  | [] => 0
  | x :: r => uptoBulkEntry x + uptoBulkEntries r
def uptoBulkEntry {H : Type} : Lit × DataW H → Nat
  | (.string bytes, d) => bytes.length + uptoBulk d + 1
  | (_, d) => uptoBulk d + 1
 end
def uptoSmall : (H : Type) → List (DataW H) → Bool := fun _ ds => decide (uptoBulkAll ds ≤ 1048576)
def OpenSpec.upto (s : _root_.Go.ChangeSpec) : _root_.Go.OpenSpec := { _root_.Go.OpenSpec.ofChange s with cond := some uptoSmall }

/-- 'laws.FnExactMoveSide', WHERE WHAT IT READS IS OF BULK AT MOST 1048576: true; the input reads as it did. -/
def fnExactMoveSideUptoRow : OpenClaim := { program := "ytojpcbbmbnmchaa", sum := "be5de4a5137c266683949423787d899fa106e2e607a60a8557618ebef9bd4fcd", func := "loop.example/g01252/laws.FnExactMoveSide", spec := "fnExactMoveSide", named := ["math/bits.divideError", "math/bits.overflowError"], apart := false, narrowed := true }
def FnExactMoveSideUptoSaid : Prop := fnExactMoveSideUptoRow.holds Try.pinned (OpenSpec.upto fnExactMoveSideSpec)

/-- 'laws.FnExactTriangularPart', WHERE WHAT IT READS IS OF BULK AT MOST 1048576: true; the input reads as it did. -/
def fnExactTriangularPartUptoRow : OpenClaim := { program := "ytojpcbbmbnmchaa", sum := "be5de4a5137c266683949423787d899fa106e2e607a60a8557618ebef9bd4fcd", func := "loop.example/g01252/laws.FnExactTriangularPart", spec := "fnExactTriangularPart", named := ["math/bits.divideError", "math/bits.overflowError"], apart := false, narrowed := true }
def FnExactTriangularPartUptoSaid : Prop := fnExactTriangularPartUptoRow.holds Try.pinned (OpenSpec.upto fnExactTriangularPartSpec)

/-- 'laws.FnExactUnitPart', WHERE WHAT IT READS IS OF BULK AT MOST 1048576: true; the input reads as it did. -/
def fnExactUnitPartUptoRow : OpenClaim := { program := "ytojpcbbmbnmchaa", sum := "be5de4a5137c266683949423787d899fa106e2e607a60a8557618ebef9bd4fcd", func := "loop.example/g01252/laws.FnExactUnitPart", spec := "fnExactUnitPart", named := ["math/bits.divideError", "math/bits.overflowError"], apart := false, narrowed := true }
def FnExactUnitPartUptoSaid : Prop := fnExactUnitPartUptoRow.holds Try.pinned (OpenSpec.upto fnExactUnitPartSpec)

/-- 'laws.FnExactStepsOfMatrix', WHERE WHAT IT READS IS OF BULK AT MOST 1048576: true; the input reads as it did. -/
def fnExactStepsOfMatrixUptoRow : OpenClaim := { program := "ytojpcbbmbnmchaa", sum := "be5de4a5137c266683949423787d899fa106e2e607a60a8557618ebef9bd4fcd", func := "loop.example/g01252/laws.FnExactStepsOfMatrix", spec := "fnExactStepsOfMatrix", named := ["math/bits.divideError", "math/bits.overflowError"], apart := false, narrowed := true }
def FnExactStepsOfMatrixUptoSaid : Prop := fnExactStepsOfMatrixUptoRow.holds Try.pinned (OpenSpec.upto fnExactStepsOfMatrixSpec)

/-- 'laws.FnExactIsFree', WHERE WHAT IT READS IS OF BULK AT MOST 1048576: true; the input reads as it did. -/
def fnExactIsFreeUptoRow : OpenClaim := { program := "ytojpcbbmbnmchaa", sum := "be5de4a5137c266683949423787d899fa106e2e607a60a8557618ebef9bd4fcd", func := "loop.example/g01252/laws.FnExactIsFree", spec := "fnExactIsFree", named := ["math/bits.divideError", "math/bits.overflowError"], apart := false, narrowed := true }
def FnExactIsFreeUptoSaid : Prop := fnExactIsFreeUptoRow.holds Try.pinned (OpenSpec.upto fnExactIsFreeSpec)

/-- 'laws.FnExactSideOfWord', WHERE WHAT IT READS IS OF BULK AT MOST 1048576: true; the input reads as it did. -/
def fnExactSideOfWordUptoRow : OpenClaim := { program := "ytojpcbbmbnmchaa", sum := "be5de4a5137c266683949423787d899fa106e2e607a60a8557618ebef9bd4fcd", func := "loop.example/g01252/laws.FnExactSideOfWord", spec := "fnExactSideOfWord", named := ["math/bits.divideError", "math/bits.overflowError"], apart := false, narrowed := true }
def FnExactSideOfWordUptoSaid : Prop := fnExactSideOfWordUptoRow.holds Try.pinned (OpenSpec.upto fnExactSideOfWordSpec)

end Rows
end Go.Proofs.Ytojpcbbmbnmchaa
