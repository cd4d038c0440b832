/-
  No cell of these rows narrows 'for every input' (looked for: loops, veiled, ifaces, maps, wideKeys, modest, calm, conditions, laid).
  DERIVED. THE GIVEN ROWS OF THIS SEAT. 6 by the template 'for every input the law returns true; each argument reads behind the call as it read before'; 0 by the template 'total and deterministic' (their statements: YtbelfnmmmllolaaTotals.lean).
  GIVEN WITH THE SEED: the statements are not yours to turn. If you find one false, say at which input.
  Laid BY PROGRAM, IN A SANDBOX (cutbox-rows.mjs): the forced cells as the released guide's own fill.sh prints them over the translation e7b948ef3fbac5b5… (all of the seat's roots in one cut). By AI agents, Wed Nov 11 2026. No macro, syntax, notation, axiom, sorry.
-/
import Derived.Test.YtbelfnmmmllolaaChecked
import GoSem.Claim
import GoSem.ClaimJoined
import GoSem.ClaimMapViews
import Derived.JoinedTies
import Derived.KernelRfl
namespace Go.Proofs.Ytbelfnmmmllolaa
/- THE CELL 'sum', in the pinned program and in every row, IS THE sha256 OF THE DUMP (.gsa) THAT YtbelfnmmmllolaaProg.lean LOADS. Nothing in Lean hashes anything: it is a label: what it is worth is what the hold of that sum in a sandbox is worth. -/
noncomputable def Try.pinned : Pinned := { name := "ytbelfnmmmllolaa", sum := "e7b948ef3fbac5b534150d82ca9c23d84ac98967ba3eeeb848522b7f83e3886a", checked := Try.checked }
namespace Rows
def none {H : Type} : Left H := { results := [], args := [] }

/-- 'laws.FnExactIsUnitMatrix': WHATEVER THE INPUT: true; the input reads as it did. -/
def fnExactIsUnitMatrixSpec : ChangeSpec := { name := "fnExactIsUnitMatrix", fn := fun _ => fun
  | [d1, d2] => { results := [.lit (.bool true)], args := [d1, d2] }
  | _ => none }
def fnExactIsUnitMatrixRow : OpenClaim := { program := "ytbelfnmmmllolaa", sum := "e7b948ef3fbac5b534150d82ca9c23d84ac98967ba3eeeb848522b7f83e3886a", func := "loop.example/g01252/laws.FnExactIsUnitMatrix", spec := "fnExactIsUnitMatrix", apart := false }
def FnExactIsUnitMatrixSaid : Prop := fnExactIsUnitMatrixRow.holds Try.pinned (OpenSpec.ofChange fnExactIsUnitMatrixSpec)

/-- ITS FALSE NEIGHBOUR: 'it returns false'. Refute it at one input. -/
def fnExactIsUnitMatrixWrong : ChangeSpec := { name := "fnExactIsUnitMatrix", fn := fun _ => fun
  | [d1, d2] => { results := [.lit (.bool false)], args := [d1, d2] }
  | _ => none }
def FnExactIsUnitMatrixWrongFalsely : Prop := fnExactIsUnitMatrixRow.holds Try.pinned (OpenSpec.ofChange fnExactIsUnitMatrixWrong)

/-- 'laws.FnExactMatrixPosition': WHATEVER THE INPUT: true; the input reads as it did. -/
def fnExactMatrixPositionSpec : ChangeSpec := { name := "fnExactMatrixPosition", fn := fun _ => fun
  | [d1, d2] => { results := [.lit (.bool true)], args := [d1, d2] }
  | _ => none }
def fnExactMatrixPositionRow : OpenClaim := { program := "ytbelfnmmmllolaa", sum := "e7b948ef3fbac5b534150d82ca9c23d84ac98967ba3eeeb848522b7f83e3886a", func := "loop.example/g01252/laws.FnExactMatrixPosition", spec := "fnExactMatrixPosition", apart := false }
def FnExactMatrixPositionSaid : Prop := fnExactMatrixPositionRow.holds Try.pinned (OpenSpec.ofChange fnExactMatrixPositionSpec)

/-- ITS FALSE NEIGHBOUR: 'it returns false'. Refute it at one input. -/
def fnExactMatrixPositionWrong : ChangeSpec := { name := "fnExactMatrixPosition", fn := fun _ => fun
  | [d1, d2] => { results := [.lit (.bool false)], args := [d1, d2] }
  | _ => none }
def FnExactMatrixPositionWrongFalsely : Prop := fnExactMatrixPositionRow.holds Try.pinned (OpenSpec.ofChange fnExactMatrixPositionWrong)

/-- 'laws.FnExactPowerMatrix': WHATEVER THE INPUT: true; the input reads as it did. -/
def fnExactPowerMatrixSpec : ChangeSpec := { name := "fnExactPowerMatrix", fn := fun _ => fun
  | [d1, d2] => { results := [.lit (.bool true)], args := [d1, d2] }
  | _ => none }
def fnExactPowerMatrixRow : OpenClaim := { program := "ytbelfnmmmllolaa", sum := "e7b948ef3fbac5b534150d82ca9c23d84ac98967ba3eeeb848522b7f83e3886a", func := "loop.example/g01252/laws.FnExactPowerMatrix", spec := "fnExactPowerMatrix", apart := false }
def FnExactPowerMatrixSaid : Prop := fnExactPowerMatrixRow.holds Try.pinned (OpenSpec.ofChange fnExactPowerMatrixSpec)

/-- ITS FALSE NEIGHBOUR: 'it returns false'. Refute it at one input. -/
def fnExactPowerMatrixWrong : ChangeSpec := { name := "fnExactPowerMatrix", fn := fun _ => fun
  | [d1, d2] => { results := [.lit (.bool false)], args := [d1, d2] }
  | _ => none }
def FnExactPowerMatrixWrongFalsely : Prop := fnExactPowerMatrixRow.holds Try.pinned (OpenSpec.ofChange fnExactPowerMatrixWrong)

/-- 'laws.FnExactMatrixOfSteps': WHATEVER THE INPUT: true; the input reads as it did. -/
def fnExactMatrixOfStepsSpec : ChangeSpec := { name := "fnExactMatrixOfSteps", fn := fun _ => fun
  | [d1, d2] => { results := [.lit (.bool true)], args := [d1, d2] }
  | _ => none }
def fnExactMatrixOfStepsRow : OpenClaim := { program := "ytbelfnmmmllolaa", sum := "e7b948ef3fbac5b534150d82ca9c23d84ac98967ba3eeeb848522b7f83e3886a", func := "loop.example/g01252/laws.FnExactMatrixOfSteps", spec := "fnExactMatrixOfSteps", apart := false }
def FnExactMatrixOfStepsSaid : Prop := fnExactMatrixOfStepsRow.holds Try.pinned (OpenSpec.ofChange fnExactMatrixOfStepsSpec)

/-- ITS FALSE NEIGHBOUR: 'it returns false'. Refute it at one input. -/
def fnExactMatrixOfStepsWrong : ChangeSpec := { name := "fnExactMatrixOfSteps", fn := fun _ => fun
  | [d1, d2] => { results := [.lit (.bool false)], args := [d1, d2] }
  | _ => none }
def FnExactMatrixOfStepsWrongFalsely : Prop := fnExactMatrixOfStepsRow.holds Try.pinned (OpenSpec.ofChange fnExactMatrixOfStepsWrong)

/-- 'laws.FnExactGroupOf': WHATEVER THE INPUT: true; the input reads as it did. -/
def fnExactGroupOfSpec : ChangeSpec := { name := "fnExactGroupOf", fn := fun _ => fun
  | [d] => { results := [.lit (.bool true)], args := [d] }
  | _ => none }
def fnExactGroupOfRow : OpenClaim := { program := "ytbelfnmmmllolaa", sum := "e7b948ef3fbac5b534150d82ca9c23d84ac98967ba3eeeb848522b7f83e3886a", func := "loop.example/g01252/laws.FnExactGroupOf", spec := "fnExactGroupOf", apart := false }
def FnExactGroupOfSaid : Prop := fnExactGroupOfRow.holds Try.pinned (OpenSpec.ofChange fnExactGroupOfSpec)

/-- ITS FALSE NEIGHBOUR: 'it returns false'. Refute it at one input. -/
def fnExactGroupOfWrong : ChangeSpec := { name := "fnExactGroupOf", fn := fun _ => fun
  | [d] => { results := [.lit (.bool false)], args := [d] }
  | _ => none }
def FnExactGroupOfWrongFalsely : Prop := fnExactGroupOfRow.holds Try.pinned (OpenSpec.ofChange fnExactGroupOfWrong)

/-- 'laws.FnExactWordMatrix': WHATEVER THE INPUT: true; the input reads as it did. -/
def fnExactWordMatrixSpec : ChangeSpec := { name := "fnExactWordMatrix", fn := fun _ => fun
  | [d1, d2] => { results := [.lit (.bool true)], args := [d1, d2] }
  | _ => none }
def fnExactWordMatrixRow : OpenClaim := { program := "ytbelfnmmmllolaa", sum := "e7b948ef3fbac5b534150d82ca9c23d84ac98967ba3eeeb848522b7f83e3886a", func := "loop.example/g01252/laws.FnExactWordMatrix", spec := "fnExactWordMatrix", apart := false }
def FnExactWordMatrixSaid : Prop := fnExactWordMatrixRow.holds Try.pinned (OpenSpec.ofChange fnExactWordMatrixSpec)

/-- ITS FALSE NEIGHBOUR: 'it returns false'. Refute it at one input. -/
def fnExactWordMatrixWrong : ChangeSpec := { name := "fnExactWordMatrix", fn := fun _ => fun
  | [d1, d2] => { results := [.lit (.bool false)], args := [d1, d2] }
  | _ => none }
def FnExactWordMatrixWrongFalsely : Prop := fnExactWordMatrixRow.holds Try.pinned (OpenSpec.ofChange fnExactWordMatrixWrong)

/- THE SECOND FORM. 'bulk': how many values and letters a reading holds, each counted each time it is reached (what is shared counts as often as it is met; a slice's spare places count too). A statement '..UptoSaid' is the law's where the arguments, and the package variables that the reading takes, are together of bulk at most 1048576: NARROWER than '..Said'. Prove '..Said' where nothing that the law and all that it calls make is longer than what came in: it says more and counts as full. Else prove '..UptoSaid'. A law counts once. -/
mutual
def uptoBulk {H : Type} : DataW H → Nat
  | .lit (.string bytes) => bytes.length + 1
  | .lit _ => 1
  | .nil => 1
  | .ptr d => uptoBulk d + 1
  | .slice elems spare => uptoBulkAll elems + uptoBulkAll spare + 1
  | .agg parts => uptoBulkAll parts + 1
  | .iface _ d => uptoBulk d + 1
  | .map entries => uptoBulkEntries entries + 1
  | .held _ => 1
def uptoBulkAll {H : Type} : List (DataW H) → Nat
  | [] => 0
  | d :: r => uptoBulk d + uptoBulkAll r
def uptoBulkEntries {H : Type} : List (Lit × DataW H) → Nat
  | [] => 0
  | x :: r => uptoBulkEntry x + uptoBulkEntries r
def uptoBulkEntry {H : Type} : Lit × DataW H → Nat
  | (.string bytes, d) => bytes.length + uptoBulk d + 1
  | (_, d) => uptoBulk d + 1
 end
def uptoSmall : (H : Type) → List (DataW H) → Bool := fun _ ds => decide (uptoBulkAll ds ≤ 1048576)
def OpenSpec.upto (s : _root_.Go.ChangeSpec) : _root_.Go.OpenSpec := { _root_.Go.OpenSpec.ofChange s with cond := some uptoSmall }

/-- 'laws.FnExactIsUnitMatrix', WHERE WHAT IT READS IS OF BULK AT MOST 1048576: true; the input reads as it did. -/
def fnExactIsUnitMatrixUptoRow : OpenClaim := { program := "ytbelfnmmmllolaa", sum := "e7b948ef3fbac5b534150d82ca9c23d84ac98967ba3eeeb848522b7f83e3886a", func := "loop.example/g01252/laws.FnExactIsUnitMatrix", spec := "fnExactIsUnitMatrix", apart := false, narrowed := true }
def FnExactIsUnitMatrixUptoSaid : Prop := fnExactIsUnitMatrixUptoRow.holds Try.pinned (OpenSpec.upto fnExactIsUnitMatrixSpec)

/-- 'laws.FnExactMatrixPosition', WHERE WHAT IT READS IS OF BULK AT MOST 1048576: true; the input reads as it did. -/
def fnExactMatrixPositionUptoRow : OpenClaim := { program := "ytbelfnmmmllolaa", sum := "e7b948ef3fbac5b534150d82ca9c23d84ac98967ba3eeeb848522b7f83e3886a", func := "loop.example/g01252/laws.FnExactMatrixPosition", spec := "fnExactMatrixPosition", apart := false, narrowed := true }
def FnExactMatrixPositionUptoSaid : Prop := fnExactMatrixPositionUptoRow.holds Try.pinned (OpenSpec.upto fnExactMatrixPositionSpec)

/-- 'laws.FnExactPowerMatrix', WHERE WHAT IT READS IS OF BULK AT MOST 1048576: true; the input reads as it did. -/
def fnExactPowerMatrixUptoRow : OpenClaim := { program := "ytbelfnmmmllolaa", sum := "e7b948ef3fbac5b534150d82ca9c23d84ac98967ba3eeeb848522b7f83e3886a", func := "loop.example/g01252/laws.FnExactPowerMatrix", spec := "fnExactPowerMatrix", apart := false, narrowed := true }
def FnExactPowerMatrixUptoSaid : Prop := fnExactPowerMatrixUptoRow.holds Try.pinned (OpenSpec.upto fnExactPowerMatrixSpec)

/-- 'laws.FnExactMatrixOfSteps', WHERE WHAT IT READS IS OF BULK AT MOST 1048576: true; the input reads as it did. -/
def fnExactMatrixOfStepsUptoRow : OpenClaim := { program := "ytbelfnmmmllolaa", sum := "e7b948ef3fbac5b534150d82ca9c23d84ac98967ba3eeeb848522b7f83e3886a", func := "loop.example/g01252/laws.FnExactMatrixOfSteps", spec := "fnExactMatrixOfSteps", apart := false, narrowed := true }
def FnExactMatrixOfStepsUptoSaid : Prop := fnExactMatrixOfStepsUptoRow.holds Try.pinned (OpenSpec.upto fnExactMatrixOfStepsSpec)

/-- 'laws.FnExactGroupOf', WHERE WHAT IT READS IS OF BULK AT MOST 1048576: true; the input reads as it did. -/
def fnExactGroupOfUptoRow : OpenClaim := { program := "ytbelfnmmmllolaa", sum := "e7b948ef3fbac5b534150d82ca9c23d84ac98967ba3eeeb848522b7f83e3886a", func := "loop.example/g01252/laws.FnExactGroupOf", spec := "fnExactGroupOf", apart := false, narrowed := true }
def FnExactGroupOfUptoSaid : Prop := fnExactGroupOfUptoRow.holds Try.pinned (OpenSpec.upto fnExactGroupOfSpec)

/-- 'laws.FnExactWordMatrix', WHERE WHAT IT READS IS OF BULK AT MOST 1048576: true; the input reads as it did. -/
def fnExactWordMatrixUptoRow : OpenClaim := { program := "ytbelfnmmmllolaa", sum := "e7b948ef3fbac5b534150d82ca9c23d84ac98967ba3eeeb848522b7f83e3886a", func := "loop.example/g01252/laws.FnExactWordMatrix", spec := "fnExactWordMatrix", apart := false, narrowed := true }
def FnExactWordMatrixUptoSaid : Prop := fnExactWordMatrixUptoRow.holds Try.pinned (OpenSpec.upto fnExactWordMatrixSpec)

end Rows
end Go.Proofs.Ytbelfnmmmllolaa
