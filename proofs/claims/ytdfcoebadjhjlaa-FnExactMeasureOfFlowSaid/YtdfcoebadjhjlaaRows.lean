/-
  No cell of these rows narrows 'for every input' (looked for: loops, veiled, ifaces, maps, wideKeys, modest, calm, conditions, laid).
  DERIVED. THE GIVEN ROWS OF THIS SEAT. 4 by the template 'for every input the law returns true; each argument reads behind the call as it read before'; 0 by the template 'total and deterministic' (their statements: YtdfcoebadjhjlaaTotals.lean).
  GIVEN WITH THE SEED: the statements are not yours to turn. If you find one false, say at which input.
  Laid BY PROGRAM, IN A SANDBOX (cutbox-rows.mjs): the forced cells as the released guide's own fill.sh prints them over the translation cc6e8020836502ae… (all of the seat's roots in one cut). By AI agents, Wed Nov 11 2026. No macro, syntax, notation, axiom, sorry.
-/
import Derived.Test.YtdfcoebadjhjlaaChecked
import GoSem.Claim
import GoSem.ClaimJoined
import GoSem.ClaimMapViews
import Derived.JoinedTies
import Derived.KernelRfl
namespace Go.Proofs.Ytdfcoebadjhjlaa
/- THE CELL 'sum', in the pinned program and in every row, IS THE sha256 OF THE DUMP (.gsa) THAT YtdfcoebadjhjlaaProg.lean LOADS. Nothing in Lean hashes anything: it is a label: what it is worth is what the hold of that sum in a sandbox is worth. -/
noncomputable def Try.pinned : Pinned := { name := "ytdfcoebadjhjlaa", sum := "cc6e8020836502aed388c9c41956320412489ce429d3dde99e36b64f5a1a81dc", checked := Try.checked }
namespace Rows
def none {H : Type} : Left H := { results := [], args := [] }

/-- 'laws.FnExactFlowOf': WHATEVER THE INPUT: true; the input reads as it did. -/
def fnExactFlowOfSpec : ChangeSpec := { name := "fnExactFlowOf", fn := fun _ => fun
  | [d1, d2] => { results := [.lit (.bool true)], args := [d1, d2] }
  | _ => none }
def fnExactFlowOfRow : OpenClaim := { program := "ytdfcoebadjhjlaa", sum := "cc6e8020836502aed388c9c41956320412489ce429d3dde99e36b64f5a1a81dc", func := "loop.example/g01252/laws.FnExactFlowOf", spec := "fnExactFlowOf", unfollowed := true, recurses := true, apart := false }
def FnExactFlowOfSaid : Prop := fnExactFlowOfRow.holds Try.pinned (OpenSpec.ofChange fnExactFlowOfSpec)

/-- ITS FALSE NEIGHBOUR: 'it returns false'. Refute it at one input. -/
def fnExactFlowOfWrong : ChangeSpec := { name := "fnExactFlowOf", fn := fun _ => fun
  | [d1, d2] => { results := [.lit (.bool false)], args := [d1, d2] }
  | _ => none }
def FnExactFlowOfWrongFalsely : Prop := fnExactFlowOfRow.holds Try.pinned (OpenSpec.ofChange fnExactFlowOfWrong)

/-- 'laws.FnExactCoarsenAt': WHATEVER THE INPUT: true; the input reads as it did. -/
def fnExactCoarsenAtSpec : ChangeSpec := { name := "fnExactCoarsenAt", fn := fun _ => fun
  | [d1, d2, d3] => { results := [.lit (.bool true)], args := [d1, d2, d3] }
  | _ => none }
def fnExactCoarsenAtRow : OpenClaim := { program := "ytdfcoebadjhjlaa", sum := "cc6e8020836502aed388c9c41956320412489ce429d3dde99e36b64f5a1a81dc", func := "loop.example/g01252/laws.FnExactCoarsenAt", spec := "fnExactCoarsenAt", unfollowed := true, recurses := true, apart := false }
def FnExactCoarsenAtSaid : Prop := fnExactCoarsenAtRow.holds Try.pinned (OpenSpec.ofChange fnExactCoarsenAtSpec)

/-- ITS FALSE NEIGHBOUR: 'it returns false'. Refute it at one input. -/
def fnExactCoarsenAtWrong : ChangeSpec := { name := "fnExactCoarsenAt", fn := fun _ => fun
  | [d1, d2, d3] => { results := [.lit (.bool false)], args := [d1, d2, d3] }
  | _ => none }
def FnExactCoarsenAtWrongFalsely : Prop := fnExactCoarsenAtRow.holds Try.pinned (OpenSpec.ofChange fnExactCoarsenAtWrong)

/-- 'laws.FnExactRefineAt': WHATEVER THE INPUT: true; the input reads as it did. -/
def fnExactRefineAtSpec : ChangeSpec := { name := "fnExactRefineAt", fn := fun _ => fun
  | [d1, d2, d3, d4] => { results := [.lit (.bool true)], args := [d1, d2, d3, d4] }
  | _ => none }
def fnExactRefineAtRow : OpenClaim := { program := "ytdfcoebadjhjlaa", sum := "cc6e8020836502aed388c9c41956320412489ce429d3dde99e36b64f5a1a81dc", func := "loop.example/g01252/laws.FnExactRefineAt", spec := "fnExactRefineAt", unfollowed := true, recurses := true, apart := false }
def FnExactRefineAtSaid : Prop := fnExactRefineAtRow.holds Try.pinned (OpenSpec.ofChange fnExactRefineAtSpec)

/-- ITS FALSE NEIGHBOUR: 'it returns false'. Refute it at one input. -/
def fnExactRefineAtWrong : ChangeSpec := { name := "fnExactRefineAt", fn := fun _ => fun
  | [d1, d2, d3, d4] => { results := [.lit (.bool false)], args := [d1, d2, d3, d4] }
  | _ => none }
def FnExactRefineAtWrongFalsely : Prop := fnExactRefineAtRow.holds Try.pinned (OpenSpec.ofChange fnExactRefineAtWrong)

/-- 'laws.FnExactMeasureOfFlow': WHATEVER THE INPUT: true; the input reads as it did. -/
def fnExactMeasureOfFlowSpec : ChangeSpec := { name := "fnExactMeasureOfFlow", fn := fun _ => fun
  | [d1, d2, d3] => { results := [.lit (.bool true)], args := [d1, d2, d3] }
  | _ => none }
def fnExactMeasureOfFlowRow : OpenClaim := { program := "ytdfcoebadjhjlaa", sum := "cc6e8020836502aed388c9c41956320412489ce429d3dde99e36b64f5a1a81dc", func := "loop.example/g01252/laws.FnExactMeasureOfFlow", spec := "fnExactMeasureOfFlow", unfollowed := true, recurses := true, apart := false }
def FnExactMeasureOfFlowSaid : Prop := fnExactMeasureOfFlowRow.holds Try.pinned (OpenSpec.ofChange fnExactMeasureOfFlowSpec)

/-- ITS FALSE NEIGHBOUR: 'it returns false'. Refute it at one input. -/
def fnExactMeasureOfFlowWrong : ChangeSpec := { name := "fnExactMeasureOfFlow", fn := fun _ => fun
  | [d1, d2, d3] => { results := [.lit (.bool false)], args := [d1, d2, d3] }
  | _ => none }
def FnExactMeasureOfFlowWrongFalsely : Prop := fnExactMeasureOfFlowRow.holds Try.pinned (OpenSpec.ofChange fnExactMeasureOfFlowWrong)

/- THE SECOND FORM. 'bulk': how many values and letters a reading holds, each counted each time it is reached (what is shared counts as often as it is met; a slice's spare places count too). A statement '..UptoSaid' is the law's where the arguments, and the package variables that the reading takes, are together of bulk at most 1048576: NARROWER than '..Said'. Prove '..Said' where nothing that the law and all that it calls make is longer than what came in: it says more and counts as full. Else prove '..UptoSaid'. A law counts once. -/
mutual
def uptoBulk {H : Type} : DataW H → Nat
  | .lit (.string bytes) => bytes.length + 1
  | .lit _ => 1
  | .nil => 1
  | .ptr d => uptoBulk d + 1
  | .slice elems spare => uptoBulkAll elems + uptoBulkAll spare + 1
  | .agg parts => uptoBulkAll parts + 1
  | .iface _ d => uptoBulk d + 1
  | .map entries => uptoBulkEntries entries + 1
  | .held _ => 1
def uptoBulkAll {H : Type} : List (DataW H) → Nat
  | [] => 0
  | d :: r => uptoBulk d + uptoBulkAll r
def uptoBulkEntries {H : Type} : List (Lit × DataW H) → Nat
  | [] => 0
  | x :: r => uptoBulkEntry x + uptoBulkEntries r
def uptoBulkEntry {H : Type} : Lit × DataW H → Nat
  | (.string bytes, d) => bytes.length + uptoBulk d + 1
  | (_, d) => uptoBulk d + 1
 end
def uptoSmall : (H : Type) → List (DataW H) → Bool := fun _ ds => decide (uptoBulkAll ds ≤ 1048576)
def OpenSpec.upto (s : _root_.Go.ChangeSpec) : _root_.Go.OpenSpec := { _root_.Go.OpenSpec.ofChange s with cond := some uptoSmall }

/-- 'laws.FnExactFlowOf', WHERE WHAT IT READS IS OF BULK AT MOST 1048576: true; the input reads as it did. -/
def fnExactFlowOfUptoRow : OpenClaim := { program := "ytdfcoebadjhjlaa", sum := "cc6e8020836502aed388c9c41956320412489ce429d3dde99e36b64f5a1a81dc", func := "loop.example/g01252/laws.FnExactFlowOf", spec := "fnExactFlowOf", unfollowed := true, recurses := true, apart := false, narrowed := true }
def FnExactFlowOfUptoSaid : Prop := fnExactFlowOfUptoRow.holds Try.pinned (OpenSpec.upto fnExactFlowOfSpec)

/-- 'laws.FnExactCoarsenAt', WHERE WHAT IT READS IS OF BULK AT MOST 1048576: true; the input reads as it did. -/
def fnExactCoarsenAtUptoRow : OpenClaim := { program := "ytdfcoebadjhjlaa", sum := "cc6e8020836502aed388c9c41956320412489ce429d3dde99e36b64f5a1a81dc", func := "loop.example/g01252/laws.FnExactCoarsenAt", spec := "fnExactCoarsenAt", unfollowed := true, recurses := true, apart := false, narrowed := true }
def FnExactCoarsenAtUptoSaid : Prop := fnExactCoarsenAtUptoRow.holds Try.pinned (OpenSpec.upto fnExactCoarsenAtSpec)

/-- 'laws.FnExactRefineAt', WHERE WHAT IT READS IS OF BULK AT MOST 1048576: true; the input reads as it did. -/
def fnExactRefineAtUptoRow : OpenClaim := { program := "ytdfcoebadjhjlaa", sum := "cc6e8020836502aed388c9c41956320412489ce429d3dde99e36b64f5a1a81dc", func := "loop.example/g01252/laws.FnExactRefineAt", spec := "fnExactRefineAt", unfollowed := true, recurses := true, apart := false, narrowed := true }
def FnExactRefineAtUptoSaid : Prop := fnExactRefineAtUptoRow.holds Try.pinned (OpenSpec.upto fnExactRefineAtSpec)

/-- 'laws.FnExactMeasureOfFlow', WHERE WHAT IT READS IS OF BULK AT MOST 1048576: true; the input reads as it did. -/
def fnExactMeasureOfFlowUptoRow : OpenClaim := { program := "ytdfcoebadjhjlaa", sum := "cc6e8020836502aed388c9c41956320412489ce429d3dde99e36b64f5a1a81dc", func := "loop.example/g01252/laws.FnExactMeasureOfFlow", spec := "fnExactMeasureOfFlow", unfollowed := true, recurses := true, apart := false, narrowed := true }
def FnExactMeasureOfFlowUptoSaid : Prop := fnExactMeasureOfFlowUptoRow.holds Try.pinned (OpenSpec.upto fnExactMeasureOfFlowSpec)

end Rows
end Go.Proofs.Ytdfcoebadjhjlaa
