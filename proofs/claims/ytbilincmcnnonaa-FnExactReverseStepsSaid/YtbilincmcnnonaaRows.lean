/-
  No cell of these rows narrows 'for every input' (looked for: loops, veiled, ifaces, maps, wideKeys, modest, calm, conditions, laid).
  DERIVED. THE GIVEN ROWS OF THIS SEAT. 5 by the template 'for every input the law returns true; each argument reads behind the call as it read before'; 0 by the template 'total and deterministic' (their statements: YtbilincmcnnonaaTotals.lean).
  GIVEN WITH THE SEED: the statements are not yours to turn. If you find one false, say at which input.
  Laid BY PROGRAM, IN A SANDBOX (cutbox-rows.mjs): the forced cells as the released guide's own fill.sh prints them over the translation 98271f6d9fcefc3d… (all of the seat's roots in one cut). By AI agents, Wed Nov 11 2026. No macro, syntax, notation, axiom, sorry.
-/
import Derived.Test.YtbilincmcnnonaaChecked
import GoSem.Claim
import GoSem.ClaimJoined
import GoSem.ClaimMapViews
import Derived.JoinedTies
import Derived.KernelRfl
namespace Go.Proofs.Ytbilincmcnnonaa
/- THE CELL 'sum', in the pinned program and in every row, IS THE sha256 OF THE DUMP (.gsa) THAT YtbilincmcnnonaaProg.lean LOADS. Nothing in Lean hashes anything: it is a label: what it is worth is what the hold of that sum in a sandbox is worth. -/
noncomputable def Try.pinned : Pinned := { name := "ytbilincmcnnonaa", sum := "98271f6d9fcefc3d4b09ab1d9978b7e0a14a3534406d834915c5639bfbabd7c2", checked := Try.checked }
namespace Rows
def none {H : Type} : Left H := { results := [], args := [] }

/-- 'laws.FnMatrices': WHATEVER THE INPUT: true; the input reads as it did. -/
def fnMatricesSpec : ChangeSpec := { name := "fnMatrices", fn := fun _ => fun
  | [d] => { results := [.lit (.bool true)], args := [d] }
  | _ => none }
def fnMatricesRow : OpenClaim := { program := "ytbilincmcnnonaa", sum := "98271f6d9fcefc3d4b09ab1d9978b7e0a14a3534406d834915c5639bfbabd7c2", func := "loop.example/g01252/laws.FnMatrices", spec := "fnMatrices", apart := false }
def FnMatricesSaid : Prop := fnMatricesRow.holds Try.pinned (OpenSpec.ofChange fnMatricesSpec)

/-- ITS FALSE NEIGHBOUR: 'it returns false'. Refute it at one input. -/
def fnMatricesWrong : ChangeSpec := { name := "fnMatrices", fn := fun _ => fun
  | [d] => { results := [.lit (.bool false)], args := [d] }
  | _ => none }
def FnMatricesWrongFalsely : Prop := fnMatricesRow.holds Try.pinned (OpenSpec.ofChange fnMatricesWrong)

/-- 'laws.FnPlaces': WHATEVER THE INPUT: true; the input reads as it did. -/
def fnPlacesSpec : ChangeSpec := { name := "fnPlaces", fn := fun _ => fun
  | [d] => { results := [.lit (.bool true)], args := [d] }
  | _ => none }
def fnPlacesRow : OpenClaim := { program := "ytbilincmcnnonaa", sum := "98271f6d9fcefc3d4b09ab1d9978b7e0a14a3534406d834915c5639bfbabd7c2", func := "loop.example/g01252/laws.FnPlaces", spec := "fnPlaces", recurses := true, apart := false }
def FnPlacesSaid : Prop := fnPlacesRow.holds Try.pinned (OpenSpec.ofChange fnPlacesSpec)

/-- ITS FALSE NEIGHBOUR: 'it returns false'. Refute it at one input. -/
def fnPlacesWrong : ChangeSpec := { name := "fnPlaces", fn := fun _ => fun
  | [d] => { results := [.lit (.bool false)], args := [d] }
  | _ => none }
def FnPlacesWrongFalsely : Prop := fnPlacesRow.holds Try.pinned (OpenSpec.ofChange fnPlacesWrong)

/-- 'laws.FnExactSideOfWord': WHATEVER THE INPUT: true; the input reads as it did. -/
def fnExactSideOfWordSpec : ChangeSpec := { name := "fnExactSideOfWord", fn := fun _ => fun
  | [d1, d2, d3, d4] => { results := [.lit (.bool true)], args := [d1, d2, d3, d4] }
  | _ => none }
def fnExactSideOfWordRow : OpenClaim := { program := "ytbilincmcnnonaa", sum := "98271f6d9fcefc3d4b09ab1d9978b7e0a14a3534406d834915c5639bfbabd7c2", func := "loop.example/g01252/laws.FnExactSideOfWord", spec := "fnExactSideOfWord", named := ["math/bits.divideError", "math/bits.overflowError"], apart := false }
def FnExactSideOfWordSaid : Prop := fnExactSideOfWordRow.holds Try.pinned (OpenSpec.ofChange fnExactSideOfWordSpec)

/-- ITS FALSE NEIGHBOUR: 'it returns false'. Refute it at one input. -/
def fnExactSideOfWordWrong : ChangeSpec := { name := "fnExactSideOfWord", fn := fun _ => fun
  | [d1, d2, d3, d4] => { results := [.lit (.bool false)], args := [d1, d2, d3, d4] }
  | _ => none }
def FnExactSideOfWordWrongFalsely : Prop := fnExactSideOfWordRow.holds Try.pinned (OpenSpec.ofChange fnExactSideOfWordWrong)

/-- 'laws.FnExactReverseSteps': WHATEVER THE INPUT: true; the input reads as it did. -/
def fnExactReverseStepsSpec : ChangeSpec := { name := "fnExactReverseSteps", fn := fun _ => fun
  | [d1, d2, d3] => { results := [.lit (.bool true)], args := [d1, d2, d3] }
  | _ => none }
def fnExactReverseStepsRow : OpenClaim := { program := "ytbilincmcnnonaa", sum := "98271f6d9fcefc3d4b09ab1d9978b7e0a14a3534406d834915c5639bfbabd7c2", func := "loop.example/g01252/laws.FnExactReverseSteps", spec := "fnExactReverseSteps", inPlace := ["internal/abi.NoEscape"], apart := false }
def FnExactReverseStepsSaid : Prop := fnExactReverseStepsRow.holds Try.pinned (OpenSpec.ofChange fnExactReverseStepsSpec)

/-- ITS FALSE NEIGHBOUR: 'it returns false'. Refute it at one input. -/
def fnExactReverseStepsWrong : ChangeSpec := { name := "fnExactReverseSteps", fn := fun _ => fun
  | [d1, d2, d3] => { results := [.lit (.bool false)], args := [d1, d2, d3] }
  | _ => none }
def FnExactReverseStepsWrongFalsely : Prop := fnExactReverseStepsRow.holds Try.pinned (OpenSpec.ofChange fnExactReverseStepsWrong)

/-- 'laws.FnExactFlowOf': WHATEVER THE INPUT: true; the input reads as it did. -/
def fnExactFlowOfSpec : ChangeSpec := { name := "fnExactFlowOf", fn := fun _ => fun
  | [d1, d2] => { results := [.lit (.bool true)], args := [d1, d2] }
  | _ => none }
def fnExactFlowOfRow : OpenClaim := { program := "ytbilincmcnnonaa", sum := "98271f6d9fcefc3d4b09ab1d9978b7e0a14a3534406d834915c5639bfbabd7c2", func := "loop.example/g01252/laws.FnExactFlowOf", spec := "fnExactFlowOf", unfollowed := true, recurses := true, apart := false }
def FnExactFlowOfSaid : Prop := fnExactFlowOfRow.holds Try.pinned (OpenSpec.ofChange fnExactFlowOfSpec)

/-- ITS FALSE NEIGHBOUR: 'it returns false'. Refute it at one input. -/
def fnExactFlowOfWrong : ChangeSpec := { name := "fnExactFlowOf", fn := fun _ => fun
  | [d1, d2] => { results := [.lit (.bool false)], args := [d1, d2] }
  | _ => none }
def FnExactFlowOfWrongFalsely : Prop := fnExactFlowOfRow.holds Try.pinned (OpenSpec.ofChange fnExactFlowOfWrong)

/- THE SECOND FORM. 'bulk': how many values and letters a reading holds, each counted each time it is reached (what is shared counts as often as it is met; a slice's spare places count too). A statement '..UptoSaid' is the law's where the arguments, and the package variables that the reading takes, are together of bulk at most 1048576: NARROWER than '..Said'. Prove '..Said' where nothing that the law and all that it calls make is longer than what came in: it says more and counts as full. Else prove '..UptoSaid'. A law counts once. -/
mutual
def uptoBulk {H : Type} : DataW H → Nat
  | .lit (.string bytes) => bytes.length + 1
  | .lit _ => 1
  | .nil => 1
  | .ptr d => uptoBulk d + 1
  | .slice elems spare => uptoBulkAll elems + uptoBulkAll spare + 1
  | .agg parts => uptoBulkAll parts + 1
  | .iface _ d => uptoBulk d + 1
  | .map entries => uptoBulkEntries entries + 1
  | .held _ => 1
def uptoBulkAll {H : Type} : List (DataW H) → Nat
  | [] => 0
  | d :: r => uptoBulk d + uptoBulkAll r
def uptoBulkEntries {H : Type} : List (Lit × DataW H) → Nat
  | [] => 0
  | x :: r => uptoBulkEntry x + uptoBulkEntries r
def uptoBulkEntry {H : Type} : Lit × DataW H → Nat
  | (.string bytes, d) => bytes.length + uptoBulk d + 1
  | (_, d) => uptoBulk d + 1
 end
def uptoSmall : (H : Type) → List (DataW H) → Bool := fun _ ds => decide (uptoBulkAll ds ≤ 1048576)
def OpenSpec.upto (s : _root_.Go.ChangeSpec) : _root_.Go.OpenSpec := { _root_.Go.OpenSpec.ofChange s with cond := some uptoSmall }

/-- 'laws.FnMatrices', WHERE WHAT IT READS IS OF BULK AT MOST 1048576: true; the input reads as it did. -/
def fnMatricesUptoRow : OpenClaim := { program := "ytbilincmcnnonaa", sum := "98271f6d9fcefc3d4b09ab1d9978b7e0a14a3534406d834915c5639bfbabd7c2", func := "loop.example/g01252/laws.FnMatrices", spec := "fnMatrices", apart := false, narrowed := true }
def FnMatricesUptoSaid : Prop := fnMatricesUptoRow.holds Try.pinned (OpenSpec.upto fnMatricesSpec)

/-- 'laws.FnPlaces', WHERE WHAT IT READS IS OF BULK AT MOST 1048576: true; the input reads as it did. -/
def fnPlacesUptoRow : OpenClaim := { program := "ytbilincmcnnonaa", sum := "98271f6d9fcefc3d4b09ab1d9978b7e0a14a3534406d834915c5639bfbabd7c2", func := "loop.example/g01252/laws.FnPlaces", spec := "fnPlaces", recurses := true, apart := false, narrowed := true }
def FnPlacesUptoSaid : Prop := fnPlacesUptoRow.holds Try.pinned (OpenSpec.upto fnPlacesSpec)

/-- 'laws.FnExactSideOfWord', WHERE WHAT IT READS IS OF BULK AT MOST 1048576: true; the input reads as it did. -/
def fnExactSideOfWordUptoRow : OpenClaim := { program := "ytbilincmcnnonaa", sum := "98271f6d9fcefc3d4b09ab1d9978b7e0a14a3534406d834915c5639bfbabd7c2", func := "loop.example/g01252/laws.FnExactSideOfWord", spec := "fnExactSideOfWord", named := ["math/bits.divideError", "math/bits.overflowError"], apart := false, narrowed := true }
def FnExactSideOfWordUptoSaid : Prop := fnExactSideOfWordUptoRow.holds Try.pinned (OpenSpec.upto fnExactSideOfWordSpec)

/-- 'laws.FnExactReverseSteps', WHERE WHAT IT READS IS OF BULK AT MOST 1048576: true; the input reads as it did. -/
def fnExactReverseStepsUptoRow : OpenClaim := { program := "ytbilincmcnnonaa", sum := "98271f6d9fcefc3d4b09ab1d9978b7e0a14a3534406d834915c5639bfbabd7c2", func := "loop.example/g01252/laws.FnExactReverseSteps", spec := "fnExactReverseSteps", inPlace := ["internal/abi.NoEscape"], apart := false, narrowed := true }
def FnExactReverseStepsUptoSaid : Prop := fnExactReverseStepsUptoRow.holds Try.pinned (OpenSpec.upto fnExactReverseStepsSpec)

/-- 'laws.FnExactFlowOf', WHERE WHAT IT READS IS OF BULK AT MOST 1048576: true; the input reads as it did. -/
def fnExactFlowOfUptoRow : OpenClaim := { program := "ytbilincmcnnonaa", sum := "98271f6d9fcefc3d4b09ab1d9978b7e0a14a3534406d834915c5639bfbabd7c2", func := "loop.example/g01252/laws.FnExactFlowOf", spec := "fnExactFlowOf", unfollowed := true, recurses := true, apart := false, narrowed := true }
def FnExactFlowOfUptoSaid : Prop := fnExactFlowOfUptoRow.holds Try.pinned (OpenSpec.upto fnExactFlowOfSpec)

end Rows
end Go.Proofs.Ytbilincmcnnonaa
