/-
  No cell of these rows narrows 'for every input' (looked for: loops, veiled, ifaces, maps, wideKeys, modest, calm, conditions, laid).
  DERIVED. THE GIVEN ROWS OF THIS SEAT. 6 by the template 'for every input the law returns true; each argument reads behind the call as it read before'; 0 by the template 'total and deterministic' (their statements: YtpocgieacicmjaaTotals.lean).
  GIVEN WITH THE SEED: the statements are not yours to turn. If you find one false, say at which input.
  Laid BY PROGRAM, IN A SANDBOX (cutbox-rows.mjs): the forced cells as the released guide's own fill.sh prints them over the translation 1bd3eb8bbdaf5dc3… (all of the seat's roots in one cut). By AI agents, Wed Nov 11 2026. No macro, syntax, notation, axiom, sorry.
-/
import Derived.Test.YtpocgieacicmjaaChecked
import GoSem.Claim
import GoSem.ClaimJoined
import GoSem.ClaimMapViews
import Derived.JoinedTies
import Derived.KernelRfl
namespace Go.Proofs.Ytpocgieacicmjaa
/- THE CELL 'sum', in the pinned program and in every row, IS THE sha256 OF THE DUMP (.gsa) THAT YtpocgieacicmjaaProg.lean LOADS. Nothing in Lean hashes anything: it is a label: what it is worth is what the hold of that sum in a sandbox is worth. -/
noncomputable def Try.pinned : Pinned := { name := "ytpocgieacicmjaa", sum := "1bd3eb8bbdaf5dc3708238d039f9371386f623e91c7542883d57283e6a1e1a75", checked := Try.checked }
namespace Rows
def none {H : Type} : Left H := { results := [], args := [] }

/-- 'laws.FnExactAreApartSides': WHATEVER THE INPUT: true; the input reads as it did. -/
def fnExactAreApartSidesSpec : ChangeSpec := { name := "fnExactAreApartSides", fn := fun _ => fun
  | [d1, d2, d3] => { results := [.lit (.bool true)], args := [d1, d2, d3] }
  | _ => none }
def fnExactAreApartSidesRow : OpenClaim := { program := "ytpocgieacicmjaa", sum := "1bd3eb8bbdaf5dc3708238d039f9371386f623e91c7542883d57283e6a1e1a75", func := "loop.example/g01252/laws.FnExactAreApartSides", spec := "fnExactAreApartSides", apart := false }
def FnExactAreApartSidesSaid : Prop := fnExactAreApartSidesRow.holds Try.pinned (OpenSpec.ofChange fnExactAreApartSidesSpec)

/-- ITS FALSE NEIGHBOUR: 'it returns false'. Refute it at one input. -/
def fnExactAreApartSidesWrong : ChangeSpec := { name := "fnExactAreApartSides", fn := fun _ => fun
  | [d1, d2, d3] => { results := [.lit (.bool false)], args := [d1, d2, d3] }
  | _ => none }
def FnExactAreApartSidesWrongFalsely : Prop := fnExactAreApartSidesRow.holds Try.pinned (OpenSpec.ofChange fnExactAreApartSidesWrong)

/-- 'laws.FnExactSideHas': WHATEVER THE INPUT: true; the input reads as it did. -/
def fnExactSideHasSpec : ChangeSpec := { name := "fnExactSideHas", fn := fun _ => fun
  | [d1, d2, d3] => { results := [.lit (.bool true)], args := [d1, d2, d3] }
  | _ => none }
def fnExactSideHasRow : OpenClaim := { program := "ytpocgieacicmjaa", sum := "1bd3eb8bbdaf5dc3708238d039f9371386f623e91c7542883d57283e6a1e1a75", func := "loop.example/g01252/laws.FnExactSideHas", spec := "fnExactSideHas", apart := false }
def FnExactSideHasSaid : Prop := fnExactSideHasRow.holds Try.pinned (OpenSpec.ofChange fnExactSideHasSpec)

/-- ITS FALSE NEIGHBOUR: 'it returns false'. Refute it at one input. -/
def fnExactSideHasWrong : ChangeSpec := { name := "fnExactSideHas", fn := fun _ => fun
  | [d1, d2, d3] => { results := [.lit (.bool false)], args := [d1, d2, d3] }
  | _ => none }
def FnExactSideHasWrongFalsely : Prop := fnExactSideHasRow.holds Try.pinned (OpenSpec.ofChange fnExactSideHasWrong)

/-- 'laws.FnExactFollowSteps': WHATEVER THE INPUT: true; the input reads as it did. -/
def fnExactFollowStepsSpec : ChangeSpec := { name := "fnExactFollowSteps", fn := fun _ => fun
  | [d1, d2, d3] => { results := [.lit (.bool true)], args := [d1, d2, d3] }
  | _ => none }
def fnExactFollowStepsRow : OpenClaim := { program := "ytpocgieacicmjaa", sum := "1bd3eb8bbdaf5dc3708238d039f9371386f623e91c7542883d57283e6a1e1a75", func := "loop.example/g01252/laws.FnExactFollowSteps", spec := "fnExactFollowSteps", apart := false }
def FnExactFollowStepsSaid : Prop := fnExactFollowStepsRow.holds Try.pinned (OpenSpec.ofChange fnExactFollowStepsSpec)

/-- ITS FALSE NEIGHBOUR: 'it returns false'. Refute it at one input. -/
def fnExactFollowStepsWrong : ChangeSpec := { name := "fnExactFollowSteps", fn := fun _ => fun
  | [d1, d2, d3] => { results := [.lit (.bool false)], args := [d1, d2, d3] }
  | _ => none }
def FnExactFollowStepsWrongFalsely : Prop := fnExactFollowStepsRow.holds Try.pinned (OpenSpec.ofChange fnExactFollowStepsWrong)

/-- 'laws.FnExactIsMeasure': WHATEVER THE INPUT: true; the input reads as it did. -/
def fnExactIsMeasureSpec : ChangeSpec := { name := "fnExactIsMeasure", fn := fun _ => fun
  | [d1, d2] => { results := [.lit (.bool true)], args := [d1, d2] }
  | _ => none }
def fnExactIsMeasureRow : OpenClaim := { program := "ytpocgieacicmjaa", sum := "1bd3eb8bbdaf5dc3708238d039f9371386f623e91c7542883d57283e6a1e1a75", func := "loop.example/g01252/laws.FnExactIsMeasure", spec := "fnExactIsMeasure", apart := false }
def FnExactIsMeasureSaid : Prop := fnExactIsMeasureRow.holds Try.pinned (OpenSpec.ofChange fnExactIsMeasureSpec)

/-- ITS FALSE NEIGHBOUR: 'it returns false'. Refute it at one input. -/
def fnExactIsMeasureWrong : ChangeSpec := { name := "fnExactIsMeasure", fn := fun _ => fun
  | [d1, d2] => { results := [.lit (.bool false)], args := [d1, d2] }
  | _ => none }
def FnExactIsMeasureWrongFalsely : Prop := fnExactIsMeasureRow.holds Try.pinned (OpenSpec.ofChange fnExactIsMeasureWrong)

/-- 'laws.FnExactWayWord': WHATEVER THE INPUT: true; the input reads as it did. -/
def fnExactWayWordSpec : ChangeSpec := { name := "fnExactWayWord", fn := fun _ => fun
  | [d1, d2, d3] => { results := [.lit (.bool true)], args := [d1, d2, d3] }
  | _ => none }
def fnExactWayWordRow : OpenClaim := { program := "ytpocgieacicmjaa", sum := "1bd3eb8bbdaf5dc3708238d039f9371386f623e91c7542883d57283e6a1e1a75", func := "loop.example/g01252/laws.FnExactWayWord", spec := "fnExactWayWord", apart := false }
def FnExactWayWordSaid : Prop := fnExactWayWordRow.holds Try.pinned (OpenSpec.ofChange fnExactWayWordSpec)

/-- ITS FALSE NEIGHBOUR: 'it returns false'. Refute it at one input. -/
def fnExactWayWordWrong : ChangeSpec := { name := "fnExactWayWord", fn := fun _ => fun
  | [d1, d2, d3] => { results := [.lit (.bool false)], args := [d1, d2, d3] }
  | _ => none }
def FnExactWayWordWrongFalsely : Prop := fnExactWayWordRow.holds Try.pinned (OpenSpec.ofChange fnExactWayWordWrong)

/-- 'laws.FnExactTotalOf': WHATEVER THE INPUT: true; the input reads as it did. -/
def fnExactTotalOfSpec : ChangeSpec := { name := "fnExactTotalOf", fn := fun _ => fun
  | [d1, d2] => { results := [.lit (.bool true)], args := [d1, d2] }
  | _ => none }
def fnExactTotalOfRow : OpenClaim := { program := "ytpocgieacicmjaa", sum := "1bd3eb8bbdaf5dc3708238d039f9371386f623e91c7542883d57283e6a1e1a75", func := "loop.example/g01252/laws.FnExactTotalOf", spec := "fnExactTotalOf", apart := false }
def FnExactTotalOfSaid : Prop := fnExactTotalOfRow.holds Try.pinned (OpenSpec.ofChange fnExactTotalOfSpec)

/-- ITS FALSE NEIGHBOUR: 'it returns false'. Refute it at one input. -/
def fnExactTotalOfWrong : ChangeSpec := { name := "fnExactTotalOf", fn := fun _ => fun
  | [d1, d2] => { results := [.lit (.bool false)], args := [d1, d2] }
  | _ => none }
def FnExactTotalOfWrongFalsely : Prop := fnExactTotalOfRow.holds Try.pinned (OpenSpec.ofChange fnExactTotalOfWrong)

/- THE SECOND FORM. 'bulk': how many values and letters a reading holds, each counted each time it is reached (what is shared counts as often as it is met; a slice's spare places count too). A statement '..UptoSaid' is the law's where the arguments, and the package variables that the reading takes, are together of bulk at most 1048576: NARROWER than '..Said'. Prove '..Said' where nothing that the law and all that it calls make is longer than what came in: it says more and counts as full. Else prove '..UptoSaid'. A law counts once. -/
mutual
def uptoBulk {H : Type} : DataW H → Nat
  | .lit (.string bytes) => bytes.length + 1
  | .lit _ => 1
  | .nil => 1
  | .ptr d => uptoBulk d + 1
  | .slice elems spare => uptoBulkAll elems + uptoBulkAll spare + 1
  | .agg parts => uptoBulkAll parts + 1
  | .iface _ d => uptoBulk d + 1
  | .map entries => uptoBulkEntries entries + 1
  | .held _ => 1
def uptoBulkAll {H : Type} : List (DataW H) → Nat
  | [] => 0
  | d :: r => uptoBulk d + uptoBulkAll r
def uptoBulkEntries {H : Type} : List (Lit × DataW H) → Nat
  | [] => 0
  | x :: r => uptoBulkEntry x + uptoBulkEntries r
def uptoBulkEntry {H : Type} : Lit × DataW H → Nat
  | (.string bytes, d) => bytes.length + uptoBulk d + 1
  | (_, d) => uptoBulk d + 1
 end
def uptoSmall : (H : Type) → List (DataW H) → Bool := fun _ ds => decide (uptoBulkAll ds ≤ 1048576)
def OpenSpec.upto (s : _root_.Go.ChangeSpec) : _root_.Go.OpenSpec := { _root_.Go.OpenSpec.ofChange s with cond := some uptoSmall }

/-- 'laws.FnExactAreApartSides', WHERE WHAT IT READS IS OF BULK AT MOST 1048576: true; the input reads as it did. -/
def fnExactAreApartSidesUptoRow : OpenClaim := { program := "ytpocgieacicmjaa", sum := "1bd3eb8bbdaf5dc3708238d039f9371386f623e91c7542883d57283e6a1e1a75", func := "loop.example/g01252/laws.FnExactAreApartSides", spec := "fnExactAreApartSides", apart := false, narrowed := true }
def FnExactAreApartSidesUptoSaid : Prop := fnExactAreApartSidesUptoRow.holds Try.pinned (OpenSpec.upto fnExactAreApartSidesSpec)

/-- 'laws.FnExactSideHas', WHERE WHAT IT READS IS OF BULK AT MOST 1048576: true; the input reads as it did. -/
def fnExactSideHasUptoRow : OpenClaim := { program := "ytpocgieacicmjaa", sum := "1bd3eb8bbdaf5dc3708238d039f9371386f623e91c7542883d57283e6a1e1a75", func := "loop.example/g01252/laws.FnExactSideHas", spec := "fnExactSideHas", apart := false, narrowed := true }
def FnExactSideHasUptoSaid : Prop := fnExactSideHasUptoRow.holds Try.pinned (OpenSpec.upto fnExactSideHasSpec)

/-- 'laws.FnExactFollowSteps', WHERE WHAT IT READS IS OF BULK AT MOST 1048576: true; the input reads as it did. -/
def fnExactFollowStepsUptoRow : OpenClaim := { program := "ytpocgieacicmjaa", sum := "1bd3eb8bbdaf5dc3708238d039f9371386f623e91c7542883d57283e6a1e1a75", func := "loop.example/g01252/laws.FnExactFollowSteps", spec := "fnExactFollowSteps", apart := false, narrowed := true }
def FnExactFollowStepsUptoSaid : Prop := fnExactFollowStepsUptoRow.holds Try.pinned (OpenSpec.upto fnExactFollowStepsSpec)

/-- 'laws.FnExactIsMeasure', WHERE WHAT IT READS IS OF BULK AT MOST 1048576: true; the input reads as it did. -/
def fnExactIsMeasureUptoRow : OpenClaim := { program := "ytpocgieacicmjaa", sum := "1bd3eb8bbdaf5dc3708238d039f9371386f623e91c7542883d57283e6a1e1a75", func := "loop.example/g01252/laws.FnExactIsMeasure", spec := "fnExactIsMeasure", apart := false, narrowed := true }
def FnExactIsMeasureUptoSaid : Prop := fnExactIsMeasureUptoRow.holds Try.pinned (OpenSpec.upto fnExactIsMeasureSpec)

/-- 'laws.FnExactWayWord', WHERE WHAT IT READS IS OF BULK AT MOST 1048576: true; the input reads as it did. -/
def fnExactWayWordUptoRow : OpenClaim := { program := "ytpocgieacicmjaa", sum := "1bd3eb8bbdaf5dc3708238d039f9371386f623e91c7542883d57283e6a1e1a75", func := "loop.example/g01252/laws.FnExactWayWord", spec := "fnExactWayWord", apart := false, narrowed := true }
def FnExactWayWordUptoSaid : Prop := fnExactWayWordUptoRow.holds Try.pinned (OpenSpec.upto fnExactWayWordSpec)

/-- 'laws.FnExactTotalOf', WHERE WHAT IT READS IS OF BULK AT MOST 1048576: true; the input reads as it did. -/
def fnExactTotalOfUptoRow : OpenClaim := { program := "ytpocgieacicmjaa", sum := "1bd3eb8bbdaf5dc3708238d039f9371386f623e91c7542883d57283e6a1e1a75", func := "loop.example/g01252/laws.FnExactTotalOf", spec := "fnExactTotalOf", apart := false, narrowed := true }
def FnExactTotalOfUptoSaid : Prop := fnExactTotalOfUptoRow.holds Try.pinned (OpenSpec.upto fnExactTotalOfSpec)

end Rows
end Go.Proofs.Ytpocgieacicmjaa
