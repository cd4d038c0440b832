/-
  No cell of these rows narrows 'for every input' (looked for: loops, veiled, ifaces, maps, wideKeys, modest, calm, conditions, laid).
  DERIVED. THE GIVEN ROWS OF THIS SEAT. 6 by the template 'for every input the law returns true; each argument reads behind the call as it read before'; 0 by the template 'total and deterministic' (their statements: YtmhlmpcfpkfjcaaTotals.lean).
  GIVEN WITH THE SEED: the statements are not yours to turn. If you find one false, say at which input.
  Laid BY PROGRAM, IN A SANDBOX (cutbox-rows.mjs): the forced cells as the released guide's own fill.sh prints them over the translation ad6130d885367fc4… (all of the seat's roots in one cut). By AI agents, Wed Nov 11 2026. No macro, syntax, notation, axiom, sorry.
-/
import Derived.Test.YtmhlmpcfpkfjcaaChecked
import GoSem.Claim
import GoSem.ClaimJoined
import GoSem.ClaimMapViews
import Derived.JoinedTies
import Derived.KernelRfl
namespace Go.Proofs.Ytmhlmpcfpkfjcaa
/- THE CELL 'sum', in the pinned program and in every row, IS THE sha256 OF THE DUMP (.gsa) THAT YtmhlmpcfpkfjcaaProg.lean LOADS. Nothing in Lean hashes anything: it is a label: what it is worth is what the hold of that sum in a sandbox is worth. -/
noncomputable def Try.pinned : Pinned := { name := "ytmhlmpcfpkfjcaa", sum := "ad6130d885367fc49801fbaf82e94eabbbe10e985330470a68a0cf5467a15db1", checked := Try.checked }
namespace Rows
def none {H : Type} : Left H := { results := [], args := [] }

/-- 'laws.FnExactCountShortWords': WHATEVER THE INPUT: true; the input reads as it did. -/
def fnExactCountShortWordsSpec : ChangeSpec := { name := "fnExactCountShortWords", fn := fun _ => fun
  | [d1, d2] => { results := [.lit (.bool true)], args := [d1, d2] }
  | _ => none }
def fnExactCountShortWordsRow : OpenClaim := { program := "ytmhlmpcfpkfjcaa", sum := "ad6130d885367fc49801fbaf82e94eabbbe10e985330470a68a0cf5467a15db1", func := "loop.example/g01252/laws.FnExactCountShortWords", spec := "fnExactCountShortWords", apart := false }
def FnExactCountShortWordsSaid : Prop := fnExactCountShortWordsRow.holds Try.pinned (OpenSpec.ofChange fnExactCountShortWordsSpec)

/-- ITS FALSE NEIGHBOUR: 'it returns false'. Refute it at one input. -/
def fnExactCountShortWordsWrong : ChangeSpec := { name := "fnExactCountShortWords", fn := fun _ => fun
  | [d1, d2] => { results := [.lit (.bool false)], args := [d1, d2] }
  | _ => none }
def FnExactCountShortWordsWrongFalsely : Prop := fnExactCountShortWordsRow.holds Try.pinned (OpenSpec.ofChange fnExactCountShortWordsWrong)

/-- 'laws.FnExactNewDesk': WHATEVER THE INPUT: true; the input reads as it did. -/
def fnExactNewDeskSpec : ChangeSpec := { name := "fnExactNewDesk", fn := fun _ => fun
  | [] => { results := [.lit (.bool true)], args := [] }
  | _ => none }
def fnExactNewDeskRow : OpenClaim := { program := "ytmhlmpcfpkfjcaa", sum := "ad6130d885367fc49801fbaf82e94eabbbe10e985330470a68a0cf5467a15db1", func := "loop.example/g01252/laws.FnExactNewDesk", spec := "fnExactNewDesk", apart := false }
def FnExactNewDeskSaid : Prop := fnExactNewDeskRow.holds Try.pinned (OpenSpec.ofChange fnExactNewDeskSpec)

/-- ITS FALSE NEIGHBOUR: 'it returns false'. Refute it at one input. -/
def fnExactNewDeskWrong : ChangeSpec := { name := "fnExactNewDesk", fn := fun _ => fun
  | [] => { results := [.lit (.bool false)], args := [] }
  | _ => none }
def FnExactNewDeskWrongFalsely : Prop := fnExactNewDeskRow.holds Try.pinned (OpenSpec.ofChange fnExactNewDeskWrong)

/-- 'laws.FnExactIsShortWord': WHATEVER THE INPUT: true; the input reads as it did. -/
def fnExactIsShortWordSpec : ChangeSpec := { name := "fnExactIsShortWord", fn := fun _ => fun
  | [d1, d2] => { results := [.lit (.bool true)], args := [d1, d2] }
  | _ => none }
def fnExactIsShortWordRow : OpenClaim := { program := "ytmhlmpcfpkfjcaa", sum := "ad6130d885367fc49801fbaf82e94eabbbe10e985330470a68a0cf5467a15db1", func := "loop.example/g01252/laws.FnExactIsShortWord", spec := "fnExactIsShortWord", apart := false }
def FnExactIsShortWordSaid : Prop := fnExactIsShortWordRow.holds Try.pinned (OpenSpec.ofChange fnExactIsShortWordSpec)

/-- ITS FALSE NEIGHBOUR: 'it returns false'. Refute it at one input. -/
def fnExactIsShortWordWrong : ChangeSpec := { name := "fnExactIsShortWord", fn := fun _ => fun
  | [d1, d2] => { results := [.lit (.bool false)], args := [d1, d2] }
  | _ => none }
def FnExactIsShortWordWrongFalsely : Prop := fnExactIsShortWordRow.holds Try.pinned (OpenSpec.ofChange fnExactIsShortWordWrong)

/-- 'laws.FnExactNormalSteps': WHATEVER THE INPUT: true; the input reads as it did. -/
def fnExactNormalStepsSpec : ChangeSpec := { name := "fnExactNormalSteps", fn := fun _ => fun
  | [d1, d2] => { results := [.lit (.bool true)], args := [d1, d2] }
  | _ => none }
def fnExactNormalStepsRow : OpenClaim := { program := "ytmhlmpcfpkfjcaa", sum := "ad6130d885367fc49801fbaf82e94eabbbe10e985330470a68a0cf5467a15db1", func := "loop.example/g01252/laws.FnExactNormalSteps", spec := "fnExactNormalSteps", apart := false }
def FnExactNormalStepsSaid : Prop := fnExactNormalStepsRow.holds Try.pinned (OpenSpec.ofChange fnExactNormalStepsSpec)

/-- ITS FALSE NEIGHBOUR: 'it returns false'. Refute it at one input. -/
def fnExactNormalStepsWrong : ChangeSpec := { name := "fnExactNormalSteps", fn := fun _ => fun
  | [d1, d2] => { results := [.lit (.bool false)], args := [d1, d2] }
  | _ => none }
def FnExactNormalStepsWrongFalsely : Prop := fnExactNormalStepsRow.holds Try.pinned (OpenSpec.ofChange fnExactNormalStepsWrong)

/-- 'laws.FnExactOrderOfMatrix': WHATEVER THE INPUT: true; the input reads as it did. -/
def fnExactOrderOfMatrixSpec : ChangeSpec := { name := "fnExactOrderOfMatrix", fn := fun _ => fun
  | [d] => { results := [.lit (.bool true)], args := [d] }
  | _ => none }
def fnExactOrderOfMatrixRow : OpenClaim := { program := "ytmhlmpcfpkfjcaa", sum := "ad6130d885367fc49801fbaf82e94eabbbe10e985330470a68a0cf5467a15db1", func := "loop.example/g01252/laws.FnExactOrderOfMatrix", spec := "fnExactOrderOfMatrix", apart := false }
def FnExactOrderOfMatrixSaid : Prop := fnExactOrderOfMatrixRow.holds Try.pinned (OpenSpec.ofChange fnExactOrderOfMatrixSpec)

/-- ITS FALSE NEIGHBOUR: 'it returns false'. Refute it at one input. -/
def fnExactOrderOfMatrixWrong : ChangeSpec := { name := "fnExactOrderOfMatrix", fn := fun _ => fun
  | [d] => { results := [.lit (.bool false)], args := [d] }
  | _ => none }
def FnExactOrderOfMatrixWrongFalsely : Prop := fnExactOrderOfMatrixRow.holds Try.pinned (OpenSpec.ofChange fnExactOrderOfMatrixWrong)

/-- 'laws.FnExactIsDesk': WHATEVER THE INPUT: true; the input reads as it did. -/
def fnExactIsDeskSpec : ChangeSpec := { name := "fnExactIsDesk", fn := fun _ => fun
  | [d] => { results := [.lit (.bool true)], args := [d] }
  | _ => none }
def fnExactIsDeskRow : OpenClaim := { program := "ytmhlmpcfpkfjcaa", sum := "ad6130d885367fc49801fbaf82e94eabbbe10e985330470a68a0cf5467a15db1", func := "loop.example/g01252/laws.FnExactIsDesk", spec := "fnExactIsDesk", apart := false }
def FnExactIsDeskSaid : Prop := fnExactIsDeskRow.holds Try.pinned (OpenSpec.ofChange fnExactIsDeskSpec)

/-- ITS FALSE NEIGHBOUR: 'it returns false'. Refute it at one input. -/
def fnExactIsDeskWrong : ChangeSpec := { name := "fnExactIsDesk", fn := fun _ => fun
  | [d] => { results := [.lit (.bool false)], args := [d] }
  | _ => none }
def FnExactIsDeskWrongFalsely : Prop := fnExactIsDeskRow.holds Try.pinned (OpenSpec.ofChange fnExactIsDeskWrong)

/- THE SECOND FORM. 'bulk': how many values and letters a reading holds, each counted each time it is reached (what is shared counts as often as it is met; a slice's spare places count too). A statement '..UptoSaid' is the law's where the arguments, and the package variables that the reading takes, are together of bulk at most 1048576: NARROWER than '..Said'. Prove '..Said' where nothing that the law and all that it calls make is longer than what came in: it says more and counts as full. Else prove '..UptoSaid'. A law counts once. -/
mutual
def uptoBulk {H : Type} : DataW H → Nat
  | .lit (.string bytes) => bytes.length + 1
  | .lit _ => 1
  | .nil => 1
  | .ptr d => uptoBulk d + 1
  | .slice elems spare => uptoBulkAll elems + uptoBulkAll spare + 1
  | .agg parts => uptoBulkAll parts + 1
  | .iface _ d => uptoBulk d + 1
  | .map entries => uptoBulkEntries entries + 1
  | .held _ => 1
def uptoBulkAll {H : Type} : List (DataW H) → Nat
  | [] => 0
  | d :: r => uptoBulk d + uptoBulkAll r
def uptoBulkEntries {H : Type} : List (Lit × DataW H) → Nat
  | [] => 0
  | x :: r => uptoBulkEntry x + uptoBulkEntries r
def uptoBulkEntry {H : Type} : Lit × DataW H → Nat
  | (.string bytes, d) => bytes.length + uptoBulk d + 1
  | (_, d) => uptoBulk d + 1
 end
def uptoSmall : (H : Type) → List (DataW H) → Bool := fun _ ds => decide (uptoBulkAll ds ≤ 1048576)
def OpenSpec.upto (s : _root_.Go.ChangeSpec) : _root_.Go.OpenSpec := { _root_.Go.OpenSpec.ofChange s with cond := some uptoSmall }

/-- 'laws.FnExactCountShortWords', WHERE WHAT IT READS IS OF BULK AT MOST 1048576: true; the input reads as it did. -/
def fnExactCountShortWordsUptoRow : OpenClaim := { program := "ytmhlmpcfpkfjcaa", sum := "ad6130d885367fc49801fbaf82e94eabbbe10e985330470a68a0cf5467a15db1", func := "loop.example/g01252/laws.FnExactCountShortWords", spec := "fnExactCountShortWords", apart := false, narrowed := true }
def FnExactCountShortWordsUptoSaid : Prop := fnExactCountShortWordsUptoRow.holds Try.pinned (OpenSpec.upto fnExactCountShortWordsSpec)

/-- 'laws.FnExactNewDesk', WHERE WHAT IT READS IS OF BULK AT MOST 1048576: true; the input reads as it did. -/
def fnExactNewDeskUptoRow : OpenClaim := { program := "ytmhlmpcfpkfjcaa", sum := "ad6130d885367fc49801fbaf82e94eabbbe10e985330470a68a0cf5467a15db1", func := "loop.example/g01252/laws.FnExactNewDesk", spec := "fnExactNewDesk", apart := false, narrowed := true }
def FnExactNewDeskUptoSaid : Prop := fnExactNewDeskUptoRow.holds Try.pinned (OpenSpec.upto fnExactNewDeskSpec)

/-- 'laws.FnExactIsShortWord', WHERE WHAT IT READS IS OF BULK AT MOST 1048576: true; the input reads as it did. -/
def fnExactIsShortWordUptoRow : OpenClaim := { program := "ytmhlmpcfpkfjcaa", sum := "ad6130d885367fc49801fbaf82e94eabbbe10e985330470a68a0cf5467a15db1", func := "loop.example/g01252/laws.FnExactIsShortWord", spec := "fnExactIsShortWord", apart := false, narrowed := true }
def FnExactIsShortWordUptoSaid : Prop := fnExactIsShortWordUptoRow.holds Try.pinned (OpenSpec.upto fnExactIsShortWordSpec)

/-- 'laws.FnExactNormalSteps', WHERE WHAT IT READS IS OF BULK AT MOST 1048576: true; the input reads as it did. -/
def fnExactNormalStepsUptoRow : OpenClaim := { program := "ytmhlmpcfpkfjcaa", sum := "ad6130d885367fc49801fbaf82e94eabbbe10e985330470a68a0cf5467a15db1", func := "loop.example/g01252/laws.FnExactNormalSteps", spec := "fnExactNormalSteps", apart := false, narrowed := true }
def FnExactNormalStepsUptoSaid : Prop := fnExactNormalStepsUptoRow.holds Try.pinned (OpenSpec.upto fnExactNormalStepsSpec)

/-- 'laws.FnExactOrderOfMatrix', WHERE WHAT IT READS IS OF BULK AT MOST 1048576: true; the input reads as it did. -/
def fnExactOrderOfMatrixUptoRow : OpenClaim := { program := "ytmhlmpcfpkfjcaa", sum := "ad6130d885367fc49801fbaf82e94eabbbe10e985330470a68a0cf5467a15db1", func := "loop.example/g01252/laws.FnExactOrderOfMatrix", spec := "fnExactOrderOfMatrix", apart := false, narrowed := true }
def FnExactOrderOfMatrixUptoSaid : Prop := fnExactOrderOfMatrixUptoRow.holds Try.pinned (OpenSpec.upto fnExactOrderOfMatrixSpec)

/-- 'laws.FnExactIsDesk', WHERE WHAT IT READS IS OF BULK AT MOST 1048576: true; the input reads as it did. -/
def fnExactIsDeskUptoRow : OpenClaim := { program := "ytmhlmpcfpkfjcaa", sum := "ad6130d885367fc49801fbaf82e94eabbbe10e985330470a68a0cf5467a15db1", func := "loop.example/g01252/laws.FnExactIsDesk", spec := "fnExactIsDesk", apart := false, narrowed := true }
def FnExactIsDeskUptoSaid : Prop := fnExactIsDeskUptoRow.holds Try.pinned (OpenSpec.upto fnExactIsDeskSpec)

end Rows
end Go.Proofs.Ytmhlmpcfpkfjcaa
