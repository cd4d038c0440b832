/- The law's function, called: from what is shown of its plain form. No condition. -/
import Derived.Test.YtanckmepopmjkabGreatTXg12
set_option linter.unusedVariables false
set_option linter.unusedSimpArgs false
namespace Go.Proofs.YtanckmepopmjkabGreat.QW
open Go.Tx Go.RowKit
theorem laws_FnFreeWords.walk (P : laws_FnFreeWords.Pure) (a0 : Option Addr) (len0 cap0 : Nat) (z0 : List Int) (w : World) (w0 : (a0 = none ∧ len0 = 0 ∧ cap0 = 0 ∧ z0 = []) ∨ ∃ x, a0 = some x ∧ len0 ≤ cap0 ∧ cap0 ≤ maxLen ∧ z0.length = cap0 ∧ (∀ i, i < z0.length → w.cell? (x.add i) = some (.int .u8 (z0.getD i 0))) ∧ ∀ n ∈ z0, (Lit.int .u8 n).wf = true) (y0 : len0 * 1 ≤ 140737488351232) :
    Calls Tryz.prog 3 #[.slice a0 len0 cap0] w fun e w' => e = .returned (.bool true) ∧ Below w.heap.size w w' :=
  law_u8 (fun l0 h1 h2 h3 => by obtain ⟨k, h⟩ := P l0 h1 h2 h3; exact laws_FnFreeWords.cal h) a0 len0 cap0 z0 w w0 y0
end Go.Proofs.YtanckmepopmjkabGreat.QW
