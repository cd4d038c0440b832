-- Written by a program of this session out of Lean's own print of the loaded program; Lean checks it.
import Derived.Test.YtbelfnmmmllolabQBx0
namespace Go.Proofs.Ytbelfnmmmllolab.QB
open Go.RowKit Go.Proofs.YtbelfnmmmllolabW.PrintWords Go.Proofs.YtbelfnmmmllolabW.PrintLast Go.Proofs.YtbelfnmmmllolabW.PrintMore
attribute [local go_sem] isSome_setCell max2_int min2_int max_two min_two max_three min_three max_four min_four   -- for this text's walks alone
set_option linter.unusedVariables false
set_option linter.unusedSimpArgs false

def wfS23 (x : S23) : Prop := (Lit.int .i64 x.f0).wf = true ∧ (Lit.int .i64 x.f1).wf = true ∧ (Lit.int .i64 x.f2).wf = true
theorem op23 : Opens Try.prog k23 23 wfS23 := opens_struct (fun x : S23 => (x.f0, x.f1, x.f2)) (fun y => ⟨y.1, y.2.1, y.2.2⟩) (fun _ => rfl) Try.underlying23 (by kernel_rfl) (by kernel_rfl) (opensL_cons (opens_int (by kernel_rfl) Try.underlying2) (opensL_cons (opens_int (by kernel_rfl) Try.underlying2) (opensL_one (opens_int (by kernel_rfl) Try.underlying2))))

end Go.Proofs.Ytbelfnmmmllolab.QB
