-- Written by a program of this session out of Lean's own print of the loaded program; Lean checks it.
import Derived.Test.YtpocgieacicmjaaQBx0
namespace Go.Proofs.Ytpocgieacicmjaa.QB
open Go.RowKit Go.Proofs.YtpocgieacicmjaaW.PrintWords Go.Proofs.YtpocgieacicmjaaW.PrintLast Go.Proofs.YtpocgieacicmjaaW.PrintMore
attribute [local go_sem] isSome_setCell max2_int min2_int max_two min_two max_three min_three max_four min_four   -- for this text's walks alone
set_option linter.unusedVariables false
set_option linter.unusedSimpArgs false

def wfS23 (x : S23) : Prop := (Lit.int .i64 x.f0).wf = true ∧ (Lit.int .i64 x.f1).wf = true ∧ (Lit.int .i64 x.f2).wf = true
theorem op23 : Opens Try.prog k23 23 wfS23 := opens_struct (fun x : S23 => (x.f0, x.f1, x.f2)) (fun y => ⟨y.1, y.2.1, y.2.2⟩) (fun _ => rfl) Try.underlying23 (by kernel_rfl) (by kernel_rfl) (opensL_cons (opens_int (by kernel_rfl) Try.underlying2) (opensL_cons (opens_int (by kernel_rfl) Try.underlying2) (opensL_one (opens_int (by kernel_rfl) Try.underlying2))))
def wfS102 (x : S102) : Prop := wfS23 x.f0 ∧ (Lit.int .i64 x.f1).wf = true
theorem op102 : Opens Try.prog k102 102 wfS102 := opens_struct (fun x : S102 => (x.f0, x.f1)) (fun y => ⟨y.1, y.2⟩) (fun _ => rfl) Try.underlying102 (by kernel_rfl) (by kernel_rfl) (opensL_cons op23 (opensL_one (opens_int (by kernel_rfl) Try.underlying2)))
def wfS46 (x : S46) : Prop := wfS23 x.f0 ∧ (x.f1.length ≤ maxLen ∧ ∀ z ∈ x.f1, wfS102 z)
theorem op46 : Opens Try.prog k46 46 wfS46 := opens_struct (fun x : S46 => (x.f0, x.f1)) (fun y => ⟨y.1, y.2⟩) (fun _ => rfl) Try.underlying46 (by kernel_rfl) (by kernel_rfl) (opensL_cons op23 (opensL_one (opens_slice (by kernel_rfl) op102 Try.underlying44)))

end Go.Proofs.Ytpocgieacicmjaa.QB
