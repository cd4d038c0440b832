-- Written by a program of this session out of Lean's own print of the loaded program; Lean checks it.
import Derived.Test.YtpocgieacicmjabQCx0
namespace Go.Proofs.Ytpocgieacicmjab.QC
open Go.RowKit Go.Proofs.YtpocgieacicmjabW.PrintWords Go.Proofs.YtpocgieacicmjabW.PrintLast Go.Proofs.YtpocgieacicmjabW.PrintMore
attribute [local go_sem] isSome_setCell max2_int min2_int max_two min_two max_three min_three max_four min_four   -- for this text's walks alone
set_option linter.unusedVariables false
set_option linter.unusedSimpArgs false

def wfS23 (x : S23) : Prop := (Lit.int .i64 x.f0).wf = true ∧ (Lit.int .i64 x.f1).wf = true ∧ (Lit.int .i64 x.f2).wf = true
theorem op23 : Opens Try.prog k23 23 wfS23 := opens_struct (fun x : S23 => (x.f0, x.f1, x.f2)) (fun y => ⟨y.1, y.2.1, y.2.2⟩) (fun _ => rfl) Try.underlying23 (by kernel_rfl) (by kernel_rfl) (opensL_cons (opens_int (by kernel_rfl) Try.underlying2) (opensL_cons (opens_int (by kernel_rfl) Try.underlying2) (opensL_one (opens_int (by kernel_rfl) Try.underlying2))))
def wfS107 (x : S107) : Prop := wfS23 x.f0 ∧ (Lit.int .i64 x.f1).wf = true
theorem op107 : Opens Try.prog k107 107 wfS107 := opens_struct (fun x : S107 => (x.f0, x.f1)) (fun y => ⟨y.1, y.2⟩) (fun _ => rfl) Try.underlying107 (by kernel_rfl) (by kernel_rfl) (opensL_cons op23 (opensL_one (opens_int (by kernel_rfl) Try.underlying2)))
def wfS26 (x : S26) : Prop := wfS23 x.f0 ∧ (x.f1.length ≤ maxLen ∧ ∀ z ∈ x.f1, wfS107 z)
theorem op26 : Opens Try.prog k26 26 wfS26 := opens_struct (fun x : S26 => (x.f0, x.f1)) (fun y => ⟨y.1, y.2⟩) (fun _ => rfl) Try.underlying26 (by kernel_rfl) (by kernel_rfl) (opensL_cons op23 (opensL_one (opens_slice (by kernel_rfl) op107 Try.underlying24)))

end Go.Proofs.Ytpocgieacicmjab.QC
