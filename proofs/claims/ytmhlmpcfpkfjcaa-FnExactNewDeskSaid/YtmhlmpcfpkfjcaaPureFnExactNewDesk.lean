/- NewDesk of the program and of the reference return the same desk; no condition. -/
import Derived.Test.YtmhlmpcfpkfjcaaQFnExactNewDeskx0
import Derived.Test.YtmhlmpcfpkfjcaaQFnExactNewDeskx1
import Derived.Test.YtmhlmpcfpkfjcaaQFnExactNewDeskx2
namespace Go.Proofs.Ytmhlmpcfpkfjcaa.Pure
open Go.RowKit Go.Proofs.Ytmhlmpcfpkfjcaa.QFnExactNewDesk Go.Proofs.YtmhlmpcfpkfjcaaW.PrintWords Go.Proofs.YtmhlmpcfpkfjcaaW.PrintLast
set_option linter.unusedVariables false
set_option linter.unusedSimpArgs false

-- block base
theorem wid {n : Int} (h0 : -9223372036854775808 ≤ n) (h1 : n ≤ 9223372036854775807) : wrap64 n = n := by unfold wrap64; omega
theorem wrap_lo (n : Int) : -9223372036854775808 ≤ wrap64 n := by unfold wrap64; omega
theorem wrap_hi (n : Int) : wrap64 n ≤ 9223372036854775807 := by unfold wrap64; omega
theorem wf_lo {a : Int} (h : (Lit.int .i64 a).wf = true) : -9223372036854775808 ≤ a := by
  simp only [Lit.wf, Bool.and_eq_true, decide_eq_true_eq] at h
  exact h.1
theorem wf_hi {a : Int} (h : (Lit.int .i64 a).wf = true) : a ≤ 9223372036854775807 := by
  simp only [Lit.wf, Bool.and_eq_true, decide_eq_true_eq] at h
  exact h.2
theorem Ev.val {α : Type} {o : Option α} {r : α} (h : o = some r) : Ev (fun _ => o) r := ⟨0, fun _ _ => h⟩
/-- What comes first is known for every number of rounds. -/
theorem Ev.bindv {α β : Type} {o : Option α} {f : Nat → α → Option β} {a : α} {r : β} (h : o = some a) (k : Ev (fun n => f n a) r) : Ev (fun n => o.bind (f n)) r := by
  subst h; exact k

theorem FnExactNewDesk : laws_FnExactNewDesk.Pure := by
  refine ⟨20, ?_⟩
  have w0 : wrap64 1 = 1 := wid (by omega) (by omega)
  have w1 : wrap64 2 = 2 := wid (by omega) (by omega)
  simp [laws_FnExactNewDesk.f, spec_NewDesk.f, spec_l11Fresh.f, impl_NewDesk.f, impl_freshDesk.f, impl_one.f, laws_eqDesk.f, laws_eqBall.f, laws_eqEnd.f, laws_eqMatrix.f, laws_eqMatrix.l0, laws_eqInt64A2.f, laws_eqInt64A2.l0, w0, w1]

end Go.Proofs.Ytmhlmpcfpkfjcaa.Pure
