-- Written by a program of this session out of Lean's own print of the loaded program; Lean checks it.
import Derived.Test.YtbelfnmmmllolaaRows
import Derived.Test.YtbelfnmmmllolaaQBx2
import Derived.Test.YtbelfnmmmllolaaQBx46
import Derived.Test.YtbelfnmmmllolaaPureFnExactWordMatrix
import Derived.WalkKit
import Derived.ProofKit
import Derived.OpenShut
import Derived.ShutString
import Derived.ChangeOld
import Derived.Below
import Derived.SizedLaws
namespace Go.Proofs.Ytbelfnmmmllolaa.fnExactWordMatrix
open Go.ChangeShapes Go.WideShapes Go.ChangeAt Go.RowKit Go.Proofs.Ytbelfnmmmllolaa.QB Go.Proofs.Ytbelfnmmmllolaa
open Go.ChangeMaps (open_string shut_string)
set_option linter.unusedVariables false
theorem own : ownKnob Try.prog.godebug = none := by kernel_rfl
theorem laidOut : laidOutB Try.prog = true := by kernel_rfl
set_option maxRecDepth 100000 in
theorem lifted (os : Os) (started : os.Started) (H : Type) (enc : TypeId × Value → H) :
  ReturnsInHanded {} Try.checked os 8 .any (Rows.fnExactWordMatrixSpec.pre6 enc Try.prog Try.f8 Rows.fnExactWordMatrixRow.domain false) (Rows.fnExactWordMatrixSpec.post enc Try.prog Try.f8 false true false false) := by
 refine returnsInHanded_of_change_sized (C := Try.checked) own started (by kernel_rfl) Try.func8
  (ChangeSpec.witness6 (enc := enc) (C := Try.checked) false ⟨#[], #[.slice none 0 0, .slice none 0 0], []⟩ 8 (by kernel_rfl) (by kernel_rfl) (by kernel_rfl) (by kernel_rfl)) ?_
 intro W base args ds gs before hval0 hW hcnd hsz0 _
 have hsz : (DataW.weightsEach Try.prog (Try.f8.params.toList ++ Rows.fnExactWordMatrixSpec.plain.varTypes Try.prog) (ds ++ gs)).all (· ≤ reachBytes) = true := hsz0
 have hval : ∀ (j : Nat) t v, Try.f8.params[j]? = some t → args[j]? = some v → Value.okWide Try.prog W .any base t v := hval0
 have hW' := hW
 obtain ⟨p, q, hA0, hV, rfl, hfz, hnd⟩ := hW
 have hA : DataW.TrodAll enc Try.prog W 0 (fun _ => true) true Try.f8.params.toList args.toList ds p := hA0
 rw [Try.params8] at hA hval hsz
 obtain ⟨v0, vs0, d0, ds0, p0, q0, hargs, rfl, rfl, h0, r0⟩ := trodAll_cons hA
 obtain ⟨v1, vs1, d1, ds1, p1, q1, rfl, rfl, rfl, h1, r1⟩ := trodAll_cons r0
 obtain ⟨rfl, rfl, rfl⟩ := trodAll_nil r1
 obtain rfl : args = #[v0, v1] := by cases args; simp_all
 obtain ⟨rfl, rfl⟩ := trodVars_none hV
 obtain ⟨fuel0, hf0⟩ := h0
 obtain ⟨A0, c0, l0, e0, hr0, hc0, hm0, hw0⟩ := opens_row op23 Try.underlying37 hf0
 obtain ⟨aq0, nq0, cq0, rfl⟩ := okWide_slice Try.underlying37 (hval 0 37 v0 rfl rfl)
 have e0' : Value.slice aq0 nq0 cq0 = .slice A0 l0.length c0 := by simpa [Value.cells] using e0
 rw [e0'] at hf0 hval
 obtain ⟨rfl, rfl, rfl⟩ : aq0 = A0 ∧ nq0 = l0.length ∧ cq0 = c0 := by simpa using e0'
 have h0 := (⟨fuel0, hf0⟩ : DataW.Trod enc Try.prog W 0 (fun _ => true) true 37 (.slice aq0 l0.length cq0) d0 p0)
 have k0 := h0
 have lt0 : ∀ x ∈ p0, x.block < W.heap.size := by obtain ⟨m, hm⟩ := k0; exact DataW.trod_lt m _ _ _ hm
 obtain ⟨fuel1, hf1⟩ := h1
 obtain ⟨A1, c1, l1, e1, hr1, hc1, hm1, hw1⟩ := opens_row (opens_int (by kernel_rfl) Try.underlying2) Try.underlying46 hf1
 obtain ⟨aq1, nq1, cq1, rfl⟩ := okWide_slice Try.underlying46 (hval 1 46 v1 rfl rfl)
 have e1' : Value.slice aq1 nq1 cq1 = .slice A1 l1.length c1 := by simpa [Value.cells] using e1
 rw [e1'] at hf1 hval
 obtain ⟨rfl, rfl, rfl⟩ : aq1 = A1 ∧ nq1 = l1.length ∧ cq1 = c1 := by simpa using e1'
 have h1 := (⟨fuel1, hf1⟩ : DataW.Trod enc Try.prog W 0 (fun _ => true) true 46 (.slice aq1 l1.length cq1) d1 p1)
 have k1 := h1
 have lt1 : ∀ x ∈ p1, x.block < W.heap.size := by obtain ⟨m, hm⟩ := k1; exact DataW.trod_lt m _ _ _ hm
 clear hA0 hval0 hsz0 hsz
 obtain ⟨k, hP⟩ := Pure.FnExactWordMatrix l0 l1 hm0 hw0 hm1 hw1
 refine (laws_FnExactWordMatrix.calls k _ _ l0 _ _ l1 true W hr0 hc0 hr1 hc1 hP).mono fun e W' ⟨he, bel0⟩ => ?_
 have bel := bel0
 subst he
 exact ⟨_, rfl, _, _, _, [], _, [], hW', trodAll_mk1 (shut_bool Try.underlying4 _), (trodAll_cons_mk (Below.trod laidOut (by kernel_rfl) (of_decide_eq_true (by kernel_rfl)) k0 bel lt0) (trodAll_cons_mk (Below.trod laidOut (by kernel_rfl) (of_decide_eq_true (by kernel_rfl)) k1 bel lt1) trodAll_mk0)), rfl, bel.frame _, fun h => by cases h⟩
theorem over : Rows.fnExactWordMatrixRow.holds Try.pinned (OpenSpec.ofChange Rows.fnExactWordMatrixSpec) :=
 OpenClaim.holds_of_wide 8 Try.f8 rfl rfl rfl rfl rfl rfl rfl ⟨rfl, rfl, rfl, rfl, rfl⟩ rfl rfl rfl rfl rfl (by kernel_rfl) Try.func8 (by kernel_rfl)
  (of_decide_eq_true (by kernel_rfl)) (by unfold Func.isWrapper; first | (rw [if_pos (by decide +kernel)]; kernel_rfl) | (rw [if_neg (by decide +kernel)]; exact ⟨rfl, rfl⟩))
  (fun os started H enc _ => lifted os started H enc)
theorem proved : Rows.FnExactWordMatrixSaid := over
#print axioms proved
end Go.Proofs.Ytbelfnmmmllolaa.fnExactWordMatrix
namespace Go.Proofs.Ytbelfnmmmllolaa
/-- The row, under a short name, for the claim. -/
theorem fnExactWordMatrix_holds : Rows.FnExactWordMatrixSaid := fnExactWordMatrix.proved
end Go.Proofs.Ytbelfnmmmllolaa
