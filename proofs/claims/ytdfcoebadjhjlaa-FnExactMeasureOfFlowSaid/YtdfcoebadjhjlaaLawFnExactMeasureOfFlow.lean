-- Written by a program of this session out of Lean's own print of the loaded program; Lean checks it.
import Derived.Test.YtdfcoebadjhjlaaRows
import Derived.Test.YtdfcoebadjhjlaaQIx77
import Derived.Test.YtdfcoebadjhjlaaQIx5
import Derived.Test.YtdfcoebadjhjlaaPureFnExactMeasureOfFlow
import Derived.WalkKit
import Derived.ProofKit
import Derived.OpenShut
import Derived.ShutString
import Derived.ChangeOld
import Derived.Below
import Derived.SizedLaws
namespace Go.Proofs.Ytdfcoebadjhjlaa.fnExactMeasureOfFlow
open Go.ChangeShapes Go.WideShapes Go.ChangeAt Go.RowKit Go.Proofs.Ytdfcoebadjhjlaa.QI Go.Proofs.Ytdfcoebadjhjlaa
open Go.ChangeMaps (open_string shut_string)
set_option linter.unusedVariables false
theorem own : ownKnob Try.prog.godebug = none := by kernel_rfl
theorem laidOut : laidOutB Try.prog = true := by kernel_rfl
set_option maxRecDepth 100000 in
theorem lifted (os : Os) (started : os.Started) (H : Type) (enc : TypeId × Value → H) :
  ReturnsInHanded {} Try.checked os 6 .any (Rows.fnExactMeasureOfFlowSpec.pre6 enc Try.prog Try.f6 Rows.fnExactMeasureOfFlowRow.domain false) (Rows.fnExactMeasureOfFlowSpec.post enc Try.prog Try.f6 false true false false) := by
 refine returnsInHanded_of_change_sized (C := Try.checked) own started (by kernel_rfl) Try.func6
  (ChangeSpec.witness6 (enc := enc) (C := Try.checked) false ⟨#[], #[.int .i64 0, .agg #[.int .i64 0, .int .i64 0, .int .i64 0], .slice none 0 0], []⟩ 8 (by kernel_rfl) (by kernel_rfl) (by kernel_rfl) (by kernel_rfl)) ?_
 intro W base args ds gs before hval0 hW hcnd hsz0 _
 have hsz : (DataW.weightsEach Try.prog (Try.f6.params.toList ++ Rows.fnExactMeasureOfFlowSpec.plain.varTypes Try.prog) (ds ++ gs)).all (· ≤ reachBytes) = true := hsz0
 have hval : ∀ (j : Nat) t v, Try.f6.params[j]? = some t → args[j]? = some v → Value.okWide Try.prog W .any base t v := hval0
 have hW' := hW
 obtain ⟨p, q, hA0, hV, rfl, hfz, hnd⟩ := hW
 have hA : DataW.TrodAll enc Try.prog W 0 (fun _ => true) true Try.f6.params.toList args.toList ds p := hA0
 rw [Try.params6] at hA hval hsz
 obtain ⟨v0, vs0, d0, ds0, p0, q0, hargs, rfl, rfl, h0, r0⟩ := trodAll_cons hA
 obtain ⟨v1, vs1, d1, ds1, p1, q1, rfl, rfl, rfl, h1, r1⟩ := trodAll_cons r0
 obtain ⟨v2, vs2, d2, ds2, p2, q2, rfl, rfl, rfl, h2, r2⟩ := trodAll_cons r1
 obtain ⟨rfl, rfl, rfl⟩ := trodAll_nil r2
 obtain rfl : args = #[v0, v1, v2] := by cases args; simp_all
 obtain ⟨rfl, rfl⟩ := trodVars_none hV
 obtain ⟨a0, rfl, rfl, rfl, w0⟩ := open_int Try.underlying2 (hval 0 2 v0 rfl rfl) h0
 obtain ⟨y1, hk1, hy1⟩ := open_by op23 h1
 obtain ⟨cs1, rfl⟩ := okWide_agg Try.underlying23 rfl (hval 1 23 v1 rfl rfl)
 obtain rfl := Value.agg.inj (agg_of (k23_open hk1))
 have k1 := h1
 have lt1 : ∀ x ∈ p1, x.block < W.heap.size := by obtain ⟨m, hm⟩ := k1; exact DataW.trod_lt m _ _ _ hm
 obtain ⟨fuel2, hf2⟩ := h2
 obtain ⟨A2, c2, l2, e2, hr2, hc2, hm2, hw2⟩ := opens_row op94 Try.underlying51 hf2
 obtain ⟨aq2, nq2, cq2, rfl⟩ := okWide_slice Try.underlying51 (hval 2 51 v2 rfl rfl)
 have e2' : Value.slice aq2 nq2 cq2 = .slice A2 l2.length c2 := by simpa [Value.cells] using e2
 rw [e2'] at hf2 hval
 obtain ⟨rfl, rfl, rfl⟩ : aq2 = A2 ∧ nq2 = l2.length ∧ cq2 = c2 := by simpa using e2'
 have h2 := (⟨fuel2, hf2⟩ : DataW.Trod enc Try.prog W 0 (fun _ => true) true 51 (.slice aq2 l2.length cq2) d2 p2)
 have k2 := h2
 have lt2 : ∀ x ∈ p2, x.block < W.heap.size := by obtain ⟨m, hm⟩ := k2; exact DataW.trod_lt m _ _ _ hm
 clear hA0 hval0 hsz0 hsz
 obtain ⟨k, hP⟩ := Pure.FnExactMeasureOfFlow a0 y1.f0 y1.f1 y1.f2 l2 w0 hy1.1 hy1.2.1 hy1.2.2 hm2 hw2
 refine (laws_FnExactMeasureOfFlow.calls k a0 y1.f0 y1.f1 y1.f2 _ _ l2 true W hr2 hc2 hP).mono fun e W' ⟨he, bel0⟩ => ?_
 have bel := bel0
 subst he
 exact ⟨_, rfl, _, _, _, [], _, [], hW', trodAll_mk1 (shut_bool Try.underlying4 _), (trodAll_cons_mk (shut_int Try.underlying2 w0) (trodAll_cons_mk (Below.trod laidOut (by kernel_rfl) (of_decide_eq_true (by kernel_rfl)) k1 bel lt1) (trodAll_cons_mk (Below.trod laidOut (by kernel_rfl) (of_decide_eq_true (by kernel_rfl)) k2 bel lt2) trodAll_mk0))), rfl, bel.frame _, fun h => by cases h⟩
theorem over : Rows.fnExactMeasureOfFlowRow.holds Try.pinned (OpenSpec.ofChange Rows.fnExactMeasureOfFlowSpec) :=
 OpenClaim.holds_of_wide 6 Try.f6 rfl rfl rfl rfl rfl rfl rfl ⟨rfl, rfl, rfl, rfl, rfl⟩ rfl rfl rfl rfl rfl (by kernel_rfl) Try.func6 (by kernel_rfl)
  (of_decide_eq_true (by kernel_rfl)) (by unfold Func.isWrapper; first | (rw [if_pos (by decide +kernel)]; kernel_rfl) | (rw [if_neg (by decide +kernel)]; exact ⟨rfl, rfl⟩))
  (fun os started H enc _ => lifted os started H enc)
theorem proved : Rows.FnExactMeasureOfFlowSaid := over
#print axioms proved
end Go.Proofs.Ytdfcoebadjhjlaa.fnExactMeasureOfFlow
namespace Go.Proofs.Ytdfcoebadjhjlaa
/-- The row, under a short name, for the claim. -/
theorem fnExactMeasureOfFlow_holds : Rows.FnExactMeasureOfFlowSaid := fnExactMeasureOfFlow.proved
end Go.Proofs.Ytdfcoebadjhjlaa
