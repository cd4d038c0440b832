-- Written by a program of this session out of Lean's own print of the loaded program; Lean checks it.
import Derived.Test.YtdfcoebadjhjlaaRows
import Derived.Test.YtdfcoebadjhjlaaQHx84
import Derived.Test.YtdfcoebadjhjlaaQHx7
import Derived.Test.YtdfcoebadjhjlaaPureFnExactRefineAt
import Derived.WalkKit
import Derived.ProofKit
import Derived.OpenShut
import Derived.ShutString
import Derived.ChangeOld
import Derived.Below
import Derived.SizedLaws
namespace Go.Proofs.Ytdfcoebadjhjlaa.fnExactRefineAt
open Go.ChangeShapes Go.WideShapes Go.ChangeAt Go.RowKit Go.Proofs.Ytdfcoebadjhjlaa.QH Go.Proofs.Ytdfcoebadjhjlaa
open Go.ChangeMaps (open_string shut_string)
set_option linter.unusedVariables false
theorem own : ownKnob Try.prog.godebug = none := by kernel_rfl
theorem laidOut : laidOutB Try.prog = true := by kernel_rfl
set_option maxRecDepth 100000 in
theorem lifted (os : Os) (started : os.Started) (H : Type) (enc : TypeId × Value → H) :
  ReturnsInHanded {} Try.checked os 5 .any (Rows.fnExactRefineAtSpec.pre6 enc Try.prog Try.f5 Rows.fnExactRefineAtRow.domain false) (Rows.fnExactRefineAtSpec.post enc Try.prog Try.f5 false true false false) := by
 refine returnsInHanded_of_change_sized (C := Try.checked) own started (by kernel_rfl) Try.func5
  (ChangeSpec.witness6 (enc := enc) (C := Try.checked) false ⟨#[], #[.int .i64 0, .agg #[.int .i64 0, .int .i64 0, .int .i64 0, .slice none 0 0], .agg #[.int .i64 0, .int .i64 0, .int .i64 0], .slice none 0 0], []⟩ 8 (by kernel_rfl) (by kernel_rfl) (by kernel_rfl) (by kernel_rfl)) ?_
 intro W base args ds gs before hval0 hW hcnd hsz0 _
 have hsz : (DataW.weightsEach Try.prog (Try.f5.params.toList ++ Rows.fnExactRefineAtSpec.plain.varTypes Try.prog) (ds ++ gs)).all (· ≤ reachBytes) = true := hsz0
 have hval : ∀ (j : Nat) t v, Try.f5.params[j]? = some t → args[j]? = some v → Value.okWide Try.prog W .any base t v := hval0
 have hW' := hW
 obtain ⟨p, q, hA0, hV, rfl, hfz, hnd⟩ := hW
 have hA : DataW.TrodAll enc Try.prog W 0 (fun _ => true) true Try.f5.params.toList args.toList ds p := hA0
 rw [Try.params5] at hA hval hsz
 obtain ⟨v0, vs0, d0, ds0, p0, q0, hargs, rfl, rfl, h0, r0⟩ := trodAll_cons hA
 obtain ⟨v1, vs1, d1, ds1, p1, q1, rfl, rfl, rfl, h1, r1⟩ := trodAll_cons r0
 obtain ⟨v2, vs2, d2, ds2, p2, q2, rfl, rfl, rfl, h2, r2⟩ := trodAll_cons r1
 obtain ⟨v3, vs3, d3, ds3, p3, q3, rfl, rfl, rfl, h3, r3⟩ := trodAll_cons r2
 obtain ⟨rfl, rfl, rfl⟩ := trodAll_nil r3
 obtain rfl : args = #[v0, v1, v2, v3] := by cases args; simp_all
 obtain ⟨rfl, rfl⟩ := trodVars_none hV
 obtain ⟨a0, rfl, rfl, rfl, w0⟩ := open_int Try.underlying2 (hval 0 2 v0 rfl rfl) h0
 obtain ⟨y1, hk1, hy1⟩ := open_by op26 h1
 obtain ⟨cs1, rfl⟩ := okWide_agg Try.underlying26 rfl (hval 1 26 v1 rfl rfl)
 obtain ⟨A1_3, c1_3, e1, hc1_3, hr1_3⟩ := k26_open hk1
 obtain rfl := Value.agg.inj (agg_of e1)
 have k1 := h1
 have lt1 : ∀ x ∈ p1, x.block < W.heap.size := by obtain ⟨m, hm⟩ := k1; exact DataW.trod_lt m _ _ _ hm
 obtain ⟨y2, hk2, hy2⟩ := open_by op23 h2
 obtain ⟨cs2, rfl⟩ := okWide_agg Try.underlying23 rfl (hval 2 23 v2 rfl rfl)
 obtain rfl := Value.agg.inj (agg_of (k23_open hk2))
 have k2 := h2
 have lt2 : ∀ x ∈ p2, x.block < W.heap.size := by obtain ⟨m, hm⟩ := k2; exact DataW.trod_lt m _ _ _ hm
 obtain ⟨fuel3, hf3⟩ := h3
 obtain ⟨A3, c3, l3, e3, hr3, hc3, hm3, hw3⟩ := opens_row (opens_int (by kernel_rfl) Try.underlying2) Try.underlying45 hf3
 obtain ⟨aq3, nq3, cq3, rfl⟩ := okWide_slice Try.underlying45 (hval 3 45 v3 rfl rfl)
 have e3' : Value.slice aq3 nq3 cq3 = .slice A3 l3.length c3 := by simpa [Value.cells] using e3
 rw [e3'] at hf3 hval
 obtain ⟨rfl, rfl, rfl⟩ : aq3 = A3 ∧ nq3 = l3.length ∧ cq3 = c3 := by simpa using e3'
 have h3 := (⟨fuel3, hf3⟩ : DataW.Trod enc Try.prog W 0 (fun _ => true) true 45 (.slice aq3 l3.length cq3) d3 p3)
 have k3 := h3
 have lt3 : ∀ x ∈ p3, x.block < W.heap.size := by obtain ⟨m, hm⟩ := k3; exact DataW.trod_lt m _ _ _ hm
 clear hA0 hval0 hsz0 hsz
 obtain ⟨k, hP⟩ := Pure.FnExactRefineAt a0 y1.f0.f0 y1.f0.f1 y1.f0.f2 y1.f1 y2.f0 y2.f1 y2.f2 l3 w0 hy1.1.1 hy1.1.2.1 hy1.1.2.2 hy1.2.1 hy1.2.2 hy2.1 hy2.2.1 hy2.2.2 hm3 hw3
 refine (laws_FnExactRefineAt.calls k a0 y1.f0.f0 y1.f0.f1 y1.f0.f2 _ _ y1.f1 y2.f0 y2.f1 y2.f2 _ _ l3 true W hr1_3 hc1_3 hr3 hc3 hP).mono fun e W' ⟨he, bel0⟩ => ?_
 have bel := bel0
 subst he
 exact ⟨_, rfl, _, _, _, [], _, [], hW', trodAll_mk1 (shut_bool Try.underlying4 _), (trodAll_cons_mk (shut_int Try.underlying2 w0) (trodAll_cons_mk (Below.trod laidOut (by kernel_rfl) (of_decide_eq_true (by kernel_rfl)) k1 bel lt1) (trodAll_cons_mk (Below.trod laidOut (by kernel_rfl) (of_decide_eq_true (by kernel_rfl)) k2 bel lt2) (trodAll_cons_mk (Below.trod laidOut (by kernel_rfl) (of_decide_eq_true (by kernel_rfl)) k3 bel lt3) trodAll_mk0)))), rfl, bel.frame _, fun h => by cases h⟩
theorem over : Rows.fnExactRefineAtRow.holds Try.pinned (OpenSpec.ofChange Rows.fnExactRefineAtSpec) :=
 OpenClaim.holds_of_wide 5 Try.f5 rfl rfl rfl rfl rfl rfl rfl ⟨rfl, rfl, rfl, rfl, rfl⟩ rfl rfl rfl rfl rfl (by kernel_rfl) Try.func5 (by kernel_rfl)
  (of_decide_eq_true (by kernel_rfl)) (by unfold Func.isWrapper; first | (rw [if_pos (by decide +kernel)]; kernel_rfl) | (rw [if_neg (by decide +kernel)]; exact ⟨rfl, rfl⟩))
  (fun os started H enc _ => lifted os started H enc)
theorem proved : Rows.FnExactRefineAtSaid := over
#print axioms proved
end Go.Proofs.Ytdfcoebadjhjlaa.fnExactRefineAt
namespace Go.Proofs.Ytdfcoebadjhjlaa
/-- The row, under a short name, for the claim. -/
theorem fnExactRefineAt_holds : Rows.FnExactRefineAtSaid := fnExactRefineAt.proved
end Go.Proofs.Ytdfcoebadjhjlaa
