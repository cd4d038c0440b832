import Derived.Test.YtgoeelhiffbjlaaQTx10
import Derived.Test.YtgoeelhiffbjlaaQTx63
import Derived.Test.YtgoeelhiffbjlaaQTx44
namespace Go.Proofs.Ytgoeelhiffbjlaa.QT
set_option maxHeartbeats 8000000
set_option maxRecDepth 100000
open Go.RowKit Go.Proofs.YtgoeelhiffbjlaaW.PrintWords Go.Proofs.YtgoeelhiffbjlaaW.PrintLast Go.Proofs.YtgoeelhiffbjlaaW.PrintMore
attribute [local go_sem] isSome_setCell max2_int min2_int max_two min_two max_three min_three max_four min_four
set_option linter.unusedVariables false
set_option linter.unusedSimpArgs false

/-! ### impl_inverted: function 97 -/
def impl_inverted.f (k : Nat) (a0_0 : Int) (a0_1 : Int) (a0_2 : Int) (a0_3 : Int) : Option (Int × Int × Int × Int) := (impl_reduce.f k a0_3 (wrap64 (-a0_1)) (wrap64 (-a0_2)) a0_0).bind fun bt420 => (some (bt420.1, bt420.2.1, bt420.2.2.1, bt420.2.2.2))
theorem impl_inverted.calls (k : Nat) (a0_0 : Int) (a0_1 : Int) (a0_2 : Int) (a0_3 : Int) (r1 : Int) (r2 : Int) (r3 : Int) (r4 : Int) (w : World) (h : impl_inverted.f k a0_0 a0_1 a0_2 a0_3 = some (r1, r2, r3, r4)) :
  Calls Try.prog 97 #[.agg #[.int .i64 a0_0, .int .i64 a0_1, .int .i64 a0_2, .int .i64 a0_3]] w fun e w' => e = .returned (.agg #[.int .i64 r1, .int .i64 r2, .int .i64 r3, .int .i64 r4]) ∧ Below w.heap.size w w' := by
 have hu46 := Try.underlying46
 have hu44 := Try.underlying44
 have HB := Aside0.mk (Below.refl w.heap.size w)
 have H : ((impl_reduce.f k a0_3 (wrap64 (-a0_1)) (wrap64 (-a0_2)) a0_0).bind fun bt420 => (some (bt420.1, bt420.2.1, bt420.2.2.1, bt420.2.2.2))) = some (r1, r2, r3, r4) := h
 clear h
 replace H := ob_ H
 obtain ⟨⟨t420, t421, t422, t423⟩, A20, H⟩ := H
 have A2 := Aside0.mk A20
 clear A20
 simp only [Option.some.injEq, Prod.mk.injEq] at H
 obtain ⟨rfl, rfl, rfl, rfl⟩ := H
 go_enter Try.func97, Try.ntmps97
 go_wp2_with (first | ((refine gd_ 1 ?_); refine bx_ 1 #[.int .i64 a0_0, .int .i64 a0_1, .int .i64 a0_2, .int .i64 a0_3] 46 ?_; intro gb418 hg w3 BK418 hb; have GW418 := bs_ HB hg; have GE418 := bs_ HB hg; replace HB := bt_ HB hb; clear hb hg) | ((refine gd_ 2 ?_); refine bx_ 2 #[.int .i64 0, .int .i64 0, .int .i64 0, .int .i64 0] 46 ?_; intro gb419 hg w4 BK419 hb; have GW419 := bs_ HB hg; have GE419 := bs_ HB hg; have NB418_419 := bm_ BK418 hg; have NB419_418 := bn_ BK418 hg; replace BK418 := bb_ BK418 hb; replace HB := bt_ HB hb; clear hb hg; have hnb5 := NB418_419.out; have hnc5 := NB419_418.out; obtain ⟨hcz6_0, hcz6_1, hcz6_2, hcz6_3, hfz6_0, hfz6_1, hfz6_2, hfz6_3⟩ := ch4_ BK418) | ((refine gc_ 105 ?_); refine ge_ 20 Try.func105 #[.agg #[.int .i64 a0_3, .int .i64 (wrap64 (-a0_1)), .int .i64 (wrap64 (-a0_2)), .int .i64 a0_0]] ?_; (with_reducible refine (impl_reduce.calls k a0_3 (wrap64 (-a0_1)) (wrap64 (-a0_2)) a0_0 t420 t421 t422 t423 _ A2.out).mono ?_); rintro e w7 ⟨rfl, hb⟩; refine ⟨_, rfl, ?_⟩; replace BK418 := bb_ BK418 hb; replace BK419 := bb_ BK419 hb; replace HB := bt_ HB hb; (try clear hb); obtain ⟨hcz8_0, hcz8_1, hcz8_2, hcz8_3, hfz8_0, hfz8_1, hfz8_2, hfz8_3⟩ := ch4_ BK419))
 refine bodyPost_ret (results_cell_row rfl _ _ gb419 46 #[.int .i64 t420, .int .i64 t421, .int .i64 t422, .int .i64 t423] (0, 0) _ rfl (bp_ BK419).out Try.underlying46 rfl (by kernel_rfl)) rfl ?_
 exact ⟨es_, (bw_ HB).out⟩
/-! ### impl_InverseMatrix: function 25 -/
def impl_InverseMatrix.f (k : Nat) (a0_0 : Int) (a0_1 : Int) (a0_2 : Int) (a0_3 : Int) : Option (Int × Int × Int × Int × Int) := (impl_IsMatrix.f k a0_0 a0_1 a0_2 a0_3).bind fun t426 => (if t426 = true then ((impl_inverted.f k a0_0 a0_1 a0_2 a0_3).bind fun bt427 => (some (bt427.1, bt427.2.1, bt427.2.2.1, bt427.2.2.2, 0))) else (some (0, 0, 0, 0, 1)))
theorem impl_InverseMatrix.calls (k : Nat) (a0_0 : Int) (a0_1 : Int) (a0_2 : Int) (a0_3 : Int) (r1 : Int) (r2 : Int) (r3 : Int) (r4 : Int) (r5 : Int) (w : World) (h : impl_InverseMatrix.f k a0_0 a0_1 a0_2 a0_3 = some (r1, r2, r3, r4, r5)) :
  Calls Try.prog 25 #[.agg #[.int .i64 a0_0, .int .i64 a0_1, .int .i64 a0_2, .int .i64 a0_3]] w fun e w' => e = .returned (.tuple #[.agg #[.int .i64 r1, .int .i64 r2, .int .i64 r3, .int .i64 r4], .int .i64 r5]) ∧ Below w.heap.size w w' := by
 have hu46 := Try.underlying46
 have HB := Aside0.mk (Below.refl w.heap.size w)
 have H : ((impl_IsMatrix.f k a0_0 a0_1 a0_2 a0_3).bind fun t426 => (if t426 = true then ((impl_inverted.f k a0_0 a0_1 a0_2 a0_3).bind fun bt427 => (some (bt427.1, bt427.2.1, bt427.2.2.1, bt427.2.2.2, 0))) else (some (0, 0, 0, 0, 1)))) = some (r1, r2, r3, r4, r5) := h
 clear h
 replace H := ob_ H
 obtain ⟨t426, A20, H⟩ := H
 have A2 := Aside0.mk A20
 clear A20
 by_cases c3 : t426 = true
 ·subst c3
  have H1 : ((impl_inverted.f k a0_0 a0_1 a0_2 a0_3).bind fun bt427 => (some (bt427.1, bt427.2.1, bt427.2.2.1, bt427.2.2.2, 0))) = some (r1, r2, r3, r4, r5) := by rw [if_pos rfl] at H; exact H
  clear H
  have H := H1
  clear H1
  replace H := ob_ H
  obtain ⟨⟨t427, t428, t429, t430⟩, A40, H⟩ := H
  have A4 := Aside0.mk A40
  clear A40
  simp only [Option.some.injEq, Prod.mk.injEq] at H
  obtain ⟨rfl, rfl, rfl, rfl, rfl⟩ := H
  go_enter Try.func25, Try.ntmps25
  go_wp2_with (first | ((refine gd_ 1 ?_); refine bx_ 1 #[.int .i64 a0_0, .int .i64 a0_1, .int .i64 a0_2, .int .i64 a0_3] 46 ?_; intro gb424 hg w5 BK424 hb; have GW424 := bs_ HB hg; have GE424 := bs_ HB hg; replace HB := bt_ HB hb; clear hb hg) | ((refine gd_ 2 ?_); refine bx_ 2 #[.int .i64 0, .int .i64 0, .int .i64 0, .int .i64 0] 46 ?_; intro gb425 hg w6 BK425 hb; have GW425 := bs_ HB hg; have GE425 := bs_ HB hg; have NB424_425 := bm_ BK424 hg; have NB425_424 := bn_ BK424 hg; replace BK424 := bb_ BK424 hb; replace HB := bt_ HB hb; clear hb hg; have hnb7 := NB424_425.out; have hnc7 := NB425_424.out; obtain ⟨hcz8_0, hcz8_1, hcz8_2, hcz8_3, hfz8_0, hfz8_1, hfz8_2, hfz8_3⟩ := ch4_ BK424) | ((refine gc_ 29 ?_); refine ge_ 5 Try.func29 #[.agg #[.int .i64 a0_0, .int .i64 a0_1, .int .i64 a0_2, .int .i64 a0_3]] ?_; (with_reducible refine (impl_IsMatrix.calls k a0_0 a0_1 a0_2 a0_3 true _ A2.out).mono ?_); rintro e w9 ⟨rfl, hb⟩; refine ⟨_, rfl, ?_⟩; replace BK424 := bb_ BK424 hb; replace BK425 := bb_ BK425 hb; replace HB := bt_ HB hb; (try clear hb); obtain ⟨hcz10_0, hcz10_1, hcz10_2, hcz10_3, hfz10_0, hfz10_1, hfz10_2, hfz10_3⟩ := ch4_ BK424) | ((refine gc_ 97 ?_); refine ge_ 9 Try.func97 #[.agg #[.int .i64 a0_0, .int .i64 a0_1, .int .i64 a0_2, .int .i64 a0_3]] ?_; (with_reducible refine (impl_inverted.calls k a0_0 a0_1 a0_2 a0_3 t427 t428 t429 t430 _ A4.out).mono ?_); rintro e w11 ⟨rfl, hb⟩; refine ⟨_, rfl, ?_⟩; replace BK424 := bb_ BK424 hb; replace BK425 := bb_ BK425 hb; replace HB := bt_ HB hb; (try clear hb); obtain ⟨hcz12_0, hcz12_1, hcz12_2, hcz12_3, hfz12_0, hfz12_1, hfz12_2, hfz12_3⟩ := ch4_ BK425))
  refine bodyPost_ret (results_ct rfl _ _ gb425 46 #[.int .i64 t427, .int .i64 t428, .int .i64 t429, .int .i64 t430] (0, 0) _ rfl (bp_ BK425).out Try.underlying46 rfl (by kernel_rfl)) rfl ?_
  exact ⟨es_, (bw_ HB).out⟩
 ·replace c3 := Bool.eq_false_iff.mpr c3
  subst c3
  have H1 : (some (0, 0, 0, 0, 1)) = some (r1, r2, r3, r4, r5) := by rw [if_neg (show ¬ (false = true) by decide)] at H; exact H
  clear H
  have H := H1
  clear H1
  simp only [Option.some.injEq, Prod.mk.injEq] at H
  obtain ⟨rfl, rfl, rfl, rfl, rfl⟩ := H
  go_enter Try.func25, Try.ntmps25
  go_wp2_with (first | ((refine gd_ 1 ?_); refine bx_ 1 #[.int .i64 a0_0, .int .i64 a0_1, .int .i64 a0_2, .int .i64 a0_3] 46 ?_; intro gb424 hg w13 BK424 hb; have GW424 := bs_ HB hg; have GE424 := bs_ HB hg; replace HB := bt_ HB hb; clear hb hg) | ((refine gd_ 2 ?_); refine bx_ 2 #[.int .i64 0, .int .i64 0, .int .i64 0, .int .i64 0] 46 ?_; intro gb425 hg w14 BK425 hb; have GW425 := bs_ HB hg; have GE425 := bs_ HB hg; have NB424_425 := bm_ BK424 hg; have NB425_424 := bn_ BK424 hg; replace BK424 := bb_ BK424 hb; replace HB := bt_ HB hb; clear hb hg; have hnb15 := NB424_425.out; have hnc15 := NB425_424.out; obtain ⟨hcz16_0, hcz16_1, hcz16_2, hcz16_3, hfz16_0, hfz16_1, hfz16_2, hfz16_3⟩ := ch4_ BK424) | ((refine gc_ 29 ?_); refine ge_ 5 Try.func29 #[.agg #[.int .i64 a0_0, .int .i64 a0_1, .int .i64 a0_2, .int .i64 a0_3]] ?_; (with_reducible refine (impl_IsMatrix.calls k a0_0 a0_1 a0_2 a0_3 false _ A2.out).mono ?_); rintro e w17 ⟨rfl, hb⟩; refine ⟨_, rfl, ?_⟩; replace BK424 := bb_ BK424 hb; replace BK425 := bb_ BK425 hb; replace HB := bt_ HB hb; (try clear hb); obtain ⟨hcz18_0, hcz18_1, hcz18_2, hcz18_3, hfz18_0, hfz18_1, hfz18_2, hfz18_3⟩ := ch4_ BK425))
  refine bodyPost_ret (results_ct rfl _ _ gb425 46 #[.int .i64 0, .int .i64 0, .int .i64 0, .int .i64 0] (0, 0) _ rfl (bp_ BK425).out Try.underlying46 rfl (by kernel_rfl)) rfl ?_
  exact ⟨es_, (bw_ HB).out⟩
end Go.Proofs.Ytgoeelhiffbjlaa.QT
