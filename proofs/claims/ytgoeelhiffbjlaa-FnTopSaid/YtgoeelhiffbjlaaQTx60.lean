import Derived.Test.YtgoeelhiffbjlaaQTx10
import Derived.Test.YtgoeelhiffbjlaaQTx16
import Derived.Test.YtgoeelhiffbjlaaQTx57
namespace Go.Proofs.Ytgoeelhiffbjlaa.QT
set_option maxHeartbeats 8000000
set_option maxRecDepth 100000
open Go.RowKit Go.Proofs.YtgoeelhiffbjlaaW.PrintWords Go.Proofs.YtgoeelhiffbjlaaW.PrintLast Go.Proofs.YtgoeelhiffbjlaaW.PrintMore
attribute [local go_sem] isSome_setCell max2_int min2_int max_two min_two max_three min_three max_four min_four
set_option linter.unusedVariables false
set_option linter.unusedSimpArgs false

/-! ### impl_unit: function 190 -/
def impl_unit.f (k : Nat) (a0 : Int) (a1 : Int) : Option (Int) := (impl_valuation.f k a0 a1).bind fun t361 => ((impl_power.f k a0 t361).bind fun t362 => (if t362 = 0 then (none) else (some (wrap64 (Int.tdiv a1 t362)))))
theorem impl_unit.calls (k : Nat) (a0 : Int) (a1 : Int) (r : Int) (w : World) (h : impl_unit.f k a0 a1 = some r) :
  Calls Try.prog 190 #[.int .i64 a0, .int .i64 a1] w fun e w' => e = .returned (.int .i64 r) ∧ Drawn0 w w' := by
 have H : ((impl_valuation.f k a0 a1).bind fun t361 => ((impl_power.f k a0 t361).bind fun t362 => (if t362 = 0 then (none) else (some (wrap64 (Int.tdiv a1 t362)))))) = some r := h
 clear h
 replace H := ob_ H
 obtain ⟨t361, A30, H⟩ := H
 have A3 := Aside0.mk A30
 clear A30
 replace H := ob_ H
 obtain ⟨t362, A40, H⟩ := H
 have A4 := Aside0.mk A40
 clear A40
 by_cases c5 : t362 = 0
 ·rw [if_pos c5] at H
  exact absurd H (by simp)
 ·rw [if_neg c5] at H
  have c5b0 : (t362 == 0) = false := beq_eq_false_iff_ne.mpr c5
  have c5b1 : (t362 != 0) = true := bne_iff_ne.mpr c5
  obtain rfl := si_ H
  go_enter Try.func190, Try.ntmps190
  go_wp2_with (first | ((refine gc_ 164 ?_); refine ge_ 9 Try.func164 #[.int .i64 a0, .int .i64 a1] ?_; (with_reducible refine (impl_valuation.calls k a0 a1 t361 _ A3.out).mono ?_); rintro e w' ⟨rfl, ⟨nd, rfl⟩⟩; refine ⟨_, rfl, ?_⟩) | ((refine gc_ 162 ?_); refine ge_ 10 Try.func162 #[.int .i64 a0, .int .i64 t361] ?_; (with_reducible refine (impl_power.calls k a0 t361 t362 _ A4.out).mono ?_); rintro e w' ⟨rfl, ⟨nd, rfl⟩⟩; refine ⟨_, rfl, ?_⟩))
  go_ret
  exact ⟨en_, de_⟩
/-! ### impl_inverse: function 191 -/
def impl_inverse.l0 : Nat → Int → Int → Int → Int → Int → Option (Int)
 | 0, _, _, _, _, _ => none
 | k + 1, x1, x5, x6, x7, x8 => if x6 = 0 then ((impl_mod.f x7 x1).bind fun t364 => (some t364)) else (impl_inverse.l0 k x1 x6 (wrap64 (x5 - (wrap64 ((wrap64 (Int.tdiv x5 x6)) * x6)))) x8 (wrap64 (x7 - (wrap64 ((wrap64 (Int.tdiv x5 x6)) * x8)))))
def impl_inverse.f (k : Nat) (a0 : Int) (a1 : Int) : Option (Int) := (impl_mod.f a0 a1).bind fun t363 => (impl_inverse.l0 k a1 t363 a1 1 0)
theorem impl_inverse.calls (k : Nat) (a0 : Int) (a1 : Int) (r : Int) (w : World) (h : impl_inverse.f k a0 a1 = some r) :
  Calls Try.prog 191 #[.int .i64 a0, .int .i64 a1] w fun e w' => e = .returned (.int .i64 r) ∧ Drawn0 w w' := by
 have H : ((impl_mod.f a0 a1).bind fun t363 => (impl_inverse.l0 k a1 t363 a1 1 0)) = some r := h
 clear h
 replace H := ob_ H
 obtain ⟨t363, A30, H⟩ := H
 have A3 := Aside0.mk A30
 clear A30
 have H' := Aside0.mk H
 clear H
 go_enter Try.func191, Try.ntmps191
 go_wp2_with (first | ((refine gc_ 203 ?_); refine ge_ 12 Try.func203 #[.int .i64 a0, .int .i64 a1] ?_; (with_reducible refine (impl_mod.calls a0 a1 t363 _ A3.out).mono ?_); rintro e w' ⟨rfl, ⟨nd, rfl⟩⟩; refine ⟨_, rfl, ?_⟩))
 go_loopg [5, 6, 7, 8] k (fun kq v5 v6 v7 v8 w' => ∃ (x5_1 : Int) (x6_1 : Int) (x7_1 : Int) (x8_1 : Int), v5 = .int .i64 x5_1 ∧ v6 = .int .i64 x6_1 ∧ v7 = .int .i64 x7_1 ∧ v8 = .int .i64 x8_1 ∧ Aside0 (impl_inverse.l0 kq a1 x5_1 x6_1 x7_1 x8_1 = some r) ∧ Aside0 (kq ≤ k) ∧ Drawn0 w w')
 case atStart => exact ⟨(t363), (a1), (1), (0), en_, en_, en_, en_, H', ⟨Nat.le_refl _⟩, de_⟩
 case round =>
  clear H'
  try clear c1
  try clear c2
  try clear p2
  obtain ⟨x5_1, x6_1, x7_1, x8_1, rfl, rfl, rfl, rfl, HA, HK1, ⟨m1, rfl⟩⟩ := hrel
  cases gk with
  | zero => exact absurd HA.out (by simp [impl_inverse.l0])
  | succ k1 =>
   have H := HA.out
   clear HA
   simp only [impl_inverse.l0] at H
   by_cases c4 : x6_1 = 0
   ·rw [if_pos c4] at H
    have c4b0 : (x6_1 == 0) = true := beq_iff_eq.mpr c4
    have c4b1 : (x6_1 != 0) = false := bne_eq_false_iff_eq.mpr c4
    clear c4
    replace H := ob_ H
    obtain ⟨t364, A50, H⟩ := H
    have A5 := Aside0.mk A50
    clear A50
    obtain rfl := si_ H
    go_wp2_with (first | ((refine gc_ 203 ?_); refine ge_ 33 Try.func203 #[.int .i64 x7_1, .int .i64 a1] ?_; (with_reducible refine (impl_mod.calls x7_1 a1 t364 _ A5.out).mono ?_); rintro e w' ⟨rfl, ⟨nd, rfl⟩⟩; refine ⟨_, rfl, ?_⟩))
    go_ret
    exact ⟨en_, de_⟩
   ·rw [if_neg c4] at H
    have c4b0 : (x6_1 == 0) = false := beq_eq_false_iff_ne.mpr c4
    have c4b1 : (x6_1 != 0) = true := bne_iff_ne.mpr c4
    have H' := Aside0.mk H
    clear H
    go_wp2
    go_roundg k1
    case measure => have := HK1.out; omega
    case rel => exact ⟨(x6_1), (wrap64 (x5_1 - (wrap64 ((wrap64 (Int.tdiv x5_1 x6_1)) * x6_1)))), (x8_1), (wrap64 (x7_1 - (wrap64 ((wrap64 (Int.tdiv x5_1 x6_1)) * x8_1)))), en_, en_, en_, en_, H', ⟨by have := HK1.out; omega⟩, de_⟩
/-! ### impl_ballAt: function 165 -/
def impl_ballAt.j0 : Nat → Int → Int → Int → Int → Int → Bool → Option (Int × Int × Int × Bool)
 | 0, _, _, _, _, _, _ => none
 | k + 1, x0, x1, x2, x3, x10, x24 => if x24 = true then (some (x3, 0, 0, true)) else (if x10 < (-6) then (some (0, 0, 0, false)) else ((impl_power.f k x0 (wrap64 (x3 + 6))).bind fun t369 => ((impl_unit.f k x0 x1).bind fun t370 => ((impl_unit.f k x0 x2).bind fun t371 => ((impl_inverse.f k t371 t369).bind fun t372 => ((impl_times.f k t370 t372 t369).bind fun t373 => ((impl_power.f k x0 (wrap64 (x10 + 6))).bind fun t374 => ((impl_times.f k t373 t374 t369).bind fun t375 => ((impl_ofMark.f k x0 x3 t375).bind fun bt376 => (some (bt376.1, bt376.2.1, bt376.2.2.1, bt376.2.2.2)))))))))))
def impl_ballAt.f (k : Nat) (a0 : Int) (a1 : Int) (a2 : Int) (a3 : Int) : Option (Int × Int × Int × Bool) := (impl_isLevel.f a3).bind fun t366 => (if t366 = true then ((impl_valuation.f k a0 a1).bind fun t367 => ((impl_valuation.f k a0 a2).bind fun t368 => (if a1 = 0 then (impl_ballAt.j0 k a0 a1 a2 a3 (wrap64 (t367 - t368)) true) else (impl_ballAt.j0 k a0 a1 a2 a3 (wrap64 (t367 - t368)) (decide ((wrap64 (t367 - t368)) ≥ a3)))))) else (some (0, 0, 0, false)))
theorem impl_ballAt.calls (k : Nat) (a0 : Int) (a1 : Int) (a2 : Int) (a3 : Int) (r1 : Int) (r2 : Int) (r3 : Int) (r4 : Bool) (w : World) (h : impl_ballAt.f k a0 a1 a2 a3 = some (r1, r2, r3, r4)) :
  Calls Try.prog 165 #[.int .i64 a0, .int .i64 a1, .int .i64 a2, .int .i64 a3] w fun e w' => e = .returned (.tuple #[.agg #[.int .i64 r1, .int .i64 r2, .int .i64 r3], .bool r4]) ∧ Below w.heap.size w w' := by
 have hu25 := Try.underlying25
 have HB := Aside0.mk (Below.refl w.heap.size w)
 have H : ((impl_isLevel.f a3).bind fun t366 => (if t366 = true then ((impl_valuation.f k a0 a1).bind fun t367 => ((impl_valuation.f k a0 a2).bind fun t368 => (if a1 = 0 then (impl_ballAt.j0 k a0 a1 a2 a3 (wrap64 (t367 - t368)) true) else (impl_ballAt.j0 k a0 a1 a2 a3 (wrap64 (t367 - t368)) (decide ((wrap64 (t367 - t368)) ≥ a3)))))) else (some (0, 0, 0, false)))) = some (r1, r2, r3, r4) := h
 clear h
 replace H := ob_ H
 obtain ⟨t366, A50, H⟩ := H
 have A5 := Aside0.mk A50
 clear A50
 by_cases c6 : t366 = true
 ·subst c6
  have H1 : ((impl_valuation.f k a0 a1).bind fun t367 => ((impl_valuation.f k a0 a2).bind fun t368 => (if a1 = 0 then (impl_ballAt.j0 k a0 a1 a2 a3 (wrap64 (t367 - t368)) true) else (impl_ballAt.j0 k a0 a1 a2 a3 (wrap64 (t367 - t368)) (decide ((wrap64 (t367 - t368)) ≥ a3)))))) = some (r1, r2, r3, r4) := by rw [if_pos rfl] at H; exact H
  clear H
  have H := H1
  clear H1
  replace H := ob_ H
  obtain ⟨t367, A70, H⟩ := H
  have A7 := Aside0.mk A70
  clear A70
  replace H := ob_ H
  obtain ⟨t368, A80, H⟩ := H
  have A8 := Aside0.mk A80
  clear A80
  have HC9 := Aside0.mk H
  clear H
  go_enter Try.func165, Try.ntmps165
  go_upto_region 4 with (first | ((refine gd_ 8 ?_); refine bx_ 8 #[.int .i64 0, .int .i64 0, .int .i64 0] 25 ?_; intro gb365 hg w10 BK365 hb; have GW365 := bs_ HB hg; have GE365 := bs_ HB hg; replace HB := bt_ HB hb; clear hb hg) | ((refine gc_ 161 ?_); refine ge_ 14 Try.func161 #[.int .i64 a3] ?_; (with_reducible refine (impl_isLevel.calls a3 true _ A5.out).mono ?_); rintro e w' ⟨rfl, ⟨nd, rfl⟩⟩; refine ⟨_, rfl, ?_⟩) | ((refine gc_ 164 ?_); refine ge_ 19 Try.func164 #[.int .i64 a0, .int .i64 a1] ?_; (with_reducible refine (impl_valuation.calls k a0 a1 t367 _ A7.out).mono ?_); rintro e w' ⟨rfl, ⟨nd, rfl⟩⟩; refine ⟨_, rfl, ?_⟩) | ((refine gc_ 164 ?_); refine ge_ 22 Try.func164 #[.int .i64 a0, .int .i64 a2] ?_; (with_reducible refine (impl_valuation.calls k a0 a2 t368 _ A8.out).mono ?_); rintro e w' ⟨rfl, ⟨nd, rfl⟩⟩; refine ⟨_, rfl, ?_⟩))
  (try simp only [Act.put, lstS, lstZ, lstC])
  go_cut [24] (fun v24 wc => ∃ (kq : Nat) (x24_8 : Bool), v24 = .bool x24_8 ∧ Aside0 (impl_ballAt.j0 kq a0 a1 a2 a3 (wrap64 (t367 - t368)) x24_8 = some (r1, r2, r3, r4)) ∧ Aside0 (kq ≤ k) ∧ Aside0 (wc.heap[gb365]? = some (.cells #[.int .i64 0, .int .i64 0, .int .i64 0] 25 (0, 0))) ∧ Aside0 (Below w.heap.size w wc))
  case first =>
   have H := HC9.out
   clear HC9
   by_cases c11 : a1 = 0
   ·rw [if_pos c11] at H
    have c11b0 : (a1 == 0) = true := beq_iff_eq.mpr c11
    have c11b1 : (a1 != 0) = false := bne_eq_false_iff_eq.mpr c11
    clear c11
    (first | rw [c11b0] | (simp only [i64_w, i32_w]; rw [c11b0]) | skip)
    have H' := Aside0.mk H
    clear H
    go_wp2
    go_meet
    case rel => exact ⟨_, (true), en_, H', ⟨by first | omega | exact Nat.le_refl _⟩, bl_ BK365, bw_ HB⟩
   ·rw [if_neg c11] at H
    have c11b0 : (a1 == 0) = false := beq_eq_false_iff_ne.mpr c11
    have c11b1 : (a1 != 0) = true := bne_iff_ne.mpr c11
    (first | rw [c11b0] | (simp only [i64_w, i32_w]; rw [c11b0]) | skip)
    have H' := Aside0.mk H
    clear H
    go_wp2
    go_meet
    case rel => exact ⟨_, (decide ((wrap64 (t367 - t368)) ≥ a3)), en_, H', ⟨by first | omega | exact Nat.le_refl _⟩, bl_ BK365, bw_ HB⟩
  case rest =>
   clear HC9
   try clear c1
   try clear p2
   try clear c6
   try clear p6
   try clear c11
   try clear c11b0
   try clear c11b1
   obtain ⟨kq, x24_8, rfl, HA, HJ8, BK365, HB⟩ := hcut
   cases kq with
   | zero => exact absurd HA.out (by simp [impl_ballAt.j0])
   | succ kj8 =>
    have H := HA.out
    clear HA
    simp only [impl_ballAt.j0] at H
    by_cases c12 : x24_8 = true
    ·subst c12
     have H1 : (some (a3, 0, 0, true)) = some (r1, r2, r3, r4) := by rw [if_pos rfl] at H; exact H
     clear H
     have H := H1
     clear H1
     simp only [Option.some.injEq, Prod.mk.injEq] at H
     obtain ⟨rfl, rfl, rfl, rfl⟩ := H
     obtain ⟨hcz13_0, hcz13_1, hcz13_2, hfz13_0, hfz13_1, hfz13_2⟩ := ch3_ BK365
     go_wp2
     refine bodyPost_ret (results_ct rfl _ _ gb365 25 #[.int .i64 a3, .int .i64 0, .int .i64 0] (0, 0) _ rfl (bp_ BK365).out Try.underlying25 rfl (by kernel_rfl)) rfl ?_
     exact ⟨es_, (bw_ HB).out⟩
    ·replace c12 := Bool.eq_false_iff.mpr c12
     subst c12
     have H1 : (if (wrap64 (t367 - t368)) < (-6) then (some (0, 0, 0, false)) else ((impl_power.f kj8 a0 (wrap64 (a3 + 6))).bind fun t369 => ((impl_unit.f kj8 a0 a1).bind fun t370 => ((impl_unit.f kj8 a0 a2).bind fun t371 => ((impl_inverse.f kj8 t371 t369).bind fun t372 => ((impl_times.f kj8 t370 t372 t369).bind fun t373 => ((impl_power.f kj8 a0 (wrap64 ((wrap64 (t367 - t368)) + 6))).bind fun t374 => ((impl_times.f kj8 t373 t374 t369).bind fun t375 => ((impl_ofMark.f kj8 a0 a3 t375).bind fun bt376 => (some (bt376.1, bt376.2.1, bt376.2.2.1, bt376.2.2.2))))))))))) = some (r1, r2, r3, r4) := by rw [if_neg (show ¬ (false = true) by decide)] at H; exact H
     clear H
     have H := H1
     clear H1
     by_cases c14 : (wrap64 (t367 - t368)) < (-6)
     ·rw [if_pos c14] at H
      have c14b0 : decide ((wrap64 (t367 - t368)) < (-6)) = true := decide_eq_true c14
      clear c14
      simp only [Option.some.injEq, Prod.mk.injEq] at H
      obtain ⟨rfl, rfl, rfl, rfl⟩ := H
      obtain ⟨hcz15_0, hcz15_1, hcz15_2, hfz15_0, hfz15_1, hfz15_2⟩ := ch3_ BK365
      go_wp2
      refine bodyPost_ret (results_ct rfl _ _ gb365 25 #[.int .i64 0, .int .i64 0, .int .i64 0] (0, 0) _ rfl (bp_ BK365).out Try.underlying25 rfl (by kernel_rfl)) rfl ?_
      exact ⟨es_, (bw_ HB).out⟩
     ·rw [if_neg c14] at H
      have c14b0 : decide ((wrap64 (t367 - t368)) < (-6)) = false := decide_eq_false c14
      clear c14
      replace H := ob_ H
      obtain ⟨t369, A160, H⟩ := H
      have A16 := Aside0.mk A160
      clear A160
      replace H := ob_ H
      obtain ⟨t370, A170, H⟩ := H
      have A17 := Aside0.mk A170
      clear A170
      replace H := ob_ H
      obtain ⟨t371, A180, H⟩ := H
      have A18 := Aside0.mk A180
      clear A180
      replace H := ob_ H
      obtain ⟨t372, A190, H⟩ := H
      have A19 := Aside0.mk A190
      clear A190
      replace H := ob_ H
      obtain ⟨t373, A200, H⟩ := H
      have A20 := Aside0.mk A200
      clear A200
      replace H := ob_ H
      obtain ⟨t374, A210, H⟩ := H
      have A21 := Aside0.mk A210
      clear A210
      replace H := ob_ H
      obtain ⟨t375, A220, H⟩ := H
      have A22 := Aside0.mk A220
      clear A220
      replace H := ob_ H
      obtain ⟨⟨t376, t377, t378, t379⟩, A230, H⟩ := H
      have A23 := Aside0.mk A230
      clear A230
      simp only [Option.some.injEq, Prod.mk.injEq] at H
      obtain ⟨rfl, rfl, rfl, rfl⟩ := H
      go_wp2_with (first | ((refine gc_ 162 ?_); refine ge_ 41 Try.func162 #[.int .i64 a0, .int .i64 (wrap64 (a3 + 6))] ?_; (with_reducible refine (impl_power.calls kj8 a0 (wrap64 (a3 + 6)) t369 _ A16.out).mono ?_); rintro e w' ⟨rfl, ⟨nd, rfl⟩⟩; refine ⟨_, rfl, ?_⟩; (try (rw [drewN_self wc]; generalize hq_ : World.drewN wc _ = wc; have n0_ := bq_ BK365 hq_; have n1_ := hq_' HB hq_; clear BK365 HB hq_; have BK365 := n0_; have HB := n1_; clear n0_ n1_))) | ((refine gc_ 190 ?_); refine ge_ 44 Try.func190 #[.int .i64 a0, .int .i64 a1] ?_; (with_reducible refine (impl_unit.calls kj8 a0 a1 t370 _ A17.out).mono ?_); rintro e w' ⟨rfl, ⟨nd, rfl⟩⟩; refine ⟨_, rfl, ?_⟩; (try (rw [drewN_self wc]; generalize hq_ : World.drewN wc _ = wc; have n0_ := bq_ BK365 hq_; have n1_ := hq_' HB hq_; clear BK365 HB hq_; have BK365 := n0_; have HB := n1_; clear n0_ n1_))) | ((refine gc_ 190 ?_); refine ge_ 47 Try.func190 #[.int .i64 a0, .int .i64 a2] ?_; (with_reducible refine (impl_unit.calls kj8 a0 a2 t371 _ A18.out).mono ?_); rintro e w' ⟨rfl, ⟨nd, rfl⟩⟩; refine ⟨_, rfl, ?_⟩; (try (rw [drewN_self wc]; generalize hq_ : World.drewN wc _ = wc; have n0_ := bq_ BK365 hq_; have n1_ := hq_' HB hq_; clear BK365 HB hq_; have BK365 := n0_; have HB := n1_; clear n0_ n1_))) | ((refine gc_ 191 ?_); refine ge_ 49 Try.func191 #[.int .i64 t371, .int .i64 t369] ?_; (with_reducible refine (impl_inverse.calls kj8 t371 t369 t372 _ A19.out).mono ?_); rintro e w' ⟨rfl, ⟨nd, rfl⟩⟩; refine ⟨_, rfl, ?_⟩; (try (rw [drewN_self wc]; generalize hq_ : World.drewN wc _ = wc; have n0_ := bq_ BK365 hq_; have n1_ := hq_' HB hq_; clear BK365 HB hq_; have BK365 := n0_; have HB := n1_; clear n0_ n1_))) | ((refine gc_ 189 ?_); refine ge_ 51 Try.func189 #[.int .i64 t370, .int .i64 t372, .int .i64 t369] ?_; (with_reducible refine (impl_times.calls kj8 t370 t372 t369 t373 _ A20.out).mono ?_); rintro e w' ⟨rfl, ⟨nd, rfl⟩⟩; refine ⟨_, rfl, ?_⟩; (try (rw [drewN_self wc]; generalize hq_ : World.drewN wc _ = wc; have n0_ := bq_ BK365 hq_; have n1_ := hq_' HB hq_; clear BK365 HB hq_; have BK365 := n0_; have HB := n1_; clear n0_ n1_))) | ((refine gc_ 162 ?_); refine ge_ 58 Try.func162 #[.int .i64 a0, .int .i64 (wrap64 ((wrap64 (t367 - t368)) + 6))] ?_; (with_reducible refine (impl_power.calls kj8 a0 (wrap64 ((wrap64 (t367 - t368)) + 6)) t374 _ A21.out).mono ?_); rintro e w' ⟨rfl, ⟨nd, rfl⟩⟩; refine ⟨_, rfl, ?_⟩; (try (rw [drewN_self wc]; generalize hq_ : World.drewN wc _ = wc; have n0_ := bq_ BK365 hq_; have n1_ := hq_' HB hq_; clear BK365 HB hq_; have BK365 := n0_; have HB := n1_; clear n0_ n1_))) | ((refine gc_ 189 ?_); refine ge_ 60 Try.func189 #[.int .i64 t373, .int .i64 t374, .int .i64 t369] ?_; (with_reducible refine (impl_times.calls kj8 t373 t374 t369 t375 _ A22.out).mono ?_); rintro e w' ⟨rfl, ⟨nd, rfl⟩⟩; refine ⟨_, rfl, ?_⟩; (try (rw [drewN_self wc]; generalize hq_ : World.drewN wc _ = wc; have n0_ := bq_ BK365 hq_; have n1_ := hq_' HB hq_; clear BK365 HB hq_; have BK365 := n0_; have HB := n1_; clear n0_ n1_))) | ((refine gc_ 192 ?_); refine ge_ 61 Try.func192 #[.int .i64 a0, .int .i64 a3, .int .i64 t375] ?_; (with_reducible refine (impl_ofMark.calls kj8 a0 a3 t375 t376 t377 t378 t379 _ A23.out).mono ?_); rintro e w24 ⟨rfl, hb⟩; refine ⟨_, rfl, ?_⟩; replace BK365 := bb_ BK365 hb; replace HB := bt_ HB hb; (try clear hb); obtain ⟨hcz25_0, hcz25_1, hcz25_2, hfz25_0, hfz25_1, hfz25_2⟩ := ch3_ BK365))
      refine bodyPost_ret (results_ct rfl _ _ gb365 25 #[.int .i64 t376, .int .i64 t377, .int .i64 t378] (0, 0) _ rfl (bp_ BK365).out Try.underlying25 rfl (by kernel_rfl)) rfl ?_
      exact ⟨es_, (bw_ HB).out⟩
 ·replace c6 := Bool.eq_false_iff.mpr c6
  subst c6
  have H1 : (some (0, 0, 0, false)) = some (r1, r2, r3, r4) := by rw [if_neg (show ¬ (false = true) by decide)] at H; exact H
  clear H
  have H := H1
  clear H1
  simp only [Option.some.injEq, Prod.mk.injEq] at H
  obtain ⟨rfl, rfl, rfl, rfl⟩ := H
  go_enter Try.func165, Try.ntmps165
  go_wp2_with (first | ((refine gd_ 8 ?_); refine bx_ 8 #[.int .i64 0, .int .i64 0, .int .i64 0] 25 ?_; intro gb365 hg w26 BK365 hb; have GW365 := bs_ HB hg; have GE365 := bs_ HB hg; replace HB := bt_ HB hb; clear hb hg) | ((refine gc_ 161 ?_); refine ge_ 14 Try.func161 #[.int .i64 a3] ?_; (with_reducible refine (impl_isLevel.calls a3 false _ A5.out).mono ?_); rintro e w' ⟨rfl, ⟨nd, rfl⟩⟩; refine ⟨_, rfl, ?_⟩; (try (rw [drewN_self w26]; generalize hq_ : World.drewN w26 _ = w26; have n0_ := bq_ BK365 hq_; have n1_ := hq_' HB hq_; clear BK365 HB hq_; have BK365 := n0_; have HB := n1_; clear n0_ n1_)); obtain ⟨hcz27_0, hcz27_1, hcz27_2, hfz27_0, hfz27_1, hfz27_2⟩ := ch3_ BK365))
  refine bodyPost_ret (results_ct rfl _ _ gb365 25 #[.int .i64 0, .int .i64 0, .int .i64 0] (0, 0) _ rfl (bp_ BK365).out Try.underlying25 rfl (by kernel_rfl)) rfl ?_
  exact ⟨es_, (bw_ HB).out⟩
end Go.Proofs.Ytgoeelhiffbjlaa.QT
