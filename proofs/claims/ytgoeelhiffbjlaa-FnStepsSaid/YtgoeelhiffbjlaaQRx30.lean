import Derived.Test.YtgoeelhiffbjlaaQRx8
import Derived.Test.YtgoeelhiffbjlaaQRx22
namespace Go.Proofs.Ytgoeelhiffbjlaa.QR
set_option maxHeartbeats 8000000
set_option maxRecDepth 100000
open Go.RowKit Go.Proofs.YtgoeelhiffbjlaaW.PrintWords Go.Proofs.YtgoeelhiffbjlaaW.PrintLast Go.Proofs.YtgoeelhiffbjlaaW.PrintMore
attribute [local go_sem] isSome_setCell max2_int min2_int max_two min_two max_three min_three max_four min_four
set_option linter.unusedVariables false
set_option linter.unusedSimpArgs false

/-! ### impl_stepsCode: function 76 -/
def impl_stepsCode.f (k : Nat) (a0 : Int) (a1_0 : Int) (a1_1 : Int) (a1_2 : Int) (a2 : ByteArray) : Option (Int) := (impl_IsBall.f k a0 a1_0 a1_1 a1_2).bind fun t269 => (if t269 = true then ((impl_isSteps.f k a0 a2).bind fun t270 => (if t270 = true then (some 0) else (some 6))) else (some 1))
theorem impl_stepsCode.calls (k : Nat) (a0 : Int) (a1_0 : Int) (a1_1 : Int) (a1_2 : Int) (a2 : ByteArray) (r : Int) (w : World) (h : impl_stepsCode.f k a0 a1_0 a1_1 a1_2 a2 = some r) :
  Calls Try.prog 76 #[.int .i64 a0, .agg #[.int .i64 a1_0, .int .i64 a1_1, .int .i64 a1_2], .string a2] w fun e w' => e = .returned (.int .i64 r) ∧ Below w.heap.size w w' := by
 have hu25 := Try.underlying25
 have HB := Aside0.mk (Below.refl w.heap.size w)
 have H : ((impl_IsBall.f k a0 a1_0 a1_1 a1_2).bind fun t269 => (if t269 = true then ((impl_isSteps.f k a0 a2).bind fun t270 => (if t270 = true then (some 0) else (some 6))) else (some 1))) = some r := h
 clear h
 replace H := ob_ H
 obtain ⟨t269, A40, H⟩ := H
 have A4 := Aside0.mk A40
 clear A40
 by_cases c5 : t269 = true
 ·subst c5
  have H1 : ((impl_isSteps.f k a0 a2).bind fun t270 => (if t270 = true then (some 0) else (some 6))) = some r := by rw [if_pos rfl] at H; exact H
  clear H
  have H := H1
  clear H1
  replace H := ob_ H
  obtain ⟨t270, A60, H⟩ := H
  have A6 := Aside0.mk A60
  clear A60
  by_cases c7 : t270 = true
  ·subst c7
   have H1 : (some 0) = some r := by rw [if_pos rfl] at H; exact H
   clear H
   have H := H1
   clear H1
   obtain rfl := si_ H
   go_enter Try.func76, Try.ntmps76
   go_wp2_with (first | ((refine gd_ 4 ?_); refine bx_ 4 #[.int .i64 a1_0, .int .i64 a1_1, .int .i64 a1_2] 25 ?_; intro gb268 hg w8 BK268 hb; have GW268 := bs_ HB hg; have GE268 := bs_ HB hg; replace HB := bt_ HB hb; clear hb hg; obtain ⟨hcz9_0, hcz9_1, hcz9_2, hfz9_0, hfz9_1, hfz9_2⟩ := ch3_ BK268) | ((refine gc_ 94 ?_); refine ge_ 10 Try.func94 #[.int .i64 a0, .agg #[.int .i64 a1_0, .int .i64 a1_1, .int .i64 a1_2]] ?_; (with_reducible refine (impl_IsBall.calls k a0 a1_0 a1_1 a1_2 true _ A4.out).mono ?_); rintro e w10 ⟨rfl, hb⟩; refine ⟨_, rfl, ?_⟩; replace BK268 := bb_ BK268 hb; replace HB := bt_ HB hb; (try clear hb)) | ((refine gc_ 149 ?_); refine ge_ 15 Try.func149 #[.int .i64 a0, .string a2] ?_; (with_reducible refine (impl_isSteps.calls k a0 a2 true _ A6.out).mono ?_); rintro e w' ⟨rfl, ⟨nd, rfl⟩⟩; refine ⟨_, rfl, ?_⟩))
   go_ret
   exact ⟨es_, (bw_ HB).out⟩
  ·replace c7 := Bool.eq_false_iff.mpr c7
   subst c7
   have H1 : (some 6) = some r := by rw [if_neg (show ¬ (false = true) by decide)] at H; exact H
   clear H
   have H := H1
   clear H1
   obtain rfl := si_ H
   go_enter Try.func76, Try.ntmps76
   go_wp2_with (first | ((refine gd_ 4 ?_); refine bx_ 4 #[.int .i64 a1_0, .int .i64 a1_1, .int .i64 a1_2] 25 ?_; intro gb268 hg w11 BK268 hb; have GW268 := bs_ HB hg; have GE268 := bs_ HB hg; replace HB := bt_ HB hb; clear hb hg; obtain ⟨hcz12_0, hcz12_1, hcz12_2, hfz12_0, hfz12_1, hfz12_2⟩ := ch3_ BK268) | ((refine gc_ 94 ?_); refine ge_ 10 Try.func94 #[.int .i64 a0, .agg #[.int .i64 a1_0, .int .i64 a1_1, .int .i64 a1_2]] ?_; (with_reducible refine (impl_IsBall.calls k a0 a1_0 a1_1 a1_2 true _ A4.out).mono ?_); rintro e w13 ⟨rfl, hb⟩; refine ⟨_, rfl, ?_⟩; replace BK268 := bb_ BK268 hb; replace HB := bt_ HB hb; (try clear hb)) | ((refine gc_ 149 ?_); refine ge_ 15 Try.func149 #[.int .i64 a0, .string a2] ?_; (with_reducible refine (impl_isSteps.calls k a0 a2 false _ A6.out).mono ?_); rintro e w' ⟨rfl, ⟨nd, rfl⟩⟩; refine ⟨_, rfl, ?_⟩))
   go_ret
   exact ⟨es_, (bw_ HB).out⟩
 ·replace c5 := Bool.eq_false_iff.mpr c5
  subst c5
  have H1 : (some 1) = some r := by rw [if_neg (show ¬ (false = true) by decide)] at H; exact H
  clear H
  have H := H1
  clear H1
  obtain rfl := si_ H
  go_enter Try.func76, Try.ntmps76
  go_wp2_with (first | ((refine gd_ 4 ?_); refine bx_ 4 #[.int .i64 a1_0, .int .i64 a1_1, .int .i64 a1_2] 25 ?_; intro gb268 hg w14 BK268 hb; have GW268 := bs_ HB hg; have GE268 := bs_ HB hg; replace HB := bt_ HB hb; clear hb hg; obtain ⟨hcz15_0, hcz15_1, hcz15_2, hfz15_0, hfz15_1, hfz15_2⟩ := ch3_ BK268) | ((refine gc_ 94 ?_); refine ge_ 10 Try.func94 #[.int .i64 a0, .agg #[.int .i64 a1_0, .int .i64 a1_1, .int .i64 a1_2]] ?_; (with_reducible refine (impl_IsBall.calls k a0 a1_0 a1_1 a1_2 false _ A4.out).mono ?_); rintro e w16 ⟨rfl, hb⟩; refine ⟨_, rfl, ?_⟩; replace BK268 := bb_ BK268 hb; replace HB := bt_ HB hb; (try clear hb)))
  go_ret
  exact ⟨es_, (bw_ HB).out⟩
/-! ### impl_mark: function 163 -/
def impl_mark.f (k : Nat) (a0 : Int) (a1_0 : Int) (a1_1 : Int) (a1_2 : Int) : Option (Int) := (impl_power.f k a0 (wrap64 (6 - a1_2))).bind fun t272 => (some (wrap64 (a1_1 * t272)))
theorem impl_mark.calls (k : Nat) (a0 : Int) (a1_0 : Int) (a1_1 : Int) (a1_2 : Int) (r : Int) (w : World) (h : impl_mark.f k a0 a1_0 a1_1 a1_2 = some r) :
  Calls Try.prog 163 #[.int .i64 a0, .agg #[.int .i64 a1_0, .int .i64 a1_1, .int .i64 a1_2]] w fun e w' => e = .returned (.int .i64 r) ∧ Below w.heap.size w w' := by
 have hu25 := Try.underlying25
 have HB := Aside0.mk (Below.refl w.heap.size w)
 have H : ((impl_power.f k a0 (wrap64 (6 - a1_2))).bind fun t272 => (some (wrap64 (a1_1 * t272)))) = some r := h
 clear h
 replace H := ob_ H
 obtain ⟨t272, A30, H⟩ := H
 have A3 := Aside0.mk A30
 clear A30
 obtain rfl := si_ H
 go_enter Try.func163, Try.ntmps163
 go_wp2_with (first | ((refine gd_ 3 ?_); refine bx_ 3 #[.int .i64 a1_0, .int .i64 a1_1, .int .i64 a1_2] 25 ?_; intro gb271 hg w4 BK271 hb; have GW271 := bs_ HB hg; have GE271 := bs_ HB hg; replace HB := bt_ HB hb; clear hb hg; obtain ⟨hcz5_0, hcz5_1, hcz5_2, hfz5_0, hfz5_1, hfz5_2⟩ := ch3_ BK271) | (go_at_call 162; (with_reducible refine (impl_power.calls k a0 (wrap64 (6 - a1_2)) t272 _ A3.out).mono ?_); rintro e w' ⟨rfl, ⟨nd, rfl⟩⟩; (try exact dd_)))
 repeat (go_quiet (first | ((refine gd_ 3 ?_); refine bx_ 3 #[.int .i64 a1_0, .int .i64 a1_1, .int .i64 a1_2] 25 ?_; intro gb271 hg w4 BK271 hb; have GW271 := bs_ HB hg; have GE271 := bs_ HB hg; replace HB := bt_ HB hb; clear hb hg; obtain ⟨hcz5_0, hcz5_1, hcz5_2, hfz5_0, hfz5_1, hfz5_2⟩ := ch3_ BK271) | (go_at_call 162; (with_reducible refine (impl_power.calls k a0 (wrap64 (6 - a1_2)) t272 _ A3.out).mono ?_); rintro e w' ⟨rfl, ⟨nd, rfl⟩⟩; (try exact dd_))); try go_wp2_with (first | ((refine gd_ 3 ?_); refine bx_ 3 #[.int .i64 a1_0, .int .i64 a1_1, .int .i64 a1_2] 25 ?_; intro gb271 hg w4 BK271 hb; have GW271 := bs_ HB hg; have GE271 := bs_ HB hg; replace HB := bt_ HB hb; clear hb hg; obtain ⟨hcz5_0, hcz5_1, hcz5_2, hfz5_0, hfz5_1, hfz5_2⟩ := ch3_ BK271) | (go_at_call 162; (with_reducible refine (impl_power.calls k a0 (wrap64 (6 - a1_2)) t272 _ A3.out).mono ?_); rintro e w' ⟨rfl, ⟨nd, rfl⟩⟩; (try exact dd_))))
 go_ret
 exact ⟨es_, (bw_ HB).out⟩
/-! ### impl_valuation: function 164 -/
def impl_valuation.l0 : Nat → Int → Int → Int → Option (Int)
 | 0, _, _, _ => none
 | k + 1, x0, x1, x5 => if x0 = 0 then (none) else (if (Int.tmod x1 x0) = 0 then (impl_valuation.l0 k x0 (wrap64 (Int.tdiv x1 x0)) (wrap64 (x5 + 1))) else (some x5))
def impl_valuation.f (k : Nat) (a0 : Int) (a1 : Int) : Option (Int) := if a1 = 0 then (some 1000) else (impl_valuation.l0 k a0 a1 0)
theorem impl_valuation.calls (k : Nat) (a0 : Int) (a1 : Int) (r : Int) (w : World) (h : impl_valuation.f k a0 a1 = some r) :
  Calls Try.prog 164 #[.int .i64 a0, .int .i64 a1] w fun e w' => e = .returned (.int .i64 r) ∧ Drawn0 w w' := by
 have H : (if a1 = 0 then (some 1000) else (impl_valuation.l0 k a0 a1 0)) = some r := h
 clear h
 by_cases c3 : a1 = 0
 ·rw [if_pos c3] at H
  have c3b0 : (a1 == 0) = true := beq_iff_eq.mpr c3
  have c3b1 : (a1 != 0) = false := bne_eq_false_iff_eq.mpr c3
  clear c3
  obtain rfl := si_ H
  go_enter Try.func164, Try.ntmps164
  go_wp2
  go_ret
  exact ⟨en_, de_⟩
 ·rw [if_neg c3] at H
  have c3b0 : (a1 == 0) = false := beq_eq_false_iff_ne.mpr c3
  have c3b1 : (a1 != 0) = true := bne_iff_ne.mpr c3
  have H' := Aside0.mk H
  clear H
  go_enter Try.func164, Try.ntmps164
  go_wp2
  go_loopg [1, 5] k (fun kq v1 v5 w' => ∃ (x1_1 : Int) (x5_1 : Int), v1 = .int .i64 x1_1 ∧ v5 = .int .i64 x5_1 ∧ Aside0 (impl_valuation.l0 kq a0 x1_1 x5_1 = some r) ∧ Aside0 (kq ≤ k) ∧ Drawn0 w w')
  case atStart => exact ⟨(a1), (0), en_, en_, H', ⟨Nat.le_refl _⟩, de_⟩
  case round =>
   clear H'
   try clear c1
   try clear p2
   try clear c3
   try clear c3b0
   try clear c3b1
   obtain ⟨x1_1, x5_1, rfl, rfl, HA, HK1, ⟨m1, rfl⟩⟩ := hrel
   cases gk with
   | zero => exact absurd HA.out (by simp [impl_valuation.l0])
   | succ k1 =>
    have H := HA.out
    clear HA
    simp only [impl_valuation.l0] at H
    by_cases c4 : a0 = 0
    ·rw [if_pos c4] at H
     exact absurd H (by simp)
    ·rw [if_neg c4] at H
     have c4b0 : (a0 == 0) = false := beq_eq_false_iff_ne.mpr c4
     have c4b1 : (a0 != 0) = true := bne_iff_ne.mpr c4
     by_cases c5 : (Int.tmod x1_1 a0) = 0
     ·rw [if_pos c5] at H
      have c5b0 : ((Int.tmod x1_1 a0) == 0) = true := beq_iff_eq.mpr c5
      have c5b1 : ((Int.tmod x1_1 a0) != 0) = false := bne_eq_false_iff_eq.mpr c5
      clear c5
      have H' := Aside0.mk H
      clear H
      go_wp2
      go_roundg k1
      case measure => have := HK1.out; omega
      case rel => exact ⟨(wrap64 (Int.tdiv x1_1 a0)), (wrap64 (x5_1 + 1)), en_, en_, H', ⟨by have := HK1.out; omega⟩, de_⟩
     ·rw [if_neg c5] at H
      have c5b0 : ((Int.tmod x1_1 a0) == 0) = false := beq_eq_false_iff_ne.mpr c5
      have c5b1 : ((Int.tmod x1_1 a0) != 0) = true := bne_iff_ne.mpr c5
      obtain rfl := si_ H
      go_wp2
      go_ret
      exact ⟨en_, de_⟩
/-! ### impl_mod: function 203 -/
def impl_mod.f (a0 : Int) (a1 : Int) : Option (Int) := if a1 = 0 then (none) else (some (Int.tmod (wrap64 ((Int.tmod a0 a1) + a1)) a1))
theorem impl_mod.calls (a0 : Int) (a1 : Int) (r : Int) (w : World) (h : impl_mod.f a0 a1 = some r) :
  Calls Try.prog 203 #[.int .i64 a0, .int .i64 a1] w fun e w' => e = .returned (.int .i64 r) ∧ Drawn0 w w' := by
 have H : (if a1 = 0 then (none) else (some (Int.tmod (wrap64 ((Int.tmod a0 a1) + a1)) a1))) = some r := h
 clear h
 by_cases c3 : a1 = 0
 ·rw [if_pos c3] at H
  exact absurd H (by simp)
 ·rw [if_neg c3] at H
  have c3b0 : (a1 == 0) = false := beq_eq_false_iff_ne.mpr c3
  have c3b1 : (a1 != 0) = true := bne_iff_ne.mpr c3
  obtain rfl := si_ H
  go_enter Try.func203, Try.ntmps203
  go_wp2
  go_ret
  exact ⟨en_, de_⟩
/-! ### impl_ofMark: function 192 -/
def impl_ofMark.f (k : Nat) (a0 : Int) (a1 : Int) (a2 : Int) : Option (Int × Int × Int × Bool) := (impl_isLevel.f a1).bind fun t274 => (if t274 = true then ((impl_power.f k a0 (wrap64 (a1 + 6))).bind fun t275 => ((impl_mod.f a2 t275).bind fun t276 => ((impl_valuation.f k a0 t276).bind fun t277 => ((impl_power.f k a0 (wrap64 (6 - (mx (wrap64 (6 - t277)) 0)))).bind fun t278 => (if t278 = 0 then (none) else (some (a1, wrap64 (Int.tdiv t276 t278), mx (wrap64 (6 - t277)) 0, true))))))) else (some (0, 0, 0, false)))
theorem impl_ofMark.calls (k : Nat) (a0 : Int) (a1 : Int) (a2 : Int) (r1 : Int) (r2 : Int) (r3 : Int) (r4 : Bool) (w : World) (h : impl_ofMark.f k a0 a1 a2 = some (r1, r2, r3, r4)) :
  Calls Try.prog 192 #[.int .i64 a0, .int .i64 a1, .int .i64 a2] w fun e w' => e = .returned (.tuple #[.agg #[.int .i64 r1, .int .i64 r2, .int .i64 r3], .bool r4]) ∧ Below w.heap.size w w' := by
 have hu25 := Try.underlying25
 have HB := Aside0.mk (Below.refl w.heap.size w)
 have H : ((impl_isLevel.f a1).bind fun t274 => (if t274 = true then ((impl_power.f k a0 (wrap64 (a1 + 6))).bind fun t275 => ((impl_mod.f a2 t275).bind fun t276 => ((impl_valuation.f k a0 t276).bind fun t277 => ((impl_power.f k a0 (wrap64 (6 - (mx (wrap64 (6 - t277)) 0)))).bind fun t278 => (if t278 = 0 then (none) else (some (a1, wrap64 (Int.tdiv t276 t278), mx (wrap64 (6 - t277)) 0, true))))))) else (some (0, 0, 0, false)))) = some (r1, r2, r3, r4) := h
 clear h
 replace H := ob_ H
 obtain ⟨t274, A40, H⟩ := H
 have A4 := Aside0.mk A40
 clear A40
 by_cases c5 : t274 = true
 ·subst c5
  have H1 : ((impl_power.f k a0 (wrap64 (a1 + 6))).bind fun t275 => ((impl_mod.f a2 t275).bind fun t276 => ((impl_valuation.f k a0 t276).bind fun t277 => ((impl_power.f k a0 (wrap64 (6 - (mx (wrap64 (6 - t277)) 0)))).bind fun t278 => (if t278 = 0 then (none) else (some (a1, wrap64 (Int.tdiv t276 t278), mx (wrap64 (6 - t277)) 0, true))))))) = some (r1, r2, r3, r4) := by rw [if_pos rfl] at H; exact H
  clear H
  have H := H1
  clear H1
  replace H := ob_ H
  obtain ⟨t275, A60, H⟩ := H
  have A6 := Aside0.mk A60
  clear A60
  replace H := ob_ H
  obtain ⟨t276, A70, H⟩ := H
  have A7 := Aside0.mk A70
  clear A70
  replace H := ob_ H
  obtain ⟨t277, A80, H⟩ := H
  have A8 := Aside0.mk A80
  clear A80
  obtain ⟨ji9, hji9⟩ : ∃ j_ : Int, (mx (wrap64 (6 - t277)) 0) = j_ := ⟨_, rfl⟩
  replace H : ((impl_power.f k a0 (wrap64 (6 - (ji9)))).bind fun t278 => (if t278 = 0 then (none) else (some (a1, wrap64 (Int.tdiv t276 t278), ji9, true)))) = some (r1, r2, r3, r4) := by first | (rw [hji9] at H; exact H) | (simp only [hji9] at H ⊢; exact H)
  (try rw [hji9] at A4)
  (try rw [hji9] at A6)
  (try rw [hji9] at A7)
  (try rw [hji9] at A8)
  (try (have hji9l : 0 ≤ ji9 := by (rw [← hji9]; unfold mx; (repeat' split) <;> omega)))
  (try (have hji9m : 0 ≤ ji9 := by omega))
  have hji9_ : (if (wrap64 (6 - t277)) < 0 then 0 else (wrap64 (6 - t277))) = ji9 := hji9
  replace H := ob_ H
  obtain ⟨t278, A100, H⟩ := H
  have A10 := Aside0.mk A100
  clear A100
  by_cases c11 : t278 = 0
  ·rw [if_pos c11] at H
   exact absurd H (by simp)
  ·rw [if_neg c11] at H
   have c11b0 : (t278 == 0) = false := beq_eq_false_iff_ne.mpr c11
   have c11b1 : (t278 != 0) = true := bne_iff_ne.mpr c11
   simp only [Option.some.injEq, Prod.mk.injEq] at H
   obtain ⟨rfl, rfl, rfl, rfl⟩ := H
   go_enter Try.func192, Try.ntmps192
   go_wp2_with (first | ((refine gd_ 6 ?_); refine bx_ 6 #[.int .i64 0, .int .i64 0, .int .i64 0] 25 ?_; intro gb273 hg w12 BK273 hb; have GW273 := bs_ HB hg; have GE273 := bs_ HB hg; replace HB := bt_ HB hb; clear hb hg) | ((refine gc_ 161 ?_); refine ge_ 10 Try.func161 #[.int .i64 a1] ?_; (with_reducible refine (impl_isLevel.calls a1 true _ A4.out).mono ?_); rintro e w' ⟨rfl, ⟨nd, rfl⟩⟩; refine ⟨_, rfl, ?_⟩; (try (rw [drewN_self w12]; generalize hq_ : World.drewN w12 _ = w12; have n0_ := bq_ BK273 hq_; have n1_ := hq_' HB hq_; clear BK273 HB hq_; have BK273 := n0_; have HB := n1_; clear n0_ n1_))) | ((refine gc_ 162 ?_); refine ge_ 17 Try.func162 #[.int .i64 a0, .int .i64 (wrap64 (a1 + 6))] ?_; (with_reducible refine (impl_power.calls k a0 (wrap64 (a1 + 6)) t275 _ A6.out).mono ?_); rintro e w' ⟨rfl, ⟨nd, rfl⟩⟩; refine ⟨_, rfl, ?_⟩; (try (rw [drewN_self w12]; generalize hq_ : World.drewN w12 _ = w12; have n0_ := bq_ BK273 hq_; have n1_ := hq_' HB hq_; clear BK273 HB hq_; have BK273 := n0_; have HB := n1_; clear n0_ n1_))) | ((refine gc_ 203 ?_); refine ge_ 18 Try.func203 #[.int .i64 a2, .int .i64 t275] ?_; (with_reducible refine (impl_mod.calls a2 t275 t276 _ A7.out).mono ?_); rintro e w' ⟨rfl, ⟨nd, rfl⟩⟩; refine ⟨_, rfl, ?_⟩; (try (rw [drewN_self w12]; generalize hq_ : World.drewN w12 _ = w12; have n0_ := bq_ BK273 hq_; have n1_ := hq_' HB hq_; clear BK273 HB hq_; have BK273 := n0_; have HB := n1_; clear n0_ n1_))) | ((refine gc_ 164 ?_); refine ge_ 21 Try.func164 #[.int .i64 a0, .int .i64 t276] ?_; (with_reducible refine (impl_valuation.calls k a0 t276 t277 _ A8.out).mono ?_); rintro e w' ⟨rfl, ⟨nd, rfl⟩⟩; refine ⟨_, rfl, ?_⟩; (try (rw [drewN_self w12]; generalize hq_ : World.drewN w12 _ = w12; have n0_ := bq_ BK273 hq_; have n1_ := hq_' HB hq_; clear BK273 HB hq_; have BK273 := n0_; have HB := n1_; clear n0_ n1_))) | ((refine gc_ 162 ?_); refine ge_ 29 Try.func162 #[.int .i64 a0, .int .i64 (wrap64 (6 - (ji9)))] ?_ (hargs := by (try simp only [List.map_toArray, List.map_cons, List.map_nil]); first | done | (simp only [hji9]; rfl) | rfl | (simp only [List.length_drop, List.length_take]; rfl)); (with_reducible refine (impl_power.calls k a0 (wrap64 (6 - (ji9))) t278 _ A10.out).mono ?_); rintro e w' ⟨rfl, ⟨nd, rfl⟩⟩; refine ⟨_, rfl, ?_⟩; (try (rw [drewN_self w12]; generalize hq_ : World.drewN w12 _ = w12; have n0_ := bq_ BK273 hq_; have n1_ := hq_' HB hq_; clear BK273 HB hq_; have BK273 := n0_; have HB := n1_; clear n0_ n1_)); obtain ⟨hcz13_0, hcz13_1, hcz13_2, hfz13_0, hfz13_1, hfz13_2⟩ := ch3_ BK273))
   refine bodyPost_ret (results_ct rfl _ _ gb273 25 #[.int .i64 a1, .int .i64 (wrap64 (Int.tdiv t276 t278)), .int .i64 ji9] (0, 0) _ rfl (bp_ BK273).out Try.underlying25 rfl (by kernel_rfl)) rfl ?_
   exact ⟨by first | rfl | (simp [errW_none, errW_some] <;> rfl) | (simp only [← hji9]; first | rfl | (simp [errW_none, errW_some] <;> rfl)) | (simp [*, errW_none, errW_some] <;> rfl), (bw_ HB).out⟩
 ·replace c5 := Bool.eq_false_iff.mpr c5
  subst c5
  have H1 : (some (0, 0, 0, false)) = some (r1, r2, r3, r4) := by rw [if_neg (show ¬ (false = true) by decide)] at H; exact H
  clear H
  have H := H1
  clear H1
  simp only [Option.some.injEq, Prod.mk.injEq] at H
  obtain ⟨rfl, rfl, rfl, rfl⟩ := H
  go_enter Try.func192, Try.ntmps192
  go_wp2_with (first | ((refine gd_ 6 ?_); refine bx_ 6 #[.int .i64 0, .int .i64 0, .int .i64 0] 25 ?_; intro gb273 hg w14 BK273 hb; have GW273 := bs_ HB hg; have GE273 := bs_ HB hg; replace HB := bt_ HB hb; clear hb hg) | ((refine gc_ 161 ?_); refine ge_ 10 Try.func161 #[.int .i64 a1] ?_; (with_reducible refine (impl_isLevel.calls a1 false _ A4.out).mono ?_); rintro e w' ⟨rfl, ⟨nd, rfl⟩⟩; refine ⟨_, rfl, ?_⟩; (try (rw [drewN_self w14]; generalize hq_ : World.drewN w14 _ = w14; have n0_ := bq_ BK273 hq_; have n1_ := hq_' HB hq_; clear BK273 HB hq_; have BK273 := n0_; have HB := n1_; clear n0_ n1_)); obtain ⟨hcz15_0, hcz15_1, hcz15_2, hfz15_0, hfz15_1, hfz15_2⟩ := ch3_ BK273))
  refine bodyPost_ret (results_ct rfl _ _ gb273 25 #[.int .i64 0, .int .i64 0, .int .i64 0] (0, 0) _ rfl (bp_ BK273).out Try.underlying25 rfl (by kernel_rfl)) rfl ?_
  exact ⟨es_, (bw_ HB).out⟩
/-! ### impl_parent: function 184 -/
def impl_parent.f (k : Nat) (a0 : Int) (a1_0 : Int) (a1_1 : Int) (a1_2 : Int) : Option (Int × Int × Int × Bool) := (impl_mark.f k a0 a1_0 a1_1 a1_2).bind fun t281 => ((impl_ofMark.f k a0 (wrap64 (a1_0 - 1)) t281).bind fun bt282 => (some (bt282.1, bt282.2.1, bt282.2.2.1, bt282.2.2.2)))
def impl_parent.T1 : Bool × List (List Nat × List Nat) := (true, [([], []), ([], []), ([1], [1]), ([2], [2]), ([], []), ([], []), ([4, 5], [4, 5]), ([0, 3, 6, 6], [0, 3, 6]), ([7], [7]), ([7], [7]), ([8, 7, 0, 1, 2, 3, 4, 5, 6, 7, 8, 9], [8]), ([9, 10, 0, 1, 2, 3, 4, 5, 6, 7, 8, 9, 10], [9])])
def impl_parent.B1 : List Nat := [0, 0, 2, 6, 0, 0, 48, 127, 255, 255, 1023, 2047]
theorem impl_parent.tab1 : rtab .any (opsOf Try.f184 1) = impl_parent.T1 := by kernel_rfl
theorem impl_parent.bits1 : waitsOk impl_parent.T1.2 impl_parent.B1 = true := by kernel_rfl
theorem impl_parent.calls (k : Nat) (a0 : Int) (a1_0 : Int) (a1_1 : Int) (a1_2 : Int) (r1 : Int) (r2 : Int) (r3 : Int) (r4 : Bool) (w : World) (h : impl_parent.f k a0 a1_0 a1_1 a1_2 = some (r1, r2, r3, r4)) :
  Calls Try.prog 184 #[.int .i64 a0, .agg #[.int .i64 a1_0, .int .i64 a1_1, .int .i64 a1_2]] w fun e w' => e = .returned (.tuple #[.agg #[.int .i64 r1, .int .i64 r2, .int .i64 r3], .bool r4]) ∧ Below w.heap.size w w' := by
 have hu25 := Try.underlying25
 have HB := Aside0.mk (Below.refl w.heap.size w)
 have H : ((impl_mark.f k a0 a1_0 a1_1 a1_2).bind fun t281 => ((impl_ofMark.f k a0 (wrap64 (a1_0 - 1)) t281).bind fun bt282 => (some (bt282.1, bt282.2.1, bt282.2.2.1, bt282.2.2.2)))) = some (r1, r2, r3, r4) := h
 clear h
 replace H := ob_ H
 obtain ⟨t281, A30, H⟩ := H
 have A3 := Aside0.mk A30
 clear A30
 replace H := ob_ H
 obtain ⟨⟨t282, t283, t284, t285⟩, A40, H⟩ := H
 have A4 := Aside0.mk A40
 clear A40
 simp only [Option.some.injEq, Prod.mk.injEq] at H
 obtain ⟨rfl, rfl, rfl, rfl⟩ := H
 go_enter Try.func184, Try.ntmps184
 try go_wp2_with (first | ((refine gd_ 3 ?_); refine bx_ 3 #[.int .i64 a1_0, .int .i64 a1_1, .int .i64 a1_2] 25 ?_; intro gb279 hg w5 BK279 hb; have GW279 := bs_ HB hg; have GE279 := bs_ HB hg; replace HB := bt_ HB hb; clear hb hg) | ((refine gd_ 4 ?_); refine bx_ 4 #[.int .i64 0, .int .i64 0, .int .i64 0] 25 ?_; intro gb280 hg w6 BK280 hb; have GW280 := bs_ HB hg; have GE280 := bs_ HB hg; have NB279_280 := bm_ BK279 hg; have NB280_279 := bn_ BK279 hg; replace BK279 := bb_ BK279 hb; replace HB := bt_ HB hb; clear hb hg))
 replace BK279 := Aside0.mk (blk_drew BK279.out)
 replace BK280 := Aside0.mk (blk_drew BK280.out)
 replace HB := Aside0.mk (below_drew1 HB.out)
 refine start_ (n := 12) (S := fun w' => w'.cell? ⟨gb279, 0, none⟩ = some (.int .i64 a1_0) ∧ w'.cell? ⟨gb279, 1, none⟩ = some (.int .i64 a1_1) ∧ w'.cell? ⟨gb279, 2, none⟩ = some (.int .i64 a1_2)) (ds := []) (bv_ 12 0) (by kernel_rfl) rfl rfl ⟨cz_ BK279 0, cz_ BK279 1, cz_ BK279 2⟩ (fun hHeld => ?_); refine with_tabW impl_parent.tab1 impl_parent.bits1 (fun HT_ HW_ => ?_)
 generalize w6.drew = w7 at BK279 BK280 HB hHeld ⊢
 refine px_ HT_ 0 6 1 ?_
 refine px_ HT_ 1 7 3 ?_
 refine px_ HT_ 4 10 19 ?_
 refine ta_ HT_ HW_ 2 (some 8) (bv_ 12 23) hHeld ?_ (hy := by rintro w' ⟨s0, s1, s2⟩; go_simp; with_reducible rfl)
 refine px_ HT_ 3 9 31 ?_
 refine ta_ HT_ HW_ 5 (some 11) (bv_ 12 63) hHeld ?_ (hy := by rintro w' ⟨s0, s1, s2⟩; go_simp; with_reducible rfl)
 refine on_ HT_ 6 (some 12) (bv_ 12 127) (fun K hK => ?_)
 refine gs_ Try.func163 #[.int .i64 a0, .agg #[.int .i64 a1_0, .int .i64 a1_1, .int .i64 a1_2]] ?_
 with_reducible refine (impl_mark.calls k a0 a1_0 a1_1 a1_2 t281 _ A3.out).mono ?_
 rintro e w8 ⟨rfl, hb⟩
 refine ⟨_, rfl, ?_⟩
 replace BK279 := bb_ BK279 hb
 replace BK280 := bb_ BK280 hb
 replace HB := bt_ HB hb
 (try clear hb)
 (try clear hb2)
 (try clear hk)
 (try clear hi)
 refine hK.out _ _ ⟨cz_ BK279 0, cz_ BK279 1, cz_ BK279 2⟩ (fun hHeld => ?_)
 clear hK K
 refine nm_ (some 12) ?_
 refine on_ HT_ 7 (some 13) (bv_ 12 255) (fun K hK => ?_)
 refine gs_ Try.func192 #[.int .i64 a0, .int .i64 (wrap64 (a1_0 - 1)), .int .i64 t281] ?_
 with_reducible refine (impl_ofMark.calls k a0 (wrap64 (a1_0 - 1)) t281 t282 t283 t284 t285 _ A4.out).mono ?_
 rintro e w9 ⟨rfl, hb⟩
 refine ⟨_, rfl, ?_⟩
 replace BK279 := bb_ BK279 hb
 replace BK280 := bb_ BK280 hb
 replace HB := bt_ HB hb
 (try clear hb)
 (try clear hb2)
 (try clear hk)
 (try clear hi)
 refine hK.out _ _ ⟨cz_ BK279 0, cz_ BK279 1, cz_ BK279 2⟩ (fun hHeld => ?_)
 clear hK K
 refine nm_ (some 13) ?_
 refine px_ HT_ 8 14 511 ?_
 refine px_ HT_ 9 15 1023 ?_
 refine on_ HT_ 10 none (bv_ 12 2047) (fun K hK => ?_)
 have hs10 : w9.cell? ⟨gb280, 0, none⟩ = some (.int .i64 0) := (blk_cell BK280.out 0).trans rfl
 have hfs10 := blk_frozen BK280.out 0
 have hns10_0 := NB279_280.out
 have hms10_0 := NB280_279.out
 have hs11 : w9.cell? ⟨gb280, 1, none⟩ = some (.int .i64 0) := (blk_cell BK280.out 1).trans rfl
 have hfs11 := blk_frozen BK280.out 1
 have hns11_0 := NB279_280.out
 have hms11_0 := NB280_279.out
 have hs12 : w9.cell? ⟨gb280, 2, none⟩ = some (.int .i64 0) := (blk_cell BK280.out 2).trans rfl
 have hfs12 := blk_frozen BK280.out 2
 have hns12_0 := NB279_280.out
 have hms12_0 := NB280_279.out
 refine skip_ (w1 := ?_) (by rfl) rfl ?_ ?_
 rotate_left
 ·go_simp
  rfl
 refine hK.out _ _ ⟨(cg_ NB279_280 ((cg_ NB279_280 ((cg_ NB279_280 (hHeld.1)))))), (cg_ NB279_280 ((cg_ NB279_280 ((cg_ NB279_280 (hHeld.2.1)))))), (cg_ NB279_280 ((cg_ NB279_280 ((cg_ NB279_280 (hHeld.2.2))))))⟩ (fun hHeld => ?_)
 clear hK K
 refine px_ HT_ 11 5 4095 ?_
 refine done_ (done_of HT_.out (by kernel_rfl)) ?_
 try go_wp2
 refine bodyPost_ret (results_ct rfl _ _ gb280 25 #[.int .i64 t282, .int .i64 t283, .int .i64 t284] (0, 0) _ rfl (bp_ BK280).out Try.underlying25 rfl (by kernel_rfl)) rfl ?_
 exact ⟨es_, (bw_ HB).out⟩
/-! ### impl_child: function 185 -/
def impl_child.f (k : Nat) (a0 : Int) (a1_0 : Int) (a1_1 : Int) (a1_2 : Int) (a2 : Int) : Option (Int × Int × Int × Bool) := (impl_mark.f k a0 a1_0 a1_1 a1_2).bind fun t288 => ((impl_power.f k a0 (wrap64 (a1_0 + 6))).bind fun t289 => ((impl_ofMark.f k a0 (wrap64 (a1_0 + 1)) (wrap64 (t288 + (wrap64 (a2 * t289))))).bind fun bt290 => (some (bt290.1, bt290.2.1, bt290.2.2.1, bt290.2.2.2))))
def impl_child.T1 : Bool × List (List Nat × List Nat) := (true, [([], []), ([], []), ([1], [1]), ([2], [2]), ([], []), ([], []), ([4, 5], [4, 5]), ([], []), ([], []), ([], []), ([9], [9]), ([10], [10]), ([8, 11, 6], [8, 11]), ([7, 12], [7, 12]), ([6, 13], [6, 13]), ([0, 3, 14, 12], [0, 3, 14]), ([15], [15]), ([15], [15]), ([16, 15, 0, 1, 2, 3, 4, 5, 6, 7, 8, 9, 10, 11, 12, 13, 14, 15, 16, 17], [16]), ([17, 18, 0, 1, 2, 3, 4, 5, 6, 7, 8, 9, 10, 11, 12, 13, 14, 15, 16, 17, 18], [17])])
def impl_child.B1 : List Nat := [0, 0, 2, 6, 0, 0, 48, 0, 0, 0, 512, 1536, 3952, 8176, 16368, 32767, 65535, 65535, 262143, 524287]
theorem impl_child.tab1 : rtab .any (opsOf Try.f185 1) = impl_child.T1 := by kernel_rfl
theorem impl_child.bits1 : waitsOk impl_child.T1.2 impl_child.B1 = true := by kernel_rfl
theorem impl_child.calls (k : Nat) (a0 : Int) (a1_0 : Int) (a1_1 : Int) (a1_2 : Int) (a2 : Int) (r1 : Int) (r2 : Int) (r3 : Int) (r4 : Bool) (w : World) (h : impl_child.f k a0 a1_0 a1_1 a1_2 a2 = some (r1, r2, r3, r4)) :
  Calls Try.prog 185 #[.int .i64 a0, .agg #[.int .i64 a1_0, .int .i64 a1_1, .int .i64 a1_2], .int .i64 a2] w fun e w' => e = .returned (.tuple #[.agg #[.int .i64 r1, .int .i64 r2, .int .i64 r3], .bool r4]) ∧ Below w.heap.size w w' := by
 have hu25 := Try.underlying25
 have HB := Aside0.mk (Below.refl w.heap.size w)
 have H : ((impl_mark.f k a0 a1_0 a1_1 a1_2).bind fun t288 => ((impl_power.f k a0 (wrap64 (a1_0 + 6))).bind fun t289 => ((impl_ofMark.f k a0 (wrap64 (a1_0 + 1)) (wrap64 (t288 + (wrap64 (a2 * t289))))).bind fun bt290 => (some (bt290.1, bt290.2.1, bt290.2.2.1, bt290.2.2.2))))) = some (r1, r2, r3, r4) := h
 clear h
 replace H := ob_ H
 obtain ⟨t288, A40, H⟩ := H
 have A4 := Aside0.mk A40
 clear A40
 replace H := ob_ H
 obtain ⟨t289, A50, H⟩ := H
 have A5 := Aside0.mk A50
 clear A50
 replace H := ob_ H
 obtain ⟨⟨t290, t291, t292, t293⟩, A60, H⟩ := H
 have A6 := Aside0.mk A60
 clear A60
 simp only [Option.some.injEq, Prod.mk.injEq] at H
 obtain ⟨rfl, rfl, rfl, rfl⟩ := H
 go_enter Try.func185, Try.ntmps185
 try go_wp2_with (first | ((refine gd_ 4 ?_); refine bx_ 4 #[.int .i64 a1_0, .int .i64 a1_1, .int .i64 a1_2] 25 ?_; intro gb286 hg w7 BK286 hb; have GW286 := bs_ HB hg; have GE286 := bs_ HB hg; replace HB := bt_ HB hb; clear hb hg) | ((refine gd_ 6 ?_); refine bx_ 6 #[.int .i64 0, .int .i64 0, .int .i64 0] 25 ?_; intro gb287 hg w8 BK287 hb; have GW287 := bs_ HB hg; have GE287 := bs_ HB hg; have NB286_287 := bm_ BK286 hg; have NB287_286 := bn_ BK286 hg; replace BK286 := bb_ BK286 hb; replace HB := bt_ HB hb; clear hb hg))
 replace BK286 := Aside0.mk (blk_drew BK286.out)
 replace BK287 := Aside0.mk (blk_drew BK287.out)
 replace HB := Aside0.mk (below_drew1 HB.out)
 refine start_ (n := 20) (S := fun w' => w'.cell? ⟨gb286, 0, none⟩ = some (.int .i64 a1_0) ∧ w'.cell? ⟨gb286, 1, none⟩ = some (.int .i64 a1_1) ∧ w'.cell? ⟨gb286, 2, none⟩ = some (.int .i64 a1_2)) (ds := []) (bv_ 20 0) (by kernel_rfl) rfl rfl ⟨cz_ BK286 0, cz_ BK286 1, cz_ BK286 2⟩ (fun hHeld => ?_); refine with_tabW impl_child.tab1 impl_child.bits1 (fun HT_ HW_ => ?_)
 generalize w8.drew = w9 at BK286 BK287 HB hHeld ⊢
 refine px_ HT_ 0 8 1 ?_
 refine px_ HT_ 1 9 3 ?_
 refine px_ HT_ 4 12 19 ?_
 refine px_ HT_ 7 15 147 ?_
 refine px_ HT_ 8 16 403 ?_
 refine px_ HT_ 9 17 915 ?_
 refine ta_ HT_ HW_ 2 (some 10) (bv_ 20 919) hHeld ?_ (hy := by rintro w' ⟨s0, s1, s2⟩; go_simp; with_reducible rfl)
 refine px_ HT_ 3 11 927 ?_
 refine ta_ HT_ HW_ 5 (some 13) (bv_ 20 959) hHeld ?_ (hy := by rintro w' ⟨s0, s1, s2⟩; go_simp; with_reducible rfl)
 refine ta_ HT_ HW_ 10 (some 18) (bv_ 20 1983) hHeld ?_ (hy := by rintro w' ⟨s0, s1, s2⟩; go_simp; with_reducible rfl)
 refine px_ HT_ 11 19 4031 ?_
 refine on_ HT_ 6 (some 14) (bv_ 20 4095) (fun K hK => ?_)
 refine gs_ Try.func163 #[.int .i64 a0, .agg #[.int .i64 a1_0, .int .i64 a1_1, .int .i64 a1_2]] ?_
 with_reducible refine (impl_mark.calls k a0 a1_0 a1_1 a1_2 t288 _ A4.out).mono ?_
 rintro e w10 ⟨rfl, hb⟩
 refine ⟨_, rfl, ?_⟩
 replace BK286 := bb_ BK286 hb
 replace BK287 := bb_ BK287 hb
 replace HB := bt_ HB hb
 (try clear hb)
 (try clear hb2)
 (try clear hk)
 (try clear hi)
 refine hK.out _ _ ⟨cz_ BK286 0, cz_ BK286 1, cz_ BK286 2⟩ (fun hHeld => ?_)
 clear hK K
 refine nm_ (some 14) ?_
 refine on_ HT_ 12 (some 20) (bv_ 20 8191) (fun K hK => ?_)
 refine gs_ Try.func162 #[.int .i64 a0, .int .i64 (wrap64 (a1_0 + 6))] ?_
 with_reducible refine (impl_power.calls k a0 (wrap64 (a1_0 + 6)) t289 _ A5.out).mono ?_
 rintro e w' ⟨rfl, ⟨nd, rfl⟩⟩
 refine ⟨_, rfl, ?_⟩
 refine hK.out _ _ ⟨cz_ BK286 0, cz_ BK286 1, cz_ BK286 2⟩ (fun hHeld => ?_)
 clear hK K
 refine nm_ (some 20) ?_
 refine px_ HT_ 13 21 16383 ?_
 refine px_ HT_ 14 22 32767 ?_
 refine on_ HT_ 15 (some 23) (bv_ 20 65535) (fun K hK => ?_)
 refine gs_ Try.func192 #[.int .i64 a0, .int .i64 (wrap64 (a1_0 + 1)), .int .i64 (wrap64 (t288 + (wrap64 (a2 * t289))))] ?_
 with_reducible refine (impl_ofMark.calls k a0 (wrap64 (a1_0 + 1)) (wrap64 (t288 + (wrap64 (a2 * t289)))) t290 t291 t292 t293 _ A6.out).mono ?_
 rintro e w11 ⟨rfl, hb⟩
 refine ⟨_, rfl, ?_⟩
 replace BK286 := bb_ BK286 hb
 replace BK287 := bb_ BK287 hb
 replace HB := bt_ HB hb
 (try clear hb)
 (try clear hb2)
 (try clear hk)
 (try clear hi)
 refine hK.out _ _ ⟨cz_ BK286 0, cz_ BK286 1, cz_ BK286 2⟩ (fun hHeld => ?_)
 clear hK K
 refine nm_ (some 23) ?_
 refine px_ HT_ 16 24 131071 ?_
 refine px_ HT_ 17 25 262143 ?_
 refine on_ HT_ 18 none (bv_ 20 524287) (fun K hK => ?_)
 have hs12 : w11.cell? ⟨gb287, 0, none⟩ = some (.int .i64 0) := (blk_cell BK287.out 0).trans rfl
 have hfs12 := blk_frozen BK287.out 0
 have hns12_0 := NB286_287.out
 have hms12_0 := NB287_286.out
 have hs13 : w11.cell? ⟨gb287, 1, none⟩ = some (.int .i64 0) := (blk_cell BK287.out 1).trans rfl
 have hfs13 := blk_frozen BK287.out 1
 have hns13_0 := NB286_287.out
 have hms13_0 := NB287_286.out
 have hs14 : w11.cell? ⟨gb287, 2, none⟩ = some (.int .i64 0) := (blk_cell BK287.out 2).trans rfl
 have hfs14 := blk_frozen BK287.out 2
 have hns14_0 := NB286_287.out
 have hms14_0 := NB287_286.out
 refine skip_ (w1 := ?_) (by rfl) rfl ?_ ?_
 rotate_left
 ·go_simp
  rfl
 refine hK.out _ _ ⟨(cg_ NB286_287 ((cg_ NB286_287 ((cg_ NB286_287 (hHeld.1)))))), (cg_ NB286_287 ((cg_ NB286_287 ((cg_ NB286_287 (hHeld.2.1)))))), (cg_ NB286_287 ((cg_ NB286_287 ((cg_ NB286_287 (hHeld.2.2))))))⟩ (fun hHeld => ?_)
 clear hK K
 refine px_ HT_ 19 7 1048575 ?_
 refine done_ (done_of HT_.out (by kernel_rfl)) ?_
 try go_wp2
 refine bodyPost_ret (results_ct rfl _ _ gb287 25 #[.int .i64 t290, .int .i64 t291, .int .i64 t292] (0, 0) _ rfl (bp_ BK287).out Try.underlying25 rfl (by kernel_rfl)) rfl ?_
 exact ⟨es_, (bw_ HB).out⟩
/-! ### impl_neighbour: function 150 -/
def impl_neighbour.f (k : Nat) (a0 : Int) (a1_0 : Int) (a1_1 : Int) (a1_2 : Int) (a2 : Int) : Option (Int × Int × Int × Bool) := if a2 = 0 then ((impl_parent.f k a0 a1_0 a1_1 a1_2).bind fun bt296 => (some (bt296.1, bt296.2.1, bt296.2.2.1, bt296.2.2.2))) else ((impl_child.f k a0 a1_0 a1_1 a1_2 (wrap64 (a2 - 1))).bind fun bt300 => (some (bt300.1, bt300.2.1, bt300.2.2.1, bt300.2.2.2)))
theorem impl_neighbour.calls (k : Nat) (a0 : Int) (a1_0 : Int) (a1_1 : Int) (a1_2 : Int) (a2 : Int) (r1 : Int) (r2 : Int) (r3 : Int) (r4 : Bool) (w : World) (h : impl_neighbour.f k a0 a1_0 a1_1 a1_2 a2 = some (r1, r2, r3, r4)) :
  Calls Try.prog 150 #[.int .i64 a0, .agg #[.int .i64 a1_0, .int .i64 a1_1, .int .i64 a1_2], .int .i64 a2] w fun e w' => e = .returned (.tuple #[.agg #[.int .i64 r1, .int .i64 r2, .int .i64 r3], .bool r4]) ∧ Below w.heap.size w w' := by
 have hu25 := Try.underlying25
 have HB := Aside0.mk (Below.refl w.heap.size w)
 have H : (if a2 = 0 then ((impl_parent.f k a0 a1_0 a1_1 a1_2).bind fun bt296 => (some (bt296.1, bt296.2.1, bt296.2.2.1, bt296.2.2.2))) else ((impl_child.f k a0 a1_0 a1_1 a1_2 (wrap64 (a2 - 1))).bind fun bt300 => (some (bt300.1, bt300.2.1, bt300.2.2.1, bt300.2.2.2)))) = some (r1, r2, r3, r4) := h
 clear h
 by_cases c4 : a2 = 0
 ·rw [if_pos c4] at H
  have c4b0 : (a2 == 0) = true := beq_iff_eq.mpr c4
  have c4b1 : (a2 != 0) = false := bne_eq_false_iff_eq.mpr c4
  clear c4
  replace H := ob_ H
  obtain ⟨⟨t296, t297, t298, t299⟩, A50, H⟩ := H
  have A5 := Aside0.mk A50
  clear A50
  simp only [Option.some.injEq, Prod.mk.injEq] at H
  obtain ⟨rfl, rfl, rfl, rfl⟩ := H
  go_enter Try.func150, Try.ntmps150
  go_wp2_with (first | ((refine gd_ 4 ?_); refine bx_ 4 #[.int .i64 a1_0, .int .i64 a1_1, .int .i64 a1_2] 25 ?_; intro gb294 hg w6 BK294 hb; have GW294 := bs_ HB hg; have GE294 := bs_ HB hg; replace HB := bt_ HB hb; clear hb hg) | ((refine gd_ 6 ?_); refine bx_ 6 #[.int .i64 0, .int .i64 0, .int .i64 0] 25 ?_; intro gb295 hg w7 BK295 hb; have GW295 := bs_ HB hg; have GE295 := bs_ HB hg; have NB294_295 := bm_ BK294 hg; have NB295_294 := bn_ BK294 hg; replace BK294 := bb_ BK294 hb; replace HB := bt_ HB hb; clear hb hg; have hnb8 := NB294_295.out; have hnc8 := NB295_294.out; obtain ⟨hcz9_0, hcz9_1, hcz9_2, hfz9_0, hfz9_1, hfz9_2⟩ := ch3_ BK294) | ((refine gc_ 184 ?_); refine ge_ 12 Try.func184 #[.int .i64 a0, .agg #[.int .i64 a1_0, .int .i64 a1_1, .int .i64 a1_2]] ?_; (with_reducible refine (impl_parent.calls k a0 a1_0 a1_1 a1_2 t296 t297 t298 t299 _ A5.out).mono ?_); rintro e w10 ⟨rfl, hb⟩; refine ⟨_, rfl, ?_⟩; replace BK294 := bb_ BK294 hb; replace BK295 := bb_ BK295 hb; replace HB := bt_ HB hb; (try clear hb); obtain ⟨hcz11_0, hcz11_1, hcz11_2, hfz11_0, hfz11_1, hfz11_2⟩ := ch3_ BK295))
  refine bodyPost_ret (results_ct rfl _ _ gb295 25 #[.int .i64 t296, .int .i64 t297, .int .i64 t298] (0, 0) _ rfl (bp_ BK295).out Try.underlying25 rfl (by kernel_rfl)) rfl ?_
  exact ⟨es_, (bw_ HB).out⟩
 ·rw [if_neg c4] at H
  have c4b0 : (a2 == 0) = false := beq_eq_false_iff_ne.mpr c4
  have c4b1 : (a2 != 0) = true := bne_iff_ne.mpr c4
  replace H := ob_ H
  obtain ⟨⟨t300, t301, t302, t303⟩, A120, H⟩ := H
  have A12 := Aside0.mk A120
  clear A120
  simp only [Option.some.injEq, Prod.mk.injEq] at H
  obtain ⟨rfl, rfl, rfl, rfl⟩ := H
  go_enter Try.func150, Try.ntmps150
  go_wp2_with (first | ((refine gd_ 4 ?_); refine bx_ 4 #[.int .i64 a1_0, .int .i64 a1_1, .int .i64 a1_2] 25 ?_; intro gb294 hg w13 BK294 hb; have GW294 := bs_ HB hg; have GE294 := bs_ HB hg; replace HB := bt_ HB hb; clear hb hg) | ((refine gd_ 6 ?_); refine bx_ 6 #[.int .i64 0, .int .i64 0, .int .i64 0] 25 ?_; intro gb295 hg w14 BK295 hb; have GW295 := bs_ HB hg; have GE295 := bs_ HB hg; have NB294_295 := bm_ BK294 hg; have NB295_294 := bn_ BK294 hg; replace BK294 := bb_ BK294 hb; replace HB := bt_ HB hb; clear hb hg; have hnb15 := NB294_295.out; have hnc15 := NB295_294.out; obtain ⟨hcz16_0, hcz16_1, hcz16_2, hfz16_0, hfz16_1, hfz16_2⟩ := ch3_ BK294) | ((refine gc_ 185 ?_); refine ge_ 19 Try.func185 #[.int .i64 a0, .agg #[.int .i64 a1_0, .int .i64 a1_1, .int .i64 a1_2], .int .i64 (wrap64 (a2 - 1))] ?_; (with_reducible refine (impl_child.calls k a0 a1_0 a1_1 a1_2 (wrap64 (a2 - 1)) t300 t301 t302 t303 _ A12.out).mono ?_); rintro e w17 ⟨rfl, hb⟩; refine ⟨_, rfl, ?_⟩; replace BK294 := bb_ BK294 hb; replace BK295 := bb_ BK295 hb; replace HB := bt_ HB hb; (try clear hb); obtain ⟨hcz18_0, hcz18_1, hcz18_2, hfz18_0, hfz18_1, hfz18_2⟩ := ch3_ BK295))
  refine bodyPost_ret (results_ct rfl _ _ gb295 25 #[.int .i64 t300, .int .i64 t301, .int .i64 t302] (0, 0) _ rfl (bp_ BK295).out Try.underlying25 rfl (by kernel_rfl)) rfl ?_
  exact ⟨es_, (bw_ HB).out⟩
end Go.Proofs.Ytgoeelhiffbjlaa.QR
