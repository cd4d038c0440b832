import Derived.Test.YtbilincmcnnonaaQSx8
import Derived.Test.YtbilincmcnnonaaQSx42
namespace Go.Proofs.Ytbilincmcnnonaa.QS
set_option maxHeartbeats 8000000
set_option maxRecDepth 100000
open Go.RowKit Go.Proofs.YtbilincmcnnonaaW.PrintWords Go.Proofs.YtbilincmcnnonaaW.PrintLast Go.Proofs.YtbilincmcnnonaaW.PrintMore
attribute [local go_sem] isSome_setCell max2_int min2_int max_two min_two max_three min_three max_four min_four
set_option linter.unusedVariables false
set_option linter.unusedSimpArgs false

/-! ### impl_isLevel: function 151 -/
def impl_isLevel.f (a0 : Int) : Option (Bool) := if a0 ≥ (-6) then (some (decide (a0 ≤ 6))) else (some false)
theorem impl_isLevel.calls (a0 : Int) (r : Bool) (w : World) (h : impl_isLevel.f a0 = some r) :
  Calls Try.prog 151 #[.int .i64 a0] w fun e w' => e = .returned (.bool r) ∧ Drawn0 w w' := by
 have H : (if a0 ≥ (-6) then (some (decide (a0 ≤ 6))) else (some false)) = some r := h
 clear h
 by_cases c2 : a0 ≥ (-6)
 ·rw [if_pos c2] at H
  have c2b0 : decide ((-6) ≤ a0) = true := decide_eq_true c2
  clear c2
  obtain rfl := si_ H
  go_enter Try.func151, Try.ntmps151
  go_wp2
  go_ret
  exact ⟨en_, de_⟩
 ·rw [if_neg c2] at H
  have c2b0 : decide ((-6) ≤ a0) = false := decide_eq_false c2
  clear c2
  obtain rfl := si_ H
  go_enter Try.func151, Try.ntmps151
  go_wp2
  go_ret
  exact ⟨en_, de_⟩
/-! ### impl_power: function 152 -/
def impl_power.l0 : Nat → Int → Int → Int → Int → Option (Int)
 | 0, _, _, _, _ => none
 | k + 1, x0, x5, x6, x7 => if x7 < x6 then (impl_power.l0 k x0 (wrap64 (x5 * x0)) x6 (wrap64 (x7 + 1))) else (some x5)
def impl_power.f (k : Nat) (a0 : Int) (a1 : Int) : Option (Int) := impl_power.l0 k a0 1 a1 0
theorem impl_power.calls (k : Nat) (a0 : Int) (a1 : Int) (r : Int) (w : World) (h : impl_power.f k a0 a1 = some r) :
  Calls Try.prog 152 #[.int .i64 a0, .int .i64 a1] w fun e w' => e = .returned (.int .i64 r) ∧ Drawn0 w w' := by
 have H : (impl_power.l0 k a0 1 a1 0) = some r := h
 clear h
 have H' := Aside0.mk H
 clear H
 go_enter Try.func152, Try.ntmps152
 go_wp2
 go_loopg [5, 7] k (fun kq v5 v7 w' => ∃ (x5_1 : Int) (x7_1 : Int), v5 = .int .i64 x5_1 ∧ v7 = .int .i64 x7_1 ∧ Aside0 (impl_power.l0 kq a0 x5_1 a1 x7_1 = some r) ∧ Aside0 (kq ≤ k) ∧ Drawn0 w w')
 case atStart => exact ⟨(1), (0), en_, en_, H', ⟨Nat.le_refl _⟩, de_⟩
 case round =>
  clear H'
  try clear c1
  try clear p2
  obtain ⟨x5_1, x7_1, rfl, rfl, HA, HK1, ⟨m1, rfl⟩⟩ := hrel
  cases gk with
  | zero => exact absurd HA.out (by simp [impl_power.l0])
  | succ k1 =>
   have H := HA.out
   clear HA
   simp only [impl_power.l0] at H
   by_cases c3 : x7_1 < a1
   ·rw [if_pos c3] at H
    have c3b0 : decide (x7_1 < a1) = true := decide_eq_true c3
    clear c3
    have H' := Aside0.mk H
    clear H
    go_wp2
    go_roundg k1
    case measure => have := HK1.out; omega
    case rel => exact ⟨(wrap64 (x5_1 * a0)), (wrap64 (x7_1 + 1)), en_, en_, H', ⟨by have := HK1.out; omega⟩, de_⟩
   ·rw [if_neg c3] at H
    have c3b0 : decide (x7_1 < a1) = false := decide_eq_false c3
    clear c3
    obtain rfl := si_ H
    go_wp2
    go_ret
    exact ⟨en_, de_⟩
/-! ### impl_IsBall: function 85 -/
def impl_IsBall.j0 : Nat → Int → Bool → Int → Int → Int → Option (Bool)
 | 0, _, _, _, _, _ => none
 | k + 1, x0, x24, x300000, x300001, x300002 => if x24 = true then (some false) else (if (wrap64 (x300000 + x300002)) ≤ 0 then (if x300001 = 0 then (some (x300002 == 0)) else (some false)) else (if x300001 ≥ 0 then ((impl_power.f k x0 (wrap64 (x300000 + x300002))).bind fun t302 => (if x300001 < t302 then (if x300002 = 0 then (some true) else (if x0 = 0 then (none) else (some ((Int.tmod x300001 x0) != 0)))) else (some false))) else (some false)))
def impl_IsBall.f (k : Nat) (a0 : Int) (a1_0 : Int) (a1_1 : Int) (a1_2 : Int) : Option (Bool) := (impl_isPrime.f a0).bind fun t300 => (if t300 = true then ((impl_isLevel.f a1_0).bind fun t301 => (if t301 = true then (if a1_2 < 0 then (impl_IsBall.j0 k a0 true a1_0 a1_1 a1_2) else (impl_IsBall.j0 k a0 (decide (a1_2 > 6)) a1_0 a1_1 a1_2)) else (impl_IsBall.j0 k a0 true a1_0 a1_1 a1_2))) else (impl_IsBall.j0 k a0 true a1_0 a1_1 a1_2))
theorem impl_IsBall.calls (k : Nat) (a0 : Int) (a1_0 : Int) (a1_1 : Int) (a1_2 : Int) (r : Bool) (w : World) (h : impl_IsBall.f k a0 a1_0 a1_1 a1_2 = some r) :
  Calls Try.prog 85 #[.int .i64 a0, .agg #[.int .i64 a1_0, .int .i64 a1_1, .int .i64 a1_2]] w fun e w' => e = .returned (.bool r) ∧ Below w.heap.size w w' := by
 have hu39 := Try.underlying39
 have HB := Aside0.mk (Below.refl w.heap.size w)
 have H : ((impl_isPrime.f a0).bind fun t300 => (if t300 = true then ((impl_isLevel.f a1_0).bind fun t301 => (if t301 = true then (if a1_2 < 0 then (impl_IsBall.j0 k a0 true a1_0 a1_1 a1_2) else (impl_IsBall.j0 k a0 (decide (a1_2 > 6)) a1_0 a1_1 a1_2)) else (impl_IsBall.j0 k a0 true a1_0 a1_1 a1_2))) else (impl_IsBall.j0 k a0 true a1_0 a1_1 a1_2))) = some r := h
 clear h
 have HC3 := Aside0.mk H
 clear H
 go_enter Try.func85, Try.ntmps85
 go_upto_region 1 with (first | (refine bx_ 3 #[.int .i64 a1_0, .int .i64 a1_1, .int .i64 a1_2] 39 ?_; intro gb299 hg w4 hbox hb; have BK299 := Aside0.mk (hbox); have GW299 := bs_ HB hg; have GE299 := bs_ HB hg; replace HB := bt_ HB hb; clear hb hbox hg))
 repeat (go_quiet (first | (refine bx_ 3 #[.int .i64 a1_0, .int .i64 a1_1, .int .i64 a1_2] 39 ?_; intro gb299 hg w4 hbox hb; have BK299 := Aside0.mk (hbox); have GW299 := bs_ HB hg; have GE299 := bs_ HB hg; replace HB := bt_ HB hb; clear hb hbox hg)); go_upto_region 1 with (first | (refine bx_ 3 #[.int .i64 a1_0, .int .i64 a1_1, .int .i64 a1_2] 39 ?_; intro gb299 hg w4 hbox hb; have BK299 := Aside0.mk (hbox); have GW299 := bs_ HB hg; have GE299 := bs_ HB hg; replace HB := bt_ HB hb; clear hb hbox hg)))
 (try simp only [Act.put, lstS, lstZ, lstC])
 go_cut [24] (fun v24 wc => ∃ (kq : Nat) (x24_2 : Bool), v24 = .bool x24_2 ∧ Aside0 (impl_IsBall.j0 kq a0 x24_2 a1_0 a1_1 a1_2 = some r) ∧ Aside0 (kq ≤ k) ∧ Aside0 (wc.heap[gb299]? = some (.cells #[.int .i64 a1_0, .int .i64 a1_1, .int .i64 a1_2] 39 (0, 0))) ∧ Aside0 (Below w.heap.size w wc))
 case first =>
  have H := HC3.out
  clear HC3
  replace H := ob_ H
  obtain ⟨t300, A50, H⟩ := H
  have A5 := Aside0.mk A50
  clear A50
  by_cases c6 : t300 = true
  ·subst c6
   have H1 : ((impl_isLevel.f a1_0).bind fun t301 => (if t301 = true then (if a1_2 < 0 then (impl_IsBall.j0 k a0 true a1_0 a1_1 a1_2) else (impl_IsBall.j0 k a0 (decide (a1_2 > 6)) a1_0 a1_1 a1_2)) else (impl_IsBall.j0 k a0 true a1_0 a1_1 a1_2))) = some r := by rw [if_pos rfl] at H; exact H
   clear H
   have H := H1
   clear H1
   replace H := ob_ H
   obtain ⟨t301, A70, H⟩ := H
   have A7 := Aside0.mk A70
   clear A70
   by_cases c8 : t301 = true
   ·subst c8
    have H1 : (if a1_2 < 0 then (impl_IsBall.j0 k a0 true a1_0 a1_1 a1_2) else (impl_IsBall.j0 k a0 (decide (a1_2 > 6)) a1_0 a1_1 a1_2)) = some r := by rw [if_pos rfl] at H; exact H
    clear H
    have H := H1
    clear H1
    by_cases c9 : a1_2 < 0
    ·rw [if_pos c9] at H
     have c9b0 : decide (a1_2 < 0) = true := decide_eq_true c9
     clear c9
     (first | rw [c9b0] | (simp only [i64_w, i32_w]; rw [c9b0]) | skip)
     have H' := Aside0.mk H
     clear H
     go_wp2_with (first | (go_at_call 97; (with_reducible refine (impl_isPrime.calls a0 true _ A5.out).mono ?_); rintro e w' ⟨rfl, ⟨nd, rfl⟩⟩; (try exact dd_); obtain ⟨hcz10_0, hcz10_1, hcz10_2, hfz10_0, hfz10_1, hfz10_2⟩ := ch3_ BK299) | (go_at_call 151; (with_reducible refine (impl_isLevel.calls a1_0 true _ A7.out).mono ?_); rintro e w' ⟨rfl, ⟨nd, rfl⟩⟩; (try exact dd_)))
     repeat (go_quiet (first | (go_at_call 97; (with_reducible refine (impl_isPrime.calls a0 true _ A5.out).mono ?_); rintro e w' ⟨rfl, ⟨nd, rfl⟩⟩; (try exact dd_); obtain ⟨hcz10_0, hcz10_1, hcz10_2, hfz10_0, hfz10_1, hfz10_2⟩ := ch3_ BK299) | (go_at_call 151; (with_reducible refine (impl_isLevel.calls a1_0 true _ A7.out).mono ?_); rintro e w' ⟨rfl, ⟨nd, rfl⟩⟩; (try exact dd_))); try go_wp2_with (first | (go_at_call 97; (with_reducible refine (impl_isPrime.calls a0 true _ A5.out).mono ?_); rintro e w' ⟨rfl, ⟨nd, rfl⟩⟩; (try exact dd_); obtain ⟨hcz10_0, hcz10_1, hcz10_2, hfz10_0, hfz10_1, hfz10_2⟩ := ch3_ BK299) | (go_at_call 151; (with_reducible refine (impl_isLevel.calls a1_0 true _ A7.out).mono ?_); rintro e w' ⟨rfl, ⟨nd, rfl⟩⟩; (try exact dd_))))
     go_meet
     case rel => exact ⟨_, (true), en_, H', ⟨by first | omega | exact Nat.le_refl _⟩, bl_ BK299, bw_ HB⟩
    ·rw [if_neg c9] at H
     have c9b0 : decide (a1_2 < 0) = false := decide_eq_false c9
     clear c9
     (first | rw [c9b0] | (simp only [i64_w, i32_w]; rw [c9b0]) | skip)
     have H' := Aside0.mk H
     clear H
     go_wp2_with (first | (go_at_call 97; (with_reducible refine (impl_isPrime.calls a0 true _ A5.out).mono ?_); rintro e w' ⟨rfl, ⟨nd, rfl⟩⟩; (try exact dd_); obtain ⟨hcz11_0, hcz11_1, hcz11_2, hfz11_0, hfz11_1, hfz11_2⟩ := ch3_ BK299) | (go_at_call 151; (with_reducible refine (impl_isLevel.calls a1_0 true _ A7.out).mono ?_); rintro e w' ⟨rfl, ⟨nd, rfl⟩⟩; (try exact dd_)))
     repeat (go_quiet (first | (go_at_call 97; (with_reducible refine (impl_isPrime.calls a0 true _ A5.out).mono ?_); rintro e w' ⟨rfl, ⟨nd, rfl⟩⟩; (try exact dd_); obtain ⟨hcz11_0, hcz11_1, hcz11_2, hfz11_0, hfz11_1, hfz11_2⟩ := ch3_ BK299) | (go_at_call 151; (with_reducible refine (impl_isLevel.calls a1_0 true _ A7.out).mono ?_); rintro e w' ⟨rfl, ⟨nd, rfl⟩⟩; (try exact dd_))); try go_wp2_with (first | (go_at_call 97; (with_reducible refine (impl_isPrime.calls a0 true _ A5.out).mono ?_); rintro e w' ⟨rfl, ⟨nd, rfl⟩⟩; (try exact dd_); obtain ⟨hcz11_0, hcz11_1, hcz11_2, hfz11_0, hfz11_1, hfz11_2⟩ := ch3_ BK299) | (go_at_call 151; (with_reducible refine (impl_isLevel.calls a1_0 true _ A7.out).mono ?_); rintro e w' ⟨rfl, ⟨nd, rfl⟩⟩; (try exact dd_))))
     go_meet
     case rel => exact ⟨_, (decide (a1_2 > 6)), en_, H', ⟨by first | omega | exact Nat.le_refl _⟩, bl_ BK299, bw_ HB⟩
   ·replace c8 := Bool.eq_false_iff.mpr c8
    subst c8
    have H1 : (impl_IsBall.j0 k a0 true a1_0 a1_1 a1_2) = some r := by rw [if_neg (show ¬ (false = true) by decide)] at H; exact H
    clear H
    have H := H1
    clear H1
    have H' := Aside0.mk H
    clear H
    go_wp2_with (first | (go_at_call 97; (with_reducible refine (impl_isPrime.calls a0 true _ A5.out).mono ?_); rintro e w' ⟨rfl, ⟨nd, rfl⟩⟩; (try exact dd_); obtain ⟨hcz12_0, hcz12_1, hcz12_2, hfz12_0, hfz12_1, hfz12_2⟩ := ch3_ BK299) | (go_at_call 151; (with_reducible refine (impl_isLevel.calls a1_0 false _ A7.out).mono ?_); rintro e w' ⟨rfl, ⟨nd, rfl⟩⟩; (try exact dd_)))
    repeat (go_quiet (first | (go_at_call 97; (with_reducible refine (impl_isPrime.calls a0 true _ A5.out).mono ?_); rintro e w' ⟨rfl, ⟨nd, rfl⟩⟩; (try exact dd_); obtain ⟨hcz12_0, hcz12_1, hcz12_2, hfz12_0, hfz12_1, hfz12_2⟩ := ch3_ BK299) | (go_at_call 151; (with_reducible refine (impl_isLevel.calls a1_0 false _ A7.out).mono ?_); rintro e w' ⟨rfl, ⟨nd, rfl⟩⟩; (try exact dd_))); try go_wp2_with (first | (go_at_call 97; (with_reducible refine (impl_isPrime.calls a0 true _ A5.out).mono ?_); rintro e w' ⟨rfl, ⟨nd, rfl⟩⟩; (try exact dd_); obtain ⟨hcz12_0, hcz12_1, hcz12_2, hfz12_0, hfz12_1, hfz12_2⟩ := ch3_ BK299) | (go_at_call 151; (with_reducible refine (impl_isLevel.calls a1_0 false _ A7.out).mono ?_); rintro e w' ⟨rfl, ⟨nd, rfl⟩⟩; (try exact dd_))))
    go_meet
    case rel => exact ⟨_, (true), en_, H', ⟨by first | omega | exact Nat.le_refl _⟩, bl_ BK299, bw_ HB⟩
  ·replace c6 := Bool.eq_false_iff.mpr c6
   subst c6
   have H1 : (impl_IsBall.j0 k a0 true a1_0 a1_1 a1_2) = some r := by rw [if_neg (show ¬ (false = true) by decide)] at H; exact H
   clear H
   have H := H1
   clear H1
   have H' := Aside0.mk H
   clear H
   go_wp2_with (first | (go_at_call 97; (with_reducible refine (impl_isPrime.calls a0 false _ A5.out).mono ?_); rintro e w' ⟨rfl, ⟨nd, rfl⟩⟩; (try exact dd_)))
   repeat (go_quiet (first | (go_at_call 97; (with_reducible refine (impl_isPrime.calls a0 false _ A5.out).mono ?_); rintro e w' ⟨rfl, ⟨nd, rfl⟩⟩; (try exact dd_))); try go_wp2_with (first | (go_at_call 97; (with_reducible refine (impl_isPrime.calls a0 false _ A5.out).mono ?_); rintro e w' ⟨rfl, ⟨nd, rfl⟩⟩; (try exact dd_))))
   go_meet
   case rel => exact ⟨_, (true), en_, H', ⟨by first | omega | exact Nat.le_refl _⟩, bl_ BK299, bw_ HB⟩
 case rest =>
  clear HC3
  try clear p2
  try clear c6
  try clear c8
  try clear c9
  try clear c9b0
  try clear hcz10_0 hcz10_1 hcz10_2
  try clear hcz11_0 hcz11_1 hcz11_2
  try clear hcz12_0 hcz12_1 hcz12_2
  try clear hfz10_0 hfz10_1 hfz10_2
  try clear hfz11_0 hfz11_1 hfz11_2
  try clear hfz12_0 hfz12_1 hfz12_2
  obtain ⟨kq, x24_2, rfl, HA, HJ2, BK299, HB⟩ := hcut
  cases kq with
  | zero => exact absurd HA.out (by simp [impl_IsBall.j0])
  | succ kj2 =>
   have H := HA.out
   clear HA
   simp only [impl_IsBall.j0] at H
   by_cases c13 : x24_2 = true
   ·subst c13
    have H1 : (some false) = some r := by rw [if_pos rfl] at H; exact H
    clear H
    have H := H1
    clear H1
    obtain rfl := si_ H
    go_wp2
    repeat (go_quiet (fail); try go_wp2)
    go_ret
    exact ⟨es_, (bw_ HB).out⟩
   ·replace c13 := Bool.eq_false_iff.mpr c13
    subst c13
    have H1 : (if (wrap64 (a1_0 + a1_2)) ≤ 0 then (if a1_1 = 0 then (some (a1_2 == 0)) else (some false)) else (if a1_1 ≥ 0 then ((impl_power.f kj2 a0 (wrap64 (a1_0 + a1_2))).bind fun t302 => (if a1_1 < t302 then (if a1_2 = 0 then (some true) else (if a0 = 0 then (none) else (some ((Int.tmod a1_1 a0) != 0)))) else (some false))) else (some false))) = some r := by rw [if_neg (show ¬ (false = true) by decide)] at H; exact H
    clear H
    have H := H1
    clear H1
    by_cases c14 : (wrap64 (a1_0 + a1_2)) ≤ 0
    ·rw [if_pos c14] at H
     have c14b0 : decide ((wrap64 (a1_0 + a1_2)) ≤ 0) = true := decide_eq_true c14
     clear c14
     by_cases c15 : a1_1 = 0
     ·rw [if_pos c15] at H
      have c15b0 : (a1_1 == 0) = true := beq_iff_eq.mpr c15
      have c15b1 : (a1_1 != 0) = false := bne_eq_false_iff_eq.mpr c15
      clear c15
      obtain rfl := si_ H
      obtain ⟨hcz16_0, hcz16_1, hcz16_2, hfz16_0, hfz16_1, hfz16_2⟩ := ch3_ BK299
      go_wp2
      repeat (go_quiet (fail); try go_wp2)
      go_ret
      exact ⟨es_, (bw_ HB).out⟩
     ·rw [if_neg c15] at H
      have c15b0 : (a1_1 == 0) = false := beq_eq_false_iff_ne.mpr c15
      have c15b1 : (a1_1 != 0) = true := bne_iff_ne.mpr c15
      obtain rfl := si_ H
      obtain ⟨hcz17_0, hcz17_1, hcz17_2, hfz17_0, hfz17_1, hfz17_2⟩ := ch3_ BK299
      go_wp2
      repeat (go_quiet (fail); try go_wp2)
      go_ret
      exact ⟨es_, (bw_ HB).out⟩
    ·rw [if_neg c14] at H
     have c14b0 : decide ((wrap64 (a1_0 + a1_2)) ≤ 0) = false := decide_eq_false c14
     clear c14
     by_cases c18 : a1_1 ≥ 0
     ·rw [if_pos c18] at H
      have c18b0 : decide (0 ≤ a1_1) = true := decide_eq_true c18
      clear c18
      replace H := ob_ H
      obtain ⟨t302, A190, H⟩ := H
      have A19 := Aside0.mk A190
      clear A190
      by_cases c20 : a1_1 < t302
      ·rw [if_pos c20] at H
       have c20b0 : decide (a1_1 < t302) = true := decide_eq_true c20
       clear c20
       by_cases c21 : a1_2 = 0
       ·rw [if_pos c21] at H
        have c21b0 : (a1_2 == 0) = true := beq_iff_eq.mpr c21
        have c21b1 : (a1_2 != 0) = false := bne_eq_false_iff_eq.mpr c21
        clear c21
        obtain rfl := si_ H
        obtain ⟨hcz22_0, hcz22_1, hcz22_2, hfz22_0, hfz22_1, hfz22_2⟩ := ch3_ BK299
        go_wp2_with (first | (go_at_call 152; (with_reducible refine (impl_power.calls kj2 a0 (wrap64 (a1_0 + a1_2)) t302 _ A19.out).mono ?_); rintro e w' ⟨rfl, ⟨nd, rfl⟩⟩; (try exact dd_)))
        repeat (go_quiet (first | (go_at_call 152; (with_reducible refine (impl_power.calls kj2 a0 (wrap64 (a1_0 + a1_2)) t302 _ A19.out).mono ?_); rintro e w' ⟨rfl, ⟨nd, rfl⟩⟩; (try exact dd_))); try go_wp2_with (first | (go_at_call 152; (with_reducible refine (impl_power.calls kj2 a0 (wrap64 (a1_0 + a1_2)) t302 _ A19.out).mono ?_); rintro e w' ⟨rfl, ⟨nd, rfl⟩⟩; (try exact dd_))))
        go_ret
        exact ⟨es_, (bw_ HB).out⟩
       ·rw [if_neg c21] at H
        have c21b0 : (a1_2 == 0) = false := beq_eq_false_iff_ne.mpr c21
        have c21b1 : (a1_2 != 0) = true := bne_iff_ne.mpr c21
        by_cases c23 : a0 = 0
        ·rw [if_pos c23] at H
         exact absurd H (by simp)
        ·rw [if_neg c23] at H
         have c23b0 : (a0 == 0) = false := beq_eq_false_iff_ne.mpr c23
         have c23b1 : (a0 != 0) = true := bne_iff_ne.mpr c23
         obtain rfl := si_ H
         obtain ⟨hcz24_0, hcz24_1, hcz24_2, hfz24_0, hfz24_1, hfz24_2⟩ := ch3_ BK299
         go_wp2_with (first | (go_at_call 152; (with_reducible refine (impl_power.calls kj2 a0 (wrap64 (a1_0 + a1_2)) t302 _ A19.out).mono ?_); rintro e w' ⟨rfl, ⟨nd, rfl⟩⟩; (try exact dd_)))
         repeat (go_quiet (first | (go_at_call 152; (with_reducible refine (impl_power.calls kj2 a0 (wrap64 (a1_0 + a1_2)) t302 _ A19.out).mono ?_); rintro e w' ⟨rfl, ⟨nd, rfl⟩⟩; (try exact dd_))); try go_wp2_with (first | (go_at_call 152; (with_reducible refine (impl_power.calls kj2 a0 (wrap64 (a1_0 + a1_2)) t302 _ A19.out).mono ?_); rintro e w' ⟨rfl, ⟨nd, rfl⟩⟩; (try exact dd_))))
         go_ret
         exact ⟨es_, (bw_ HB).out⟩
      ·rw [if_neg c20] at H
       have c20b0 : decide (a1_1 < t302) = false := decide_eq_false c20
       clear c20
       obtain rfl := si_ H
       obtain ⟨hcz25_0, hcz25_1, hcz25_2, hfz25_0, hfz25_1, hfz25_2⟩ := ch3_ BK299
       go_wp2_with (first | (go_at_call 152; (with_reducible refine (impl_power.calls kj2 a0 (wrap64 (a1_0 + a1_2)) t302 _ A19.out).mono ?_); rintro e w' ⟨rfl, ⟨nd, rfl⟩⟩; (try exact dd_)))
       repeat (go_quiet (first | (go_at_call 152; (with_reducible refine (impl_power.calls kj2 a0 (wrap64 (a1_0 + a1_2)) t302 _ A19.out).mono ?_); rintro e w' ⟨rfl, ⟨nd, rfl⟩⟩; (try exact dd_))); try go_wp2_with (first | (go_at_call 152; (with_reducible refine (impl_power.calls kj2 a0 (wrap64 (a1_0 + a1_2)) t302 _ A19.out).mono ?_); rintro e w' ⟨rfl, ⟨nd, rfl⟩⟩; (try exact dd_))))
       go_ret
       exact ⟨es_, (bw_ HB).out⟩
     ·rw [if_neg c18] at H
      have c18b0 : decide (0 ≤ a1_1) = false := decide_eq_false c18
      clear c18
      obtain rfl := si_ H
      obtain ⟨hcz26_0, hcz26_1, hcz26_2, hfz26_0, hfz26_1, hfz26_2⟩ := ch3_ BK299
      go_wp2
      repeat (go_quiet (fail); try go_wp2)
      go_ret
      exact ⟨es_, (bw_ HB).out⟩
/-! ### impl_areSides: function 165 -/
def impl_areSides.l0 : Nat → Int → List (S59) → Int → Int → Option (Bool)
 | 0, _, _, _, _ => none
 | k + 1, x0, x7, x8, x9 => if x9 < x8 then (if 0 ≤ x9 then (if x9 < (x7.length : Int) then ((impl_IsBall.f k x0 ((rd_T59 x7 x9).f0.f0) ((rd_T59 x7 x9).f0.f1) ((rd_T59 x7 x9).f0.f2)).bind fun t305 => (if t305 = true then (impl_areSides.l0 k x0 x7 x8 (wrap64 (x9 + 1))) else (some false))) else (none)) else (none)) else ((impl_isPrime.f x0).bind fun t306 => (some t306))
def impl_areSides.f (k : Nat) (a0 : Int) (l1 : List (S59)) : Option (Bool) := impl_areSides.l0 k a0 l1 (l1.length : Int) 0
theorem impl_areSides.calls (k : Nat) (a0 : Int) (A1 : Option Addr) (c1 : Nat) (l1 : List (S59)) (r : Bool) (w : World) (hr1 : Kd.C k59 w A1 l1.length l1) (hc1 : l1.length ≤ c1) (h : impl_areSides.f k a0 l1 = some r) :
  Calls Try.prog 165 #[.int .i64 a0, .slice A1 l1.length c1] w fun e w' => e = .returned (.bool r) ∧ Below w.heap.size w w' := by
 have hu59 := Try.underlying59
 have hu39 := Try.underlying39
 have HR1 := Aside0.mk hr1
 have HC1 := Aside0.mk hc1
 clear hr1 hc1
 have HB := Aside0.mk (Below.refl w.heap.size w)
 have H : (impl_areSides.l0 k a0 l1 (l1.length : Int) 0) = some r := h
 clear h
 have H' := Aside0.mk H
 clear H
 go_enter Try.func165, Try.ntmps165
 go_wp2
 go_loopg [9] k (fun kq v9 w' => ∃ (x9_1 : Int), v9 = .int .i64 x9_1 ∧ Aside0 (impl_areSides.l0 kq a0 l1 (l1.length : Int) x9_1 = some r) ∧ Aside0 (kq ≤ k) ∧ Aside0 (Below w.heap.size w w'))
 case atStart => exact ⟨(0), en_, H', ⟨Nat.le_refl _⟩, bw_ HB⟩
 case round =>
  clear H'
  try clear c1
  try clear p2
  obtain ⟨x9_1, rfl, HA, HK1, HB⟩ := hrel
  cases gk with
  | zero => exact absurd HA.out (by simp [impl_areSides.l0])
  | succ k1 =>
   have H := HA.out
   clear HA
   simp only [impl_areSides.l0] at H
   by_cases c3 : x9_1 < (l1.length : Int)
   ·rw [if_pos c3] at H
    have c3b0 : decide (x9_1 < (l1.length : Int)) = true := decide_eq_true c3
    clear c3
    by_cases c4 : 0 ≤ x9_1
    ·rw [if_pos c4] at H
     have c4b0 : decide (0 ≤ x9_1) = true := decide_eq_true c4
     clear c4
     by_cases c5 : x9_1 < (l1.length : Int)
     ·rw [if_pos c5] at H
      have c5b0 : decide (x9_1 < (l1.length : Int)) = true := decide_eq_true c5
      clear c5
      replace H := ob_ H
      obtain ⟨t305, A60, H⟩ := H
      have A6 := Aside0.mk A60
      clear A60
      by_cases c7 : t305 = true
      ·subst c7
       have H1 : (impl_areSides.l0 k1 a0 l1 (l1.length : Int) (wrap64 (x9_1 + 1))) = some r := by rw [if_pos rfl] at H; exact H
       clear H
       have H := H1
       clear H1
       have H' := Aside0.mk H
       clear H
       have p303 : 0 ≤ (x9_1 : Int) := od_
       have q303 : x9_1 < (l1.length : Int) := od_
       obtain ⟨ad303, e303, hx303_0, hx303_1, hx303_2, hx303_3⟩ := at_T59 HR1.out x9_1 p303 q303
       cases e303
       replace hx303_0 := clTr HB.out hx303_0
       replace hx303_1 := clTr HB.out hx303_1
       replace hx303_2 := clTr HB.out hx303_2
       replace hx303_3 := clTr HB.out hx303_3
       replace p303 := eq_true p303
       replace q303 := eq_true q303
       go_wp2_with (first | (refine bx_ 6 #[.int .i64 0, .int .i64 0, .int .i64 0, .bool false] 59 ?_; intro gb304 hg w8 hbox hb; have BK304 := Aside0.mk (hbox); have GW304 := bs_ HB hg; have GE304 := bs_ HB hg; replace HB := bt_ HB hb; clear hb hbox hg; obtain ⟨hcz9_0, hcz9_1, hcz9_2, hcz9_3, hfz9_0, hfz9_1, hfz9_2, hfz9_3⟩ := ch4_ BK304) | (refine ge_ 16 Try.func85 #[.int .i64 a0, .agg #[.int .i64 ((rd_T59 l1 x9_1).f0.f0), .int .i64 ((rd_T59 l1 x9_1).f0.f1), .int .i64 ((rd_T59 l1 x9_1).f0.f2)]] ?_; (with_reducible refine (impl_IsBall.calls k1 a0 ((rd_T59 l1 x9_1).f0.f0) ((rd_T59 l1 x9_1).f0.f1) ((rd_T59 l1 x9_1).f0.f2) true _ A6.out).mono ?_); rintro e w10 ⟨rfl, hb⟩; refine ⟨_, rfl, ?_⟩; replace BK304 := Aside0.mk (blk_below (g := gb304) (o := .cells #[.int .i64 ((rd_T59 l1 x9_1).f0.f0), .int .i64 ((rd_T59 l1 x9_1).f0.f1), .int .i64 ((rd_T59 l1 x9_1).f0.f2), .bool ((rd_T59 l1 x9_1).f1)] 59 (0, 0)) (bp_ BK304).out hb); replace HB := bt_ HB hb; (try clear hb); (try clear hb2); (try clear hk); (try clear hi)))
       go_roundg k1
       case measure => have := HK1.out; omega
       case rel => exact ⟨(wrap64 (x9_1 + 1)), en_, H', ⟨by have := HK1.out; omega⟩, bw_ HB⟩
      ·replace c7 := Bool.eq_false_iff.mpr c7
       subst c7
       have H1 : (some false) = some r := by rw [if_neg (show ¬ (false = true) by decide)] at H; exact H
       clear H
       have H := H1
       clear H1
       obtain rfl := si_ H
       have p303 : 0 ≤ (x9_1 : Int) := od_
       have q303 : x9_1 < (l1.length : Int) := od_
       obtain ⟨ad303, e303, hx303_0, hx303_1, hx303_2, hx303_3⟩ := at_T59 HR1.out x9_1 p303 q303
       cases e303
       replace hx303_0 := clTr HB.out hx303_0
       replace hx303_1 := clTr HB.out hx303_1
       replace hx303_2 := clTr HB.out hx303_2
       replace hx303_3 := clTr HB.out hx303_3
       replace p303 := eq_true p303
       replace q303 := eq_true q303
       go_wp2_with (first | (refine bx_ 6 #[.int .i64 0, .int .i64 0, .int .i64 0, .bool false] 59 ?_; intro gb304 hg w11 hbox hb; have BK304 := Aside0.mk (hbox); have GW304 := bs_ HB hg; have GE304 := bs_ HB hg; replace HB := bt_ HB hb; clear hb hbox hg; obtain ⟨hcz12_0, hcz12_1, hcz12_2, hcz12_3, hfz12_0, hfz12_1, hfz12_2, hfz12_3⟩ := ch4_ BK304) | (refine ge_ 16 Try.func85 #[.int .i64 a0, .agg #[.int .i64 ((rd_T59 l1 x9_1).f0.f0), .int .i64 ((rd_T59 l1 x9_1).f0.f1), .int .i64 ((rd_T59 l1 x9_1).f0.f2)]] ?_; (with_reducible refine (impl_IsBall.calls k1 a0 ((rd_T59 l1 x9_1).f0.f0) ((rd_T59 l1 x9_1).f0.f1) ((rd_T59 l1 x9_1).f0.f2) false _ A6.out).mono ?_); rintro e w13 ⟨rfl, hb⟩; refine ⟨_, rfl, ?_⟩; replace BK304 := Aside0.mk (blk_below (g := gb304) (o := .cells #[.int .i64 ((rd_T59 l1 x9_1).f0.f0), .int .i64 ((rd_T59 l1 x9_1).f0.f1), .int .i64 ((rd_T59 l1 x9_1).f0.f2), .bool ((rd_T59 l1 x9_1).f1)] 59 (0, 0)) (bp_ BK304).out hb); replace HB := bt_ HB hb; (try clear hb); (try clear hb2); (try clear hk); (try clear hi)))
       go_ret
       exact ⟨es_, (bw_ HB).out⟩
     ·rw [if_neg c5] at H
      exact absurd H (by simp)
    ·rw [if_neg c4] at H
     exact absurd H (by simp)
   ·rw [if_neg c3] at H
    have c3b0 : decide (x9_1 < (l1.length : Int)) = false := decide_eq_false c3
    clear c3
    replace H := ob_ H
    obtain ⟨t306, A140, H⟩ := H
    have A14 := Aside0.mk A140
    clear A140
    obtain rfl := si_ H
    go_wp2_with (first | (refine ge_ 20 Try.func97 #[.int .i64 a0] ?_; (with_reducible refine (impl_isPrime.calls a0 t306 _ A14.out).mono ?_); rintro e w' ⟨rfl, ⟨nd, rfl⟩⟩; refine ⟨_, rfl, ?_⟩))
    go_ret
    exact ⟨es_, (bw_ HB).out⟩
/-! ### impl_mark: function 167 -/
def impl_mark.f (k : Nat) (a0 : Int) (a1_0 : Int) (a1_1 : Int) (a1_2 : Int) : Option (Int) := (impl_power.f k a0 (wrap64 (6 - a1_2))).bind fun t308 => (some (wrap64 (a1_1 * t308)))
theorem impl_mark.calls (k : Nat) (a0 : Int) (a1_0 : Int) (a1_1 : Int) (a1_2 : Int) (r : Int) (w : World) (h : impl_mark.f k a0 a1_0 a1_1 a1_2 = some r) :
  Calls Try.prog 167 #[.int .i64 a0, .agg #[.int .i64 a1_0, .int .i64 a1_1, .int .i64 a1_2]] w fun e w' => e = .returned (.int .i64 r) ∧ Below w.heap.size w w' := by
 have hu39 := Try.underlying39
 have HB := Aside0.mk (Below.refl w.heap.size w)
 have H : ((impl_power.f k a0 (wrap64 (6 - a1_2))).bind fun t308 => (some (wrap64 (a1_1 * t308)))) = some r := h
 clear h
 replace H := ob_ H
 obtain ⟨t308, A30, H⟩ := H
 have A3 := Aside0.mk A30
 clear A30
 obtain rfl := si_ H
 go_enter Try.func167, Try.ntmps167
 go_wp2_with (first | (refine bx_ 3 #[.int .i64 a1_0, .int .i64 a1_1, .int .i64 a1_2] 39 ?_; intro gb307 hg w4 hbox hb; have BK307 := Aside0.mk (hbox); have GW307 := bs_ HB hg; have GE307 := bs_ HB hg; replace HB := bt_ HB hb; clear hb hbox hg; obtain ⟨hcz5_0, hcz5_1, hcz5_2, hfz5_0, hfz5_1, hfz5_2⟩ := ch3_ BK307) | (go_at_call 152; (with_reducible refine (impl_power.calls k a0 (wrap64 (6 - a1_2)) t308 _ A3.out).mono ?_); rintro e w' ⟨rfl, ⟨nd, rfl⟩⟩; (try exact dd_)))
 repeat (go_quiet (first | (refine bx_ 3 #[.int .i64 a1_0, .int .i64 a1_1, .int .i64 a1_2] 39 ?_; intro gb307 hg w4 hbox hb; have BK307 := Aside0.mk (hbox); have GW307 := bs_ HB hg; have GE307 := bs_ HB hg; replace HB := bt_ HB hb; clear hb hbox hg; obtain ⟨hcz5_0, hcz5_1, hcz5_2, hfz5_0, hfz5_1, hfz5_2⟩ := ch3_ BK307) | (go_at_call 152; (with_reducible refine (impl_power.calls k a0 (wrap64 (6 - a1_2)) t308 _ A3.out).mono ?_); rintro e w' ⟨rfl, ⟨nd, rfl⟩⟩; (try exact dd_))); try go_wp2_with (first | (refine bx_ 3 #[.int .i64 a1_0, .int .i64 a1_1, .int .i64 a1_2] 39 ?_; intro gb307 hg w4 hbox hb; have BK307 := Aside0.mk (hbox); have GW307 := bs_ HB hg; have GE307 := bs_ HB hg; replace HB := bt_ HB hb; clear hb hbox hg; obtain ⟨hcz5_0, hcz5_1, hcz5_2, hfz5_0, hfz5_1, hfz5_2⟩ := ch3_ BK307) | (go_at_call 152; (with_reducible refine (impl_power.calls k a0 (wrap64 (6 - a1_2)) t308 _ A3.out).mono ?_); rintro e w' ⟨rfl, ⟨nd, rfl⟩⟩; (try exact dd_))))
 go_ret
 exact ⟨es_, (bw_ HB).out⟩
/-! ### impl_valuation: function 168 -/
def impl_valuation.l0 : Nat → Int → Int → Int → Option (Int)
 | 0, _, _, _ => none
 | k + 1, x0, x1, x5 => if x0 = 0 then (none) else (if (Int.tmod x1 x0) = 0 then (impl_valuation.l0 k x0 (wrap64 (Int.tdiv x1 x0)) (wrap64 (x5 + 1))) else (some x5))
def impl_valuation.f (k : Nat) (a0 : Int) (a1 : Int) : Option (Int) := if a1 = 0 then (some 1000) else (impl_valuation.l0 k a0 a1 0)
theorem impl_valuation.calls (k : Nat) (a0 : Int) (a1 : Int) (r : Int) (w : World) (h : impl_valuation.f k a0 a1 = some r) :
  Calls Try.prog 168 #[.int .i64 a0, .int .i64 a1] w fun e w' => e = .returned (.int .i64 r) ∧ Drawn0 w w' := by
 have H : (if a1 = 0 then (some 1000) else (impl_valuation.l0 k a0 a1 0)) = some r := h
 clear h
 by_cases c3 : a1 = 0
 ·rw [if_pos c3] at H
  have c3b0 : (a1 == 0) = true := beq_iff_eq.mpr c3
  have c3b1 : (a1 != 0) = false := bne_eq_false_iff_eq.mpr c3
  clear c3
  obtain rfl := si_ H
  go_enter Try.func168, Try.ntmps168
  go_wp2
  go_ret
  exact ⟨en_, de_⟩
 ·rw [if_neg c3] at H
  have c3b0 : (a1 == 0) = false := beq_eq_false_iff_ne.mpr c3
  have c3b1 : (a1 != 0) = true := bne_iff_ne.mpr c3
  have H' := Aside0.mk H
  clear H
  go_enter Try.func168, Try.ntmps168
  go_wp2
  go_loopg [1, 5] k (fun kq v1 v5 w' => ∃ (x1_1 : Int) (x5_1 : Int), v1 = .int .i64 x1_1 ∧ v5 = .int .i64 x5_1 ∧ Aside0 (impl_valuation.l0 kq a0 x1_1 x5_1 = some r) ∧ Aside0 (kq ≤ k) ∧ Drawn0 w w')
  case atStart => exact ⟨(a1), (0), en_, en_, H', ⟨Nat.le_refl _⟩, de_⟩
  case round =>
   clear H'
   try clear c1
   try clear p2
   try clear c3
   try clear c3b0
   try clear c3b1
   obtain ⟨x1_1, x5_1, rfl, rfl, HA, HK1, ⟨m1, rfl⟩⟩ := hrel
   cases gk with
   | zero => exact absurd HA.out (by simp [impl_valuation.l0])
   | succ k1 =>
    have H := HA.out
    clear HA
    simp only [impl_valuation.l0] at H
    by_cases c4 : a0 = 0
    ·rw [if_pos c4] at H
     exact absurd H (by simp)
    ·rw [if_neg c4] at H
     have c4b0 : (a0 == 0) = false := beq_eq_false_iff_ne.mpr c4
     have c4b1 : (a0 != 0) = true := bne_iff_ne.mpr c4
     by_cases c5 : (Int.tmod x1_1 a0) = 0
     ·rw [if_pos c5] at H
      have c5b0 : ((Int.tmod x1_1 a0) == 0) = true := beq_iff_eq.mpr c5
      have c5b1 : ((Int.tmod x1_1 a0) != 0) = false := bne_eq_false_iff_eq.mpr c5
      clear c5
      have H' := Aside0.mk H
      clear H
      go_wp2
      go_roundg k1
      case measure => have := HK1.out; omega
      case rel => exact ⟨(wrap64 (Int.tdiv x1_1 a0)), (wrap64 (x5_1 + 1)), en_, en_, H', ⟨by have := HK1.out; omega⟩, de_⟩
     ·rw [if_neg c5] at H
      have c5b0 : ((Int.tmod x1_1 a0) == 0) = false := beq_eq_false_iff_ne.mpr c5
      have c5b1 : ((Int.tmod x1_1 a0) != 0) = true := bne_iff_ne.mpr c5
      obtain rfl := si_ H
      go_wp2
      go_ret
      exact ⟨en_, de_⟩
/-! ### impl_mod: function 203 -/
def impl_mod.f (a0 : Int) (a1 : Int) : Option (Int) := if a1 = 0 then (none) else (some (Int.tmod (wrap64 ((Int.tmod a0 a1) + a1)) a1))
theorem impl_mod.calls (a0 : Int) (a1 : Int) (r : Int) (w : World) (h : impl_mod.f a0 a1 = some r) :
  Calls Try.prog 203 #[.int .i64 a0, .int .i64 a1] w fun e w' => e = .returned (.int .i64 r) ∧ Drawn0 w w' := by
 have H : (if a1 = 0 then (none) else (some (Int.tmod (wrap64 ((Int.tmod a0 a1) + a1)) a1))) = some r := h
 clear h
 by_cases c3 : a1 = 0
 ·rw [if_pos c3] at H
  exact absurd H (by simp)
 ·rw [if_neg c3] at H
  have c3b0 : (a1 == 0) = false := beq_eq_false_iff_ne.mpr c3
  have c3b1 : (a1 != 0) = true := bne_iff_ne.mpr c3
  obtain rfl := si_ H
  go_enter Try.func203, Try.ntmps203
  go_wp2
  go_ret
  exact ⟨en_, de_⟩
end Go.Proofs.Ytbilincmcnnonaa.QS
