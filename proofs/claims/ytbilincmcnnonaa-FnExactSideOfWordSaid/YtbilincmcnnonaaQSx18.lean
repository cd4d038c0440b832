import Derived.Test.YtbilincmcnnonaaQSx8
import Derived.Test.YtbilincmcnnonaaQSx13
namespace Go.Proofs.Ytbilincmcnnonaa.QS
set_option maxHeartbeats 8000000
set_option maxRecDepth 100000
open Go.RowKit Go.Proofs.YtbilincmcnnonaaW.PrintWords Go.Proofs.YtbilincmcnnonaaW.PrintLast Go.Proofs.YtbilincmcnnonaaW.PrintMore
attribute [local go_sem] isSome_setCell max2_int min2_int max_two min_two max_three min_three max_four min_four
set_option linter.unusedVariables false
set_option linter.unusedSimpArgs false

/-! ### spec_l09Word: function 112 -/
mutual
def spec_l09Word.j0 : Nat → Int → List Int → Bool → Option (Bool)
 | 0, _, _, _ => none
 | k + 1, x0, x1, x13 => if x13 = true then (some false) else (spec_l09Word.l0 k x0 x1 0)
def spec_l09Word.l0 : Nat → Int → List Int → Int → Option (Bool)
 | 0, _, _, _ => none
 | k + 1, x0, x1, x5 => if x5 < (x1.length : Int) then (if 0 ≤ x5 then (if (rd x1 x5) = 0 then (some false) else ((spec_l01In.f (rd x1 x5) (wrap64 (-x0)) x0).bind fun t123 => (if t123 = true then (spec_l09Word.l0 k x0 x1 (wrap64 (x5 + 1))) else (some false)))) else (none)) else (some true)
end
def spec_l09Word.f (k : Nat) (a0 : Int) (l1 : List Int) : Option (Bool) := (spec_l01In.f a0 1 4).bind fun t120 => (if t120 = true then (spec_l09Word.j0 k a0 l1 (decide ((l1.length : Int) > 12))) else (spec_l09Word.j0 k a0 l1 true))
theorem spec_l09Word.calls (k : Nat) (a0 : Int) (A1 : Option Addr) (c1 : Nat) (l1 : List Int) (r : Bool) (w : World) (hr1 : Kd.C (Kd.int .i64) w A1 l1.length l1) (hc1 : l1.length ≤ c1) (h : spec_l09Word.f k a0 l1 = some r) :
  Calls Try.prog 112 #[.int .i64 a0, .slice A1 l1.length c1] w fun e w' => e = .returned (.bool r) ∧ Drawn0 w w' := by
 have HR1 := Aside0.mk hr1
 have HC1 := Aside0.mk hc1
 clear hr1 hc1
 have H : ((spec_l01In.f a0 1 4).bind fun t120 => (if t120 = true then (spec_l09Word.j0 k a0 l1 (decide ((l1.length : Int) > 12))) else (spec_l09Word.j0 k a0 l1 true))) = some r := h
 clear h
 have HC3 := Aside0.mk H
 clear H
 go_enter Try.func112, Try.ntmps112
 go_upto_region 1 with (fail)
 go_cut [13] (fun v13 wc => ∃ (kq : Nat) (x13_2 : Bool), v13 = .bool x13_2 ∧ Aside0 (spec_l09Word.j0 kq a0 l1 x13_2 = some r) ∧ Aside0 (kq ≤ k) ∧ Drawn0 w wc)
 case first =>
  have H := HC3.out
  clear HC3
  replace H := ob_ H
  obtain ⟨t120, A40, H⟩ := H
  have A4 := Aside0.mk A40
  clear A40
  by_cases c5 : t120 = true
  ·subst c5
   have H1 : (spec_l09Word.j0 k a0 l1 (decide ((l1.length : Int) > 12))) = some r := by rw [if_pos rfl] at H; exact H
   clear H
   have H := H1
   clear H1
   have H' := Aside0.mk H
   clear H
   go_wp2_with (first | (refine ge_ 7 Try.func82 #[.int .i64 a0, .int .i64 1, .int .i64 4] ?_; (with_reducible refine (spec_l01In.calls a0 1 4 true _ A4.out).mono ?_); rintro e w' ⟨rfl, ⟨nd, rfl⟩⟩; refine ⟨_, rfl, ?_⟩))
   go_meet
   case rel => exact ⟨_, (decide ((l1.length : Int) > 12)), en_, H', ⟨by first | omega | exact Nat.le_refl _⟩, de_⟩
  ·replace c5 := Bool.eq_false_iff.mpr c5
   subst c5
   have H1 : (spec_l09Word.j0 k a0 l1 true) = some r := by rw [if_neg (show ¬ (false = true) by decide)] at H; exact H
   clear H
   have H := H1
   clear H1
   have H' := Aside0.mk H
   clear H
   go_wp2_with (first | (refine ge_ 7 Try.func82 #[.int .i64 a0, .int .i64 1, .int .i64 4] ?_; (with_reducible refine (spec_l01In.calls a0 1 4 false _ A4.out).mono ?_); rintro e w' ⟨rfl, ⟨nd, rfl⟩⟩; refine ⟨_, rfl, ?_⟩))
   go_meet
   case rel => exact ⟨_, (true), en_, H', ⟨by first | omega | exact Nat.le_refl _⟩, de_⟩
 case rest =>
  clear HC3
  try clear c1
  try clear p2
  try clear c5
  obtain ⟨kq, x13_2, rfl, HA, HJ2, ⟨mc2, rfl⟩⟩ := hcut
  cases kq with
  | zero => exact absurd HA.out (by simp [spec_l09Word.j0])
  | succ kj2 =>
   have H := HA.out
   clear HA
   simp only [spec_l09Word.j0] at H
   by_cases c6 : x13_2 = true
   ·subst c6
    have H1 : (some false) = some r := by rw [if_pos rfl] at H; exact H
    clear H
    have H := H1
    clear H1
    obtain rfl := si_ H
    go_wp2
    go_ret
    exact ⟨en_, de_⟩
   ·replace c6 := Bool.eq_false_iff.mpr c6
    subst c6
    have H1 : (spec_l09Word.l0 kj2 a0 l1 0) = some r := by rw [if_neg (show ¬ (false = true) by decide)] at H; exact H
    clear H
    have H := H1
    clear H1
    have H' := Aside0.mk H
    clear H
    go_wp2
    go_loopg [5] kj2 (fun kq v5 w' => ∃ (x5_2 : Int), v5 = .int .i64 x5_2 ∧ Aside0 (spec_l09Word.l0 kq a0 l1 x5_2 = some r) ∧ Aside0 (kq ≤ kj2) ∧ Drawn0 w w')
    case atStart => exact ⟨(0), en_, H', ⟨Nat.le_refl _⟩, de_⟩
    case round =>
     clear H'
     try clear c1
     try clear c2
     try clear p2
     try clear c5
     try clear c6
     try clear p2
     obtain ⟨x5_2, rfl, HA, HK2, ⟨m2, rfl⟩⟩ := hrel
     cases gk with
     | zero => exact absurd HA.out (by simp [spec_l09Word.l0])
     | succ k2 =>
      have H := HA.out
      clear HA
      simp only [spec_l09Word.l0] at H
      by_cases c7 : x5_2 < (l1.length : Int)
      ·rw [if_pos c7] at H
       have c7b0 : decide (x5_2 < (l1.length : Int)) = true := decide_eq_true c7
       clear c7
       by_cases c8 : 0 ≤ x5_2
       ·rw [if_pos c8] at H
        have c8b0 : decide (0 ≤ x5_2) = true := decide_eq_true c8
        clear c8
        by_cases c9 : (rd l1 x5_2) = 0
        ·rw [if_pos c9] at H
         have c9b0 : ((rd l1 x5_2) == 0) = true := beq_iff_eq.mpr c9
         have c9b1 : ((rd l1 x5_2) != 0) = false := bne_eq_false_iff_eq.mpr c9
         clear c9
         obtain rfl := si_ H
         have p121 : 0 ≤ (x5_2 : Int) := od_
         have q121 : x5_2 < (l1.length : Int) := od_
         obtain ⟨ad121, e121, hx121_0⟩ := Kd.at_int HR1.out x5_2 p121 q121
         cases e121
         replace p121 := eq_true p121
         replace q121 := eq_true q121
         go_wp2
         go_ret
         exact ⟨en_, de_⟩
        ·rw [if_neg c9] at H
         have c9b0 : ((rd l1 x5_2) == 0) = false := beq_eq_false_iff_ne.mpr c9
         have c9b1 : ((rd l1 x5_2) != 0) = true := bne_iff_ne.mpr c9
         replace H := ob_ H
         obtain ⟨t123, A100, H⟩ := H
         have A10 := Aside0.mk A100
         clear A100
         by_cases c11 : t123 = true
         ·subst c11
          have H1 : (spec_l09Word.l0 k2 a0 l1 (wrap64 (x5_2 + 1))) = some r := by rw [if_pos rfl] at H; exact H
          clear H
          have H := H1
          clear H1
          have H' := Aside0.mk H
          clear H
          have p121 : 0 ≤ (x5_2 : Int) := od_
          have q121 : x5_2 < (l1.length : Int) := od_
          obtain ⟨ad121, e121, hx121_0⟩ := Kd.at_int HR1.out x5_2 p121 q121
          cases e121
          replace p121 := eq_true p121
          replace q121 := eq_true q121
          have p122 : 0 ≤ (x5_2 : Int) := od_
          have q122 : x5_2 < (l1.length : Int) := od_
          obtain ⟨ad122, e122, hx122_0⟩ := Kd.at_int HR1.out x5_2 p122 q122
          obtain rfl : ad121 = ad122 := (by injection e122)
          replace p122 := eq_true p122
          replace q122 := eq_true q122
          go_wp2_with (first | (go_at_call 82; (with_reducible refine (spec_l01In.calls (rd l1 x5_2) (wrap64 (-a0)) a0 true _ A10.out).mono ?_); rintro e w' ⟨rfl, ⟨nd, rfl⟩⟩))
          go_roundg k2
          case measure => have := HJ2.out; have := HK2.out; omega
          case rel => exact ⟨(wrap64 (x5_2 + 1)), en_, H', ⟨by have := HJ2.out; have := HK2.out; omega⟩, de_⟩
         ·replace c11 := Bool.eq_false_iff.mpr c11
          subst c11
          have H1 : (some false) = some r := by rw [if_neg (show ¬ (false = true) by decide)] at H; exact H
          clear H
          have H := H1
          clear H1
          obtain rfl := si_ H
          have p121 : 0 ≤ (x5_2 : Int) := od_
          have q121 : x5_2 < (l1.length : Int) := od_
          obtain ⟨ad121, e121, hx121_0⟩ := Kd.at_int HR1.out x5_2 p121 q121
          cases e121
          replace p121 := eq_true p121
          replace q121 := eq_true q121
          have p122 : 0 ≤ (x5_2 : Int) := od_
          have q122 : x5_2 < (l1.length : Int) := od_
          obtain ⟨ad122, e122, hx122_0⟩ := Kd.at_int HR1.out x5_2 p122 q122
          obtain rfl : ad121 = ad122 := (by injection e122)
          replace p122 := eq_true p122
          replace q122 := eq_true q122
          go_wp2_with (first | (go_at_call 82; (with_reducible refine (spec_l01In.calls (rd l1 x5_2) (wrap64 (-a0)) a0 false _ A10.out).mono ?_); rintro e w' ⟨rfl, ⟨nd, rfl⟩⟩))
          go_ret
          exact ⟨en_, de_⟩
       ·rw [if_neg c8] at H
        exact absurd H (by simp)
      ·rw [if_neg c7] at H
       have c7b0 : decide (x5_2 < (l1.length : Int)) = false := decide_eq_false c7
       clear c7
       obtain rfl := si_ H
       go_wp2
       go_ret
       exact ⟨en_, de_⟩
/-! ### spec_l01Val: function 163 -/
def spec_l01Val.l0 : Nat → Int → Int → Int → Option (Int)
 | 0, _, _, _ => none
 | k + 1, x0, x1, x5 => if x0 = 0 then (none) else (if (Int.tmod x1 x0) = 0 then (spec_l01Val.l0 k x0 (wrap64 (Int.tdiv x1 x0)) (wrap64 (x5 + 1))) else (some x5))
def spec_l01Val.f (k : Nat) (a0 : Int) (a1 : Int) : Option (Int) := spec_l01Val.l0 k a0 a1 0
theorem spec_l01Val.calls (k : Nat) (a0 : Int) (a1 : Int) (r : Int) (w : World) (h : spec_l01Val.f k a0 a1 = some r) :
  Calls Try.prog 163 #[.int .i64 a0, .int .i64 a1] w fun e w' => e = .returned (.int .i64 r) ∧ Drawn0 w w' := by
 have H : (spec_l01Val.l0 k a0 a1 0) = some r := h
 clear h
 have H' := Aside0.mk H
 clear H
 go_enter Try.func163, Try.ntmps163
 go_wp2
 go_loopg [1, 5] k (fun kq v1 v5 w' => ∃ (x1_1 : Int) (x5_1 : Int), v1 = .int .i64 x1_1 ∧ v5 = .int .i64 x5_1 ∧ Aside0 (spec_l01Val.l0 kq a0 x1_1 x5_1 = some r) ∧ Aside0 (kq ≤ k) ∧ Drawn0 w w')
 case atStart => exact ⟨(a1), (0), en_, en_, H', ⟨Nat.le_refl _⟩, de_⟩
 case round =>
  clear H'
  try clear c1
  try clear p2
  obtain ⟨x1_1, x5_1, rfl, rfl, HA, HK1, ⟨m1, rfl⟩⟩ := hrel
  cases gk with
  | zero => exact absurd HA.out (by simp [spec_l01Val.l0])
  | succ k1 =>
   have H := HA.out
   clear HA
   simp only [spec_l01Val.l0] at H
   by_cases c3 : a0 = 0
   ·rw [if_pos c3] at H
    exact absurd H (by simp)
   ·rw [if_neg c3] at H
    have c3b0 : (a0 == 0) = false := beq_eq_false_iff_ne.mpr c3
    have c3b1 : (a0 != 0) = true := bne_iff_ne.mpr c3
    by_cases c4 : (Int.tmod x1_1 a0) = 0
    ·rw [if_pos c4] at H
     have c4b0 : ((Int.tmod x1_1 a0) == 0) = true := beq_iff_eq.mpr c4
     have c4b1 : ((Int.tmod x1_1 a0) != 0) = false := bne_eq_false_iff_eq.mpr c4
     clear c4
     have H' := Aside0.mk H
     clear H
     go_wp2
     go_roundg k1
     case measure => have := HK1.out; omega
     case rel => exact ⟨(wrap64 (Int.tdiv x1_1 a0)), (wrap64 (x5_1 + 1)), en_, en_, H', ⟨by have := HK1.out; omega⟩, de_⟩
    ·rw [if_neg c4] at H
     have c4b0 : ((Int.tmod x1_1 a0) == 0) = false := beq_eq_false_iff_ne.mpr c4
     have c4b1 : ((Int.tmod x1_1 a0) != 0) = true := bne_iff_ne.mpr c4
     obtain rfl := si_ H
     go_wp2
     go_ret
     exact ⟨en_, de_⟩
/-! ### spec_l01MulMod: function 190 -/
def spec_l01MulMod.f (a0 : Int) (a1 : Int) (a2 : Int) : Option (Int) := if a2 = 0 then (none) else (some (Int.tmod (wrap64 ((Int.tmod (wrap64 ((Int.tmod (wrap64 ((Int.tmod (wrap64 ((Int.tmod a0 a2) + a2)) a2) * (wrap64 (Int.tdiv (Int.tmod (wrap64 ((Int.tmod a1 a2) + a2)) a2) 1000000)))) a2) * 1000000)) a2) + (Int.tmod (wrap64 ((Int.tmod (wrap64 ((Int.tmod a0 a2) + a2)) a2) * (Int.tmod (Int.tmod (wrap64 ((Int.tmod a1 a2) + a2)) a2) 1000000))) a2))) a2))
theorem spec_l01MulMod.calls (a0 : Int) (a1 : Int) (a2 : Int) (r : Int) (w : World) (h : spec_l01MulMod.f a0 a1 a2 = some r) :
  Calls Try.prog 190 #[.int .i64 a0, .int .i64 a1, .int .i64 a2] w fun e w' => e = .returned (.int .i64 r) ∧ Drawn0 w w' := by
 have H : (if a2 = 0 then (none) else (some (Int.tmod (wrap64 ((Int.tmod (wrap64 ((Int.tmod (wrap64 ((Int.tmod (wrap64 ((Int.tmod a0 a2) + a2)) a2) * (wrap64 (Int.tdiv (Int.tmod (wrap64 ((Int.tmod a1 a2) + a2)) a2) 1000000)))) a2) * 1000000)) a2) + (Int.tmod (wrap64 ((Int.tmod (wrap64 ((Int.tmod a0 a2) + a2)) a2) * (Int.tmod (Int.tmod (wrap64 ((Int.tmod a1 a2) + a2)) a2) 1000000))) a2))) a2))) = some r := h
 clear h
 by_cases c4 : a2 = 0
 ·rw [if_pos c4] at H
  exact absurd H (by simp)
 ·rw [if_neg c4] at H
  have c4b0 : (a2 == 0) = false := beq_eq_false_iff_ne.mpr c4
  have c4b1 : (a2 != 0) = true := bne_iff_ne.mpr c4
  obtain rfl := si_ H
  go_enter Try.func190, Try.ntmps190
  go_wp2
  repeat (go_quiet (fail); try go_wp2)
  go_ret
  exact ⟨en_, de_⟩
/-! ### spec_l01InvMod: function 191 -/
def spec_l01InvMod.l0 : Nat → Int → Int → Int → Int → Int → Option (Int)
 | 0, _, _, _, _, _ => none
 | k + 1, x1, x5, x6, x7, x8 => if x6 = 0 then (if x1 = 0 then (none) else (some (Int.tmod (wrap64 ((Int.tmod x7 x1) + x1)) x1))) else (spec_l01InvMod.l0 k x1 x6 (wrap64 (x5 - (wrap64 ((wrap64 (Int.tdiv x5 x6)) * x6)))) x8 (wrap64 (x7 - (wrap64 ((wrap64 (Int.tdiv x5 x6)) * x8)))))
def spec_l01InvMod.f (k : Nat) (a0 : Int) (a1 : Int) : Option (Int) := if a1 = 0 then (none) else (spec_l01InvMod.l0 k a1 (Int.tmod (wrap64 ((Int.tmod a0 a1) + a1)) a1) a1 1 0)
theorem spec_l01InvMod.calls (k : Nat) (a0 : Int) (a1 : Int) (r : Int) (w : World) (h : spec_l01InvMod.f k a0 a1 = some r) :
  Calls Try.prog 191 #[.int .i64 a0, .int .i64 a1] w fun e w' => e = .returned (.int .i64 r) ∧ Drawn0 w w' := by
 have H : (if a1 = 0 then (none) else (spec_l01InvMod.l0 k a1 (Int.tmod (wrap64 ((Int.tmod a0 a1) + a1)) a1) a1 1 0)) = some r := h
 clear h
 by_cases c3 : a1 = 0
 ·rw [if_pos c3] at H
  exact absurd H (by simp)
 ·rw [if_neg c3] at H
  have c3b0 : (a1 == 0) = false := beq_eq_false_iff_ne.mpr c3
  have c3b1 : (a1 != 0) = true := bne_iff_ne.mpr c3
  have H' := Aside0.mk H
  clear H
  go_enter Try.func191, Try.ntmps191
  go_wp2
  go_loopg [5, 6, 7, 8] k (fun kq v5 v6 v7 v8 w' => ∃ (x5_1 : Int) (x6_1 : Int) (x7_1 : Int) (x8_1 : Int), v5 = .int .i64 x5_1 ∧ v6 = .int .i64 x6_1 ∧ v7 = .int .i64 x7_1 ∧ v8 = .int .i64 x8_1 ∧ Aside0 (spec_l01InvMod.l0 kq a1 x5_1 x6_1 x7_1 x8_1 = some r) ∧ Aside0 (kq ≤ k) ∧ Drawn0 w w')
  case atStart => exact ⟨(Int.tmod (wrap64 ((Int.tmod a0 a1) + a1)) a1), (a1), (1), (0), en_, en_, en_, en_, H', ⟨Nat.le_refl _⟩, de_⟩
  case round =>
   clear H'
   try clear c1
   try clear p2
   try clear c3
   try clear c3b0
   try clear c3b1
   obtain ⟨x5_1, x6_1, x7_1, x8_1, rfl, rfl, rfl, rfl, HA, HK1, ⟨m1, rfl⟩⟩ := hrel
   cases gk with
   | zero => exact absurd HA.out (by simp [spec_l01InvMod.l0])
   | succ k1 =>
    have H := HA.out
    clear HA
    simp only [spec_l01InvMod.l0] at H
    by_cases c4 : x6_1 = 0
    ·rw [if_pos c4] at H
     have c4b0 : (x6_1 == 0) = true := beq_iff_eq.mpr c4
     have c4b1 : (x6_1 != 0) = false := bne_eq_false_iff_eq.mpr c4
     clear c4
     by_cases c5 : a1 = 0
     ·rw [if_pos c5] at H
      exact absurd H (by simp)
     ·rw [if_neg c5] at H
      have c5b0 : (a1 == 0) = false := beq_eq_false_iff_ne.mpr c5
      have c5b1 : (a1 != 0) = true := bne_iff_ne.mpr c5
      obtain rfl := si_ H
      go_wp2
      go_ret
      exact ⟨en_, de_⟩
    ·rw [if_neg c4] at H
     have c4b0 : (x6_1 == 0) = false := beq_eq_false_iff_ne.mpr c4
     have c4b1 : (x6_1 != 0) = true := bne_iff_ne.mpr c4
     have H' := Aside0.mk H
     clear H
     go_wp2
     go_roundg k1
     case measure => have := HK1.out; omega
     case rel => exact ⟨(x6_1), (wrap64 (x5_1 - (wrap64 ((wrap64 (Int.tdiv x5_1 x6_1)) * x6_1)))), (x8_1), (wrap64 (x7_1 - (wrap64 ((wrap64 (Int.tdiv x5_1 x6_1)) * x8_1)))), en_, en_, en_, en_, H', ⟨by have := HK1.out; omega⟩, de_⟩
/-! ### spec_l01Of: function 157 -/
def spec_l01Of.f (k : Nat) (a0 : Int) (a1 : Int) (a2 : Int) (a3 : Int) : Option (Int × Int × Int × Bool) := (spec_l01In.f a3 (-6) 6).bind fun t125 => (if t125 = true then (if a1 = 0 then (some (a3, 0, 0, true)) else ((spec_l01Val.f k a0 a1).bind fun t127 => ((spec_l01Val.f k a0 a2).bind fun t128 => (if a3 ≤ (wrap64 (t127 - t128)) then (some (a3, 0, 0, true)) else (if (mx (wrap64 (t128 - t127)) 0) > 6 then (some (0, 0, 0, false)) else ((spec_l01Power.f k a0 (wrap64 (a3 + (mx (wrap64 (t128 - t127)) 0)))).bind fun t129 => ((spec_l01Power.f k a0 t127).bind fun t130 => (if t130 = 0 then (none) else ((spec_l01Power.f k a0 t128).bind fun t131 => (if t131 = 0 then (none) else ((spec_l01InvMod.f k (wrap64 (Int.tdiv a2 t131)) t129).bind fun t132 => ((spec_l01MulMod.f (wrap64 (Int.tdiv a1 t130)) t132 t129).bind fun t133 => ((spec_l01Power.f k a0 (mx (wrap64 (t127 - t128)) 0)).bind fun t134 => ((spec_l01MulMod.f t133 t134 t129).bind fun t135 => (some (a3, t135, mx (wrap64 (t128 - t127)) 0, true)))))))))))))))) else (some (0, 0, 0, false)))
theorem spec_l01Of.calls (k : Nat) (a0 : Int) (a1 : Int) (a2 : Int) (a3 : Int) (r1 : Int) (r2 : Int) (r3 : Int) (r4 : Bool) (w : World) (h : spec_l01Of.f k a0 a1 a2 a3 = some (r1, r2, r3, r4)) :
  Calls Try.prog 157 #[.int .i64 a0, .int .i64 a1, .int .i64 a2, .int .i64 a3] w fun e w' => e = .returned (.tuple #[.agg #[.int .i64 r1, .int .i64 r2, .int .i64 r3], .bool r4]) ∧ Below w.heap.size w w' := by
 have hu39 := Try.underlying39
 have HB := Aside0.mk (Below.refl w.heap.size w)
 have H : ((spec_l01In.f a3 (-6) 6).bind fun t125 => (if t125 = true then (if a1 = 0 then (some (a3, 0, 0, true)) else ((spec_l01Val.f k a0 a1).bind fun t127 => ((spec_l01Val.f k a0 a2).bind fun t128 => (if a3 ≤ (wrap64 (t127 - t128)) then (some (a3, 0, 0, true)) else (if (mx (wrap64 (t128 - t127)) 0) > 6 then (some (0, 0, 0, false)) else ((spec_l01Power.f k a0 (wrap64 (a3 + (mx (wrap64 (t128 - t127)) 0)))).bind fun t129 => ((spec_l01Power.f k a0 t127).bind fun t130 => (if t130 = 0 then (none) else ((spec_l01Power.f k a0 t128).bind fun t131 => (if t131 = 0 then (none) else ((spec_l01InvMod.f k (wrap64 (Int.tdiv a2 t131)) t129).bind fun t132 => ((spec_l01MulMod.f (wrap64 (Int.tdiv a1 t130)) t132 t129).bind fun t133 => ((spec_l01Power.f k a0 (mx (wrap64 (t127 - t128)) 0)).bind fun t134 => ((spec_l01MulMod.f t133 t134 t129).bind fun t135 => (some (a3, t135, mx (wrap64 (t128 - t127)) 0, true)))))))))))))))) else (some (0, 0, 0, false)))) = some (r1, r2, r3, r4) := h
 clear h
 replace H := ob_ H
 obtain ⟨t125, A50, H⟩ := H
 have A5 := Aside0.mk A50
 clear A50
 by_cases c6 : t125 = true
 ·subst c6
  have H1 : (if a1 = 0 then (some (a3, 0, 0, true)) else ((spec_l01Val.f k a0 a1).bind fun t127 => ((spec_l01Val.f k a0 a2).bind fun t128 => (if a3 ≤ (wrap64 (t127 - t128)) then (some (a3, 0, 0, true)) else (if (mx (wrap64 (t128 - t127)) 0) > 6 then (some (0, 0, 0, false)) else ((spec_l01Power.f k a0 (wrap64 (a3 + (mx (wrap64 (t128 - t127)) 0)))).bind fun t129 => ((spec_l01Power.f k a0 t127).bind fun t130 => (if t130 = 0 then (none) else ((spec_l01Power.f k a0 t128).bind fun t131 => (if t131 = 0 then (none) else ((spec_l01InvMod.f k (wrap64 (Int.tdiv a2 t131)) t129).bind fun t132 => ((spec_l01MulMod.f (wrap64 (Int.tdiv a1 t130)) t132 t129).bind fun t133 => ((spec_l01Power.f k a0 (mx (wrap64 (t127 - t128)) 0)).bind fun t134 => ((spec_l01MulMod.f t133 t134 t129).bind fun t135 => (some (a3, t135, mx (wrap64 (t128 - t127)) 0, true)))))))))))))))) = some (r1, r2, r3, r4) := by rw [if_pos rfl] at H; exact H
  clear H
  have H := H1
  clear H1
  by_cases c7 : a1 = 0
  ·rw [if_pos c7] at H
   have c7b0 : (a1 == 0) = true := beq_iff_eq.mpr c7
   have c7b1 : (a1 != 0) = false := bne_eq_false_iff_eq.mpr c7
   clear c7
   simp only [Option.some.injEq, Prod.mk.injEq] at H
   obtain ⟨rfl, rfl, rfl, rfl⟩ := H
   go_enter Try.func157, Try.ntmps157
   go_wp2_with (first | (refine bx_ 8 #[.int .i64 0, .int .i64 0, .int .i64 0] 39 ?_; intro gb124 hg w8 hbox hb; have BK124 := Aside0.mk (hbox); have GW124 := bs_ HB hg; have GE124 := bs_ HB hg; replace HB := bt_ HB hb; clear hb hbox hg) | (refine ge_ 15 Try.func82 #[.int .i64 a3, .int .i64 (-6), .int .i64 6] ?_; (with_reducible refine (spec_l01In.calls a3 (-6) 6 true _ A5.out).mono ?_); rintro e w' ⟨rfl, ⟨nd, rfl⟩⟩; refine ⟨_, rfl, ?_⟩; (try (rw [drewN_self w8]; generalize hq_ : World.drewN w8 _ = w8; have n0_ : Aside0 (w8.heap[gb124]? = some (.cells #[.int .i64 0, .int .i64 0, .int .i64 0] 39 (0, 0))) := ⟨by rw [← hq_]; exact (bl_ BK124).out⟩; have n1_ : Aside0 (Below w.heap.size w w8) := ⟨by rw [← hq_]; exact (bw_ HB).out⟩; clear BK124 HB hq_; have BK124 := n0_; have HB := n1_; clear n0_ n1_))) | (refine bx_ 10 #[.int .i64 0, .int .i64 0, .int .i64 0] 39 ?_; intro gb126 hg w9 hbox hb; have BK126 := Aside0.mk (hbox); have GW126 := bs_ HB hg; have GE126 := bs_ HB hg; have NB124_126 := bm_ BK124 hg; have NB126_124 := bn_ BK124 hg; replace BK124 := bb_ BK124 hb; replace HB := bt_ HB hb; clear hb hbox hg; have hnb10 := NB126_124.out; have hnc10 := NB124_126.out; obtain ⟨hcz11_0, hcz11_1, hcz11_2, hfz11_0, hfz11_1, hfz11_2⟩ := ch3_ BK126; obtain ⟨hcz12_0, hcz12_1, hcz12_2, hfz12_0, hfz12_1, hfz12_2⟩ := ch3_ BK124))
   refine bodyPost_ret (results_ct rfl _ _ gb124 39 #[.int .i64 a3, .int .i64 0, .int .i64 0] (0, 0) _ rfl (bp_ BK124).out Try.underlying39 rfl (by kernel_rfl)) rfl ?_
   exact ⟨es_, (bw_ HB).out⟩
  ·rw [if_neg c7] at H
   have c7b0 : (a1 == 0) = false := beq_eq_false_iff_ne.mpr c7
   have c7b1 : (a1 != 0) = true := bne_iff_ne.mpr c7
   replace H := ob_ H
   obtain ⟨t127, A130, H⟩ := H
   have A13 := Aside0.mk A130
   clear A130
   replace H := ob_ H
   obtain ⟨t128, A140, H⟩ := H
   have A14 := Aside0.mk A140
   clear A140
   by_cases c15 : a3 ≤ (wrap64 (t127 - t128))
   ·rw [if_pos c15] at H
    have c15b0 : decide (a3 ≤ (wrap64 (t127 - t128))) = true := decide_eq_true c15
    clear c15
    simp only [Option.some.injEq, Prod.mk.injEq] at H
    obtain ⟨rfl, rfl, rfl, rfl⟩ := H
    go_enter Try.func157, Try.ntmps157
    go_wp2_with (first | (refine bx_ 8 #[.int .i64 0, .int .i64 0, .int .i64 0] 39 ?_; intro gb124 hg w16 hbox hb; have BK124 := Aside0.mk (hbox); have GW124 := bs_ HB hg; have GE124 := bs_ HB hg; replace HB := bt_ HB hb; clear hb hbox hg) | (refine ge_ 15 Try.func82 #[.int .i64 a3, .int .i64 (-6), .int .i64 6] ?_; (with_reducible refine (spec_l01In.calls a3 (-6) 6 true _ A5.out).mono ?_); rintro e w' ⟨rfl, ⟨nd, rfl⟩⟩; refine ⟨_, rfl, ?_⟩; (try (rw [drewN_self w16]; generalize hq_ : World.drewN w16 _ = w16; have n0_ : Aside0 (w16.heap[gb124]? = some (.cells #[.int .i64 0, .int .i64 0, .int .i64 0] 39 (0, 0))) := ⟨by rw [← hq_]; exact (bl_ BK124).out⟩; have n1_ : Aside0 (Below w.heap.size w w16) := ⟨by rw [← hq_]; exact (bw_ HB).out⟩; clear BK124 HB hq_; have BK124 := n0_; have HB := n1_; clear n0_ n1_))) | (refine bx_ 10 #[.int .i64 0, .int .i64 0, .int .i64 0] 39 ?_; intro gb126 hg w17 hbox hb; have BK126 := Aside0.mk (hbox); have GW126 := bs_ HB hg; have GE126 := bs_ HB hg; have NB124_126 := bm_ BK124 hg; have NB126_124 := bn_ BK124 hg; replace BK124 := bb_ BK124 hb; replace HB := bt_ HB hb; clear hb hbox hg; have hnb18 := NB126_124.out; have hnc18 := NB124_126.out; obtain ⟨hcz19_0, hcz19_1, hcz19_2, hfz19_0, hfz19_1, hfz19_2⟩ := ch3_ BK126) | (refine ge_ 25 Try.func163 #[.int .i64 a0, .int .i64 a1] ?_; (with_reducible refine (spec_l01Val.calls k a0 a1 t127 _ A13.out).mono ?_); rintro e w' ⟨rfl, ⟨nd, rfl⟩⟩; refine ⟨_, rfl, ?_⟩) | (refine ge_ 28 Try.func163 #[.int .i64 a0, .int .i64 a2] ?_; (with_reducible refine (spec_l01Val.calls k a0 a2 t128 _ A14.out).mono ?_); rintro e w' ⟨rfl, ⟨nd, rfl⟩⟩; refine ⟨_, rfl, ?_⟩; obtain ⟨hcz20_0, hcz20_1, hcz20_2, hfz20_0, hfz20_1, hfz20_2⟩ := ch3_ BK124))
    refine bodyPost_ret (results_ct rfl _ _ gb124 39 #[.int .i64 a3, .int .i64 0, .int .i64 0] (0, 0) _ rfl (bp_ BK124).out Try.underlying39 rfl (by kernel_rfl)) rfl ?_
    exact ⟨es_, (bw_ HB).out⟩
   ·rw [if_neg c15] at H
    have c15b0 : decide (a3 ≤ (wrap64 (t127 - t128))) = false := decide_eq_false c15
    clear c15
    obtain ⟨ji21, hji21⟩ : ∃ j_ : Int, (mx (wrap64 (t128 - t127)) 0) = j_ := ⟨_, rfl⟩
    replace H : (if (ji21) > 6 then (some (0, 0, 0, false)) else ((spec_l01Power.f k a0 (wrap64 (a3 + (ji21)))).bind fun t129 => ((spec_l01Power.f k a0 t127).bind fun t130 => (if t130 = 0 then (none) else ((spec_l01Power.f k a0 t128).bind fun t131 => (if t131 = 0 then (none) else ((spec_l01InvMod.f k (wrap64 (Int.tdiv a2 t131)) t129).bind fun t132 => ((spec_l01MulMod.f (wrap64 (Int.tdiv a1 t130)) t132 t129).bind fun t133 => ((spec_l01Power.f k a0 (mx (wrap64 (t127 - t128)) 0)).bind fun t134 => ((spec_l01MulMod.f t133 t134 t129).bind fun t135 => (some (a3, t135, ji21, true)))))))))))) = some (r1, r2, r3, r4) := by first | (rw [hji21] at H; exact H) | (simp only [hji21] at H ⊢; exact H)
    (try rw [hji21] at A5)
    (try rw [hji21] at A13)
    (try rw [hji21] at A14)
    (try (have hji21l : 0 ≤ ji21 := by (rw [← hji21]; unfold mx; (repeat' split) <;> omega)))
    (try (have hji21m : 0 ≤ ji21 := by omega))
    have hji21_ : (if (wrap64 (t128 - t127)) < 0 then 0 else (wrap64 (t128 - t127))) = ji21 := hji21
    by_cases c22 : (ji21) > 6
    ·rw [if_pos c22] at H
     have c22b0 : decide (6 < (ji21)) = true := decide_eq_true c22
     clear c22
     simp only [Option.some.injEq, Prod.mk.injEq] at H
     obtain ⟨rfl, rfl, rfl, rfl⟩ := H
     go_enter Try.func157, Try.ntmps157
     go_wp2_with (first | (refine bx_ 8 #[.int .i64 0, .int .i64 0, .int .i64 0] 39 ?_; intro gb124 hg w23 hbox hb; have BK124 := Aside0.mk (hbox); have GW124 := bs_ HB hg; have GE124 := bs_ HB hg; replace HB := bt_ HB hb; clear hb hbox hg) | (refine ge_ 15 Try.func82 #[.int .i64 a3, .int .i64 (-6), .int .i64 6] ?_; (with_reducible refine (spec_l01In.calls a3 (-6) 6 true _ A5.out).mono ?_); rintro e w' ⟨rfl, ⟨nd, rfl⟩⟩; refine ⟨_, rfl, ?_⟩; (try (rw [drewN_self w23]; generalize hq_ : World.drewN w23 _ = w23; have n0_ : Aside0 (w23.heap[gb124]? = some (.cells #[.int .i64 0, .int .i64 0, .int .i64 0] 39 (0, 0))) := ⟨by rw [← hq_]; exact (bl_ BK124).out⟩; have n1_ : Aside0 (Below w.heap.size w w23) := ⟨by rw [← hq_]; exact (bw_ HB).out⟩; clear BK124 HB hq_; have BK124 := n0_; have HB := n1_; clear n0_ n1_))) | (refine bx_ 10 #[.int .i64 0, .int .i64 0, .int .i64 0] 39 ?_; intro gb126 hg w24 hbox hb; have BK126 := Aside0.mk (hbox); have GW126 := bs_ HB hg; have GE126 := bs_ HB hg; have NB124_126 := bm_ BK124 hg; have NB126_124 := bn_ BK124 hg; replace BK124 := bb_ BK124 hb; replace HB := bt_ HB hb; clear hb hbox hg; have hnb25 := NB126_124.out; have hnc25 := NB124_126.out; obtain ⟨hcz26_0, hcz26_1, hcz26_2, hfz26_0, hfz26_1, hfz26_2⟩ := ch3_ BK126) | (refine ge_ 25 Try.func163 #[.int .i64 a0, .int .i64 a1] ?_; (with_reducible refine (spec_l01Val.calls k a0 a1 t127 _ A13.out).mono ?_); rintro e w' ⟨rfl, ⟨nd, rfl⟩⟩; refine ⟨_, rfl, ?_⟩) | (refine ge_ 28 Try.func163 #[.int .i64 a0, .int .i64 a2] ?_; (with_reducible refine (spec_l01Val.calls k a0 a2 t128 _ A14.out).mono ?_); rintro e w' ⟨rfl, ⟨nd, rfl⟩⟩; refine ⟨_, rfl, ?_⟩; obtain ⟨hcz27_0, hcz27_1, hcz27_2, hfz27_0, hfz27_1, hfz27_2⟩ := ch3_ BK124))
     refine bodyPost_ret (results_ct rfl _ _ gb124 39 #[.int .i64 0, .int .i64 0, .int .i64 0] (0, 0) _ rfl (bp_ BK124).out Try.underlying39 rfl (by kernel_rfl)) rfl ?_
     exact ⟨by first | rfl | (simp [errW_none, errW_some] <;> rfl) | (simp only [← hji21]; first | rfl | (simp [errW_none, errW_some] <;> rfl)) | (simp [*, errW_none, errW_some] <;> rfl), (bw_ HB).out⟩
    ·rw [if_neg c22] at H
     have c22b0 : decide (6 < (ji21)) = false := decide_eq_false c22
     clear c22
     replace H := ob_ H
     obtain ⟨t129, A280, H⟩ := H
     have A28 := Aside0.mk A280
     clear A280
     replace H := ob_ H
     obtain ⟨t130, A290, H⟩ := H
     have A29 := Aside0.mk A290
     clear A290
     by_cases c30 : t130 = 0
     ·rw [if_pos c30] at H
      exact absurd H (by simp)
     ·rw [if_neg c30] at H
      have c30b0 : (t130 == 0) = false := beq_eq_false_iff_ne.mpr c30
      have c30b1 : (t130 != 0) = true := bne_iff_ne.mpr c30
      replace H := ob_ H
      obtain ⟨t131, A310, H⟩ := H
      have A31 := Aside0.mk A310
      clear A310
      by_cases c32 : t131 = 0
      ·rw [if_pos c32] at H
       exact absurd H (by simp)
      ·rw [if_neg c32] at H
       have c32b0 : (t131 == 0) = false := beq_eq_false_iff_ne.mpr c32
       have c32b1 : (t131 != 0) = true := bne_iff_ne.mpr c32
       replace H := ob_ H
       obtain ⟨t132, A330, H⟩ := H
       have A33 := Aside0.mk A330
       clear A330
       replace H := ob_ H
       obtain ⟨t133, A340, H⟩ := H
       have A34 := Aside0.mk A340
       clear A340
       obtain ⟨ji35, hji35⟩ : ∃ j_ : Int, (mx (wrap64 (t127 - t128)) 0) = j_ := ⟨_, rfl⟩
       replace H : ((spec_l01Power.f k a0 (ji35)).bind fun t134 => ((spec_l01MulMod.f t133 t134 t129).bind fun t135 => (some (a3, t135, ji21, true)))) = some (r1, r2, r3, r4) := by first | (rw [hji35] at H; exact H) | (simp only [hji35] at H ⊢; exact H)
       (try rw [hji35] at A5)
       (try rw [hji35] at A13)
       (try rw [hji35] at A14)
       (try rw [hji35] at A28)
       (try rw [hji35] at A29)
       (try rw [hji35] at A31)
       (try rw [hji35] at A33)
       (try rw [hji35] at A34)
       (try (have hji35l : 0 ≤ ji35 := by (rw [← hji35]; unfold mx; (repeat' split) <;> omega)))
       (try (have hji35m : 0 ≤ ji35 := by omega))
       have hji35_ : (if (wrap64 (t127 - t128)) < 0 then 0 else (wrap64 (t127 - t128))) = ji35 := hji35
       replace H := ob_ H
       obtain ⟨t134, A360, H⟩ := H
       have A36 := Aside0.mk A360
       clear A360
       replace H := ob_ H
       obtain ⟨t135, A370, H⟩ := H
       have A37 := Aside0.mk A370
       clear A370
       simp only [Option.some.injEq, Prod.mk.injEq] at H
       obtain ⟨rfl, rfl, rfl, rfl⟩ := H
       go_enter Try.func157, Try.ntmps157
       go_wp2_with (first | (refine bx_ 8 #[.int .i64 0, .int .i64 0, .int .i64 0] 39 ?_; intro gb124 hg w38 hbox hb; have BK124 := Aside0.mk (hbox); have GW124 := bs_ HB hg; have GE124 := bs_ HB hg; replace HB := bt_ HB hb; clear hb hbox hg) | (refine ge_ 15 Try.func82 #[.int .i64 a3, .int .i64 (-6), .int .i64 6] ?_; (with_reducible refine (spec_l01In.calls a3 (-6) 6 true _ A5.out).mono ?_); rintro e w' ⟨rfl, ⟨nd, rfl⟩⟩; refine ⟨_, rfl, ?_⟩; (try (rw [drewN_self w38]; generalize hq_ : World.drewN w38 _ = w38; have n0_ : Aside0 (w38.heap[gb124]? = some (.cells #[.int .i64 0, .int .i64 0, .int .i64 0] 39 (0, 0))) := ⟨by rw [← hq_]; exact (bl_ BK124).out⟩; have n1_ : Aside0 (Below w.heap.size w w38) := ⟨by rw [← hq_]; exact (bw_ HB).out⟩; clear BK124 HB hq_; have BK124 := n0_; have HB := n1_; clear n0_ n1_))) | (refine bx_ 10 #[.int .i64 0, .int .i64 0, .int .i64 0] 39 ?_; intro gb126 hg w39 hbox hb; have BK126 := Aside0.mk (hbox); have GW126 := bs_ HB hg; have GE126 := bs_ HB hg; have NB124_126 := bm_ BK124 hg; have NB126_124 := bn_ BK124 hg; replace BK124 := bb_ BK124 hb; replace HB := bt_ HB hb; clear hb hbox hg; have hnb40 := NB126_124.out; have hnc40 := NB124_126.out; obtain ⟨hcz41_0, hcz41_1, hcz41_2, hfz41_0, hfz41_1, hfz41_2⟩ := ch3_ BK126) | (refine ge_ 25 Try.func163 #[.int .i64 a0, .int .i64 a1] ?_; (with_reducible refine (spec_l01Val.calls k a0 a1 t127 _ A13.out).mono ?_); rintro e w' ⟨rfl, ⟨nd, rfl⟩⟩; refine ⟨_, rfl, ?_⟩) | (refine ge_ 28 Try.func163 #[.int .i64 a0, .int .i64 a2] ?_; (with_reducible refine (spec_l01Val.calls k a0 a2 t128 _ A14.out).mono ?_); rintro e w' ⟨rfl, ⟨nd, rfl⟩⟩; refine ⟨_, rfl, ?_⟩) | (refine ge_ 49 Try.func156 #[.int .i64 a0, .int .i64 (wrap64 (a3 + (ji21)))] ?_ (hargs := by (try simp only [List.map_toArray, List.map_cons, List.map_nil]); first | done | (simp only [hji21]; rfl) | rfl | (simp only [List.length_drop, List.length_take]; rfl)); (with_reducible refine (spec_l01Power.calls k a0 (wrap64 (a3 + (ji21))) t129 _ A28.out).mono ?_); rintro e w' ⟨rfl, ⟨nd, rfl⟩⟩; refine ⟨_, rfl, ?_⟩) | (refine ge_ 53 Try.func156 #[.int .i64 a0, .int .i64 t127] ?_; (with_reducible refine (spec_l01Power.calls k a0 t127 t130 _ A29.out).mono ?_); rintro e w' ⟨rfl, ⟨nd, rfl⟩⟩; refine ⟨_, rfl, ?_⟩) | (refine ge_ 58 Try.func156 #[.int .i64 a0, .int .i64 t128] ?_; (with_reducible refine (spec_l01Power.calls k a0 t128 t131 _ A31.out).mono ?_); rintro e w' ⟨rfl, ⟨nd, rfl⟩⟩; refine ⟨_, rfl, ?_⟩) | (refine ge_ 63 Try.func191 #[.int .i64 (wrap64 (Int.tdiv a2 t131)), .int .i64 t129] ?_; (with_reducible refine (spec_l01InvMod.calls k (wrap64 (Int.tdiv a2 t131)) t129 t132 _ A33.out).mono ?_); rintro e w' ⟨rfl, ⟨nd, rfl⟩⟩; refine ⟨_, rfl, ?_⟩) | (refine ge_ 65 Try.func190 #[.int .i64 (wrap64 (Int.tdiv a1 t130)), .int .i64 t132, .int .i64 t129] ?_; (with_reducible refine (spec_l01MulMod.calls (wrap64 (Int.tdiv a1 t130)) t132 t129 t133 _ A34.out).mono ?_); rintro e w' ⟨rfl, ⟨nd, rfl⟩⟩; refine ⟨_, rfl, ?_⟩) | (refine ge_ 71 Try.func156 #[.int .i64 a0, .int .i64 ji35] ?_ (hargs := by (try simp only [List.map_toArray, List.map_cons, List.map_nil]); first | done | (simp only [hji35]; rfl) | rfl | (simp only [List.length_drop, List.length_take]; rfl)); (with_reducible refine (spec_l01Power.calls k a0 ji35 t134 _ A36.out).mono ?_); rintro e w' ⟨rfl, ⟨nd, rfl⟩⟩; refine ⟨_, rfl, ?_⟩) | (refine ge_ 73 Try.func190 #[.int .i64 t133, .int .i64 t134, .int .i64 t129] ?_; (with_reducible refine (spec_l01MulMod.calls t133 t134 t129 t135 _ A37.out).mono ?_); rintro e w' ⟨rfl, ⟨nd, rfl⟩⟩; refine ⟨_, rfl, ?_⟩; obtain ⟨hcz42_0, hcz42_1, hcz42_2, hfz42_0, hfz42_1, hfz42_2⟩ := ch3_ BK124))
       refine bodyPost_ret (results_ct rfl _ _ gb124 39 #[.int .i64 a3, .int .i64 t135, .int .i64 ji21] (0, 0) _ rfl (bp_ BK124).out Try.underlying39 rfl (by kernel_rfl)) rfl ?_
       exact ⟨by first | rfl | (simp [errW_none, errW_some] <;> rfl) | (simp only [← hji21, ← hji35]; first | rfl | (simp [errW_none, errW_some] <;> rfl)) | (simp [*, errW_none, errW_some] <;> rfl), (bw_ HB).out⟩
 ·replace c6 := Bool.eq_false_iff.mpr c6
  subst c6
  have H1 : (some (0, 0, 0, false)) = some (r1, r2, r3, r4) := by rw [if_neg (show ¬ (false = true) by decide)] at H; exact H
  clear H
  have H := H1
  clear H1
  simp only [Option.some.injEq, Prod.mk.injEq] at H
  obtain ⟨rfl, rfl, rfl, rfl⟩ := H
  go_enter Try.func157, Try.ntmps157
  go_wp2_with (first | (refine bx_ 8 #[.int .i64 0, .int .i64 0, .int .i64 0] 39 ?_; intro gb124 hg w43 hbox hb; have BK124 := Aside0.mk (hbox); have GW124 := bs_ HB hg; have GE124 := bs_ HB hg; replace HB := bt_ HB hb; clear hb hbox hg) | (refine ge_ 15 Try.func82 #[.int .i64 a3, .int .i64 (-6), .int .i64 6] ?_; (with_reducible refine (spec_l01In.calls a3 (-6) 6 false _ A5.out).mono ?_); rintro e w' ⟨rfl, ⟨nd, rfl⟩⟩; refine ⟨_, rfl, ?_⟩; (try (rw [drewN_self w43]; generalize hq_ : World.drewN w43 _ = w43; have n0_ : Aside0 (w43.heap[gb124]? = some (.cells #[.int .i64 0, .int .i64 0, .int .i64 0] 39 (0, 0))) := ⟨by rw [← hq_]; exact (bl_ BK124).out⟩; have n1_ : Aside0 (Below w.heap.size w w43) := ⟨by rw [← hq_]; exact (bw_ HB).out⟩; clear BK124 HB hq_; have BK124 := n0_; have HB := n1_; clear n0_ n1_)); obtain ⟨hcz44_0, hcz44_1, hcz44_2, hfz44_0, hfz44_1, hfz44_2⟩ := ch3_ BK124))
  refine bodyPost_ret (results_ct rfl _ _ gb124 39 #[.int .i64 0, .int .i64 0, .int .i64 0] (0, 0) _ rfl (bp_ BK124).out Try.underlying39 rfl (by kernel_rfl)) rfl ?_
  exact ⟨es_, (bw_ HB).out⟩
end Go.Proofs.Ytbilincmcnnonaa.QS
