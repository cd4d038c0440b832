import Derived.Test.YtbilincmcnnonaaQSx8
import Derived.Test.YtbilincmcnnonaaQSx78
namespace Go.Proofs.Ytbilincmcnnonaa.QS
set_option maxHeartbeats 8000000
set_option maxRecDepth 100000
open Go.RowKit Go.Proofs.YtbilincmcnnonaaW.PrintWords Go.Proofs.YtbilincmcnnonaaW.PrintLast Go.Proofs.YtbilincmcnnonaaW.PrintMore
attribute [local go_sem] isSome_setCell max2_int min2_int max_two min_two max_three min_three max_four min_four
set_option linter.unusedVariables false
set_option linter.unusedSimpArgs false

/-! ### laws_eqMatrixS: function 51 -/
def laws_eqMatrixS.l0 : Nat → List (S26) → List (S26) → Int → Option (Bool)
 | 0, _, _, _ => none
 | k + 1, x0, x1, x5 => if x5 < (x0.length : Int) then (if 0 ≤ x5 then (if x5 < (x1.length : Int) then ((laws_eqMatrix.f k ((rd_T26 x0 x5).f0.f0) ((rd_T26 x0 x5).f0.f1) ((rd_T26 x0 x5).f1.f0) ((rd_T26 x0 x5).f1.f1) ((rd_T26 x1 x5).f0.f0) ((rd_T26 x1 x5).f0.f1) ((rd_T26 x1 x5).f1.f0) ((rd_T26 x1 x5).f1.f1)).bind fun t481 => (if t481 = true then (laws_eqMatrixS.l0 k x0 x1 (wrap64 (x5 + 1))) else (some false))) else (none)) else (none)) else (some true)
def laws_eqMatrixS.f (k : Nat) (l0 : List (S26)) (l1 : List (S26)) : Option (Bool) := if (l0.length : Int) = (l1.length : Int) then (laws_eqMatrixS.l0 k l0 l1 0) else (some false)
def laws_eqMatrixS.T6 : Bool × List (List Nat × List Nat) := (true, [([], []), ([], []), ([0, 1], [0, 1]), ([2], [2]), ([], []), ([], []), ([4, 5], [4, 5]), ([6], [6]), ([3, 7], [3, 7]), ([8], [8])])
def laws_eqMatrixS.B6 : List Nat := [0, 0, 3, 7, 0, 0, 48, 112, 255, 511]
theorem laws_eqMatrixS.tab6 : rtab .any (opsOf Try.f51 6) = laws_eqMatrixS.T6 := by kernel_rfl
theorem laws_eqMatrixS.bits6 : waitsOk laws_eqMatrixS.T6.2 laws_eqMatrixS.B6 = true := by kernel_rfl
theorem laws_eqMatrixS.calls (k : Nat) (A0 : Option Addr) (c0 : Nat) (l0 : List (S26)) (A1 : Option Addr) (c1 : Nat) (l1 : List (S26)) (r : Bool) (w : World) (hr0 : Kd.C k26 w A0 l0.length l0) (hc0 : l0.length ≤ c0) (hr1 : Kd.C k26 w A1 l1.length l1) (hc1 : l1.length ≤ c1) (h : laws_eqMatrixS.f k l0 l1 = some r) :
  Calls Try.prog 51 #[.slice A0 l0.length c0, .slice A1 l1.length c1] w fun e w' => e = .returned (.bool r) ∧ Below w.heap.size w w' := by
 have hu26 := Try.underlying26
 have HR0 := Aside0.mk hr0
 have HC0 := Aside0.mk hc0
 clear hr0 hc0
 have HR1 := Aside0.mk hr1
 have HC1 := Aside0.mk hc1
 clear hr1 hc1
 have HB := Aside0.mk (Below.refl w.heap.size w)
 have H : (if (l0.length : Int) = (l1.length : Int) then (laws_eqMatrixS.l0 k l0 l1 0) else (some false)) = some r := h
 clear h
 by_cases c3 : (l0.length : Int) = (l1.length : Int)
 ·rw [if_pos c3] at H
  have c3b0 : ((l0.length : Int) == (l1.length : Int)) = true := beq_iff_eq.mpr c3
  have c3b1 : ((l0.length : Int) != (l1.length : Int)) = false := bne_eq_false_iff_eq.mpr c3
  have c3b2 : (l0.length == l1.length) = true := by first | simpa using c3 | (simp at c3 ⊢; omega)
  clear c3
  have H' := Aside0.mk H
  clear H
  go_enter Try.func51, Try.ntmps51
  go_wp2
  go_loopg [5] k (fun kq v5 w' => ∃ (x5_1 : Int), v5 = .int .i64 x5_1 ∧ Aside0 (laws_eqMatrixS.l0 kq l0 l1 x5_1 = some r) ∧ Aside0 (kq ≤ k) ∧ Aside0 (Below w.heap.size w w'))
  case atStart => exact ⟨(0), en_, H', ⟨Nat.le_refl _⟩, bw_ HB⟩
  case round =>
   clear H'
   try clear c1
   try clear p2
   try clear c3
   try clear c3b0
   try clear c3b1
   try clear c3b2
   obtain ⟨x5_1, rfl, HA, HK1, HB⟩ := hrel
   cases gk with
   | zero => exact absurd HA.out (by simp [laws_eqMatrixS.l0])
   | succ k1 =>
    have H := HA.out
    clear HA
    simp only [laws_eqMatrixS.l0] at H
    by_cases c4 : x5_1 < (l0.length : Int)
    ·rw [if_pos c4] at H
     have c4b0 : decide (x5_1 < (l0.length : Int)) = true := decide_eq_true c4
     clear c4
     by_cases c5 : 0 ≤ x5_1
     ·rw [if_pos c5] at H
      have c5b0 : decide (0 ≤ x5_1) = true := decide_eq_true c5
      clear c5
      by_cases c6 : x5_1 < (l1.length : Int)
      ·rw [if_pos c6] at H
       have c6b0 : decide (x5_1 < (l1.length : Int)) = true := decide_eq_true c6
       clear c6
       replace H := ob_ H
       obtain ⟨t481, A70, H⟩ := H
       have A7 := Aside0.mk A70
       clear A70
       by_cases c8 : t481 = true
       ·subst c8
        have H1 : (laws_eqMatrixS.l0 k1 l0 l1 (wrap64 (x5_1 + 1))) = some r := by rw [if_pos rfl] at H; exact H
        clear H
        have H := H1
        clear H1
        have H' := Aside0.mk H
        clear H
        try go_wp2
        replace HB := Aside0.mk (below_drew1 HB.out)
        have p479 : 0 ≤ (x5_1 : Int) := od_
        have q479 : x5_1 < (l0.length : Int) := od_
        obtain ⟨ad479, e479, hx479_0, hx479_1, hx479_2, hx479_3⟩ := at_T26 HR0.out x5_1 p479 q479
        have hw479_3 := hx479_3
        have hw479_2 := hx479_2
        have hw479_1 := hx479_1
        have hw479_0 := hx479_0
        cases e479
        replace hx479_0 := clTr HB.out hx479_0
        replace hx479_1 := clTr HB.out hx479_1
        replace hx479_2 := clTr HB.out hx479_2
        replace hx479_3 := clTr HB.out hx479_3
        replace p479 := eq_true p479
        replace q479 := eq_true q479
        have p480 : 0 ≤ (x5_1 : Int) := od_
        have q480 : x5_1 < (l1.length : Int) := od_
        obtain ⟨ad480, e480, hx480_0, hx480_1, hx480_2, hx480_3⟩ := at_T26 HR1.out x5_1 p480 q480
        have hw480_3 := hx480_3
        have hw480_2 := hx480_2
        have hw480_1 := hx480_1
        have hw480_0 := hx480_0
        cases e480
        replace hx480_0 := clTr HB.out hx480_0
        replace hx480_1 := clTr HB.out hx480_1
        replace hx480_2 := clTr HB.out hx480_2
        replace hx480_3 := clTr HB.out hx480_3
        replace p480 := eq_true p480
        replace q480 := eq_true q480
        refine start_ (n := 10) (S := fun w' => w'.cell? (ad479.add ((x5_1).toNat * 4)) = some (.int .i64 ((rd_T26 l0 x5_1).f0.f0)) ∧ w'.cell? ⟨(ad479.add ((x5_1).toNat * 4)).block, (ad479.add ((x5_1).toNat * 4)).off + 1, none⟩ = some (.int .i64 ((rd_T26 l0 x5_1).f0.f1)) ∧ w'.cell? ⟨(ad479.add ((x5_1).toNat * 4)).block, (ad479.add ((x5_1).toNat * 4)).off + 2, none⟩ = some (.int .i64 ((rd_T26 l0 x5_1).f1.f0)) ∧ w'.cell? ⟨(ad479.add ((x5_1).toNat * 4)).block, (ad479.add ((x5_1).toNat * 4)).off + 3, none⟩ = some (.int .i64 ((rd_T26 l0 x5_1).f1.f1)) ∧ w'.cell? (ad480.add ((x5_1).toNat * 4)) = some (.int .i64 ((rd_T26 l1 x5_1).f0.f0)) ∧ w'.cell? ⟨(ad480.add ((x5_1).toNat * 4)).block, (ad480.add ((x5_1).toNat * 4)).off + 1, none⟩ = some (.int .i64 ((rd_T26 l1 x5_1).f0.f1)) ∧ w'.cell? ⟨(ad480.add ((x5_1).toNat * 4)).block, (ad480.add ((x5_1).toNat * 4)).off + 2, none⟩ = some (.int .i64 ((rd_T26 l1 x5_1).f1.f0)) ∧ w'.cell? ⟨(ad480.add ((x5_1).toNat * 4)).block, (ad480.add ((x5_1).toNat * 4)).off + 3, none⟩ = some (.int .i64 ((rd_T26 l1 x5_1).f1.f1))) (ds := []) (bv_ 10 0) (by kernel_rfl) rfl rfl ⟨(clTr HB.out hw479_0 :), (clTr HB.out hw479_1 :), (clTr HB.out hw479_2 :), (clTr HB.out hw479_3 :), (clTr HB.out hw480_0 :), (clTr HB.out hw480_1 :), (clTr HB.out hw480_2 :), (clTr HB.out hw480_3 :)⟩ (fun hHeld => ?_); refine with_tabW laws_eqMatrixS.tab6 laws_eqMatrixS.bits6 (fun HT_ HW_ => ?_)
        generalize wr.drew = w9 at HB hx479_0 hx479_1 hx479_2 hx479_3 hx480_0 hx480_1 hx480_2 hx480_3 hHeld ⊢
        refine pu_ HT_ 0 (some 17) (bv_ 10 1) ?_
        refine pu_ HT_ 1 (some 18) (bv_ 10 3) ?_
        refine pu_ HT_ 2 (some 19) (bv_ 10 7) ?_
        refine pu_ HT_ 4 (some 21) (bv_ 10 23) ?_
        refine pu_ HT_ 5 (some 22) (bv_ 10 55) ?_
        refine pu_ HT_ 6 (some 23) (bv_ 10 119) ?_
        refine ta_ HT_ HW_ 3 (some 20) (bv_ 10 127) hHeld ?_ (hy := by rintro w' ⟨s0, s1, s2, s3, s4, s5, s6, s7⟩; go_simp; with_reducible rfl)
        refine ta_ HT_ HW_ 7 (some 24) (bv_ 10 255) hHeld ?_ (hy := by rintro w' ⟨s0, s1, s2, s3, s4, s5, s6, s7⟩; go_simp; with_reducible rfl)
        refine on_ HT_ 8 (some 25) (bv_ 10 511) (fun K hK => ?_)
        refine gs_ Try.func127 #[.agg #[.int .i64 ((rd_T26 l0 x5_1).f0.f0), .int .i64 ((rd_T26 l0 x5_1).f0.f1), .int .i64 ((rd_T26 l0 x5_1).f1.f0), .int .i64 ((rd_T26 l0 x5_1).f1.f1)], .agg #[.int .i64 ((rd_T26 l1 x5_1).f0.f0), .int .i64 ((rd_T26 l1 x5_1).f0.f1), .int .i64 ((rd_T26 l1 x5_1).f1.f0), .int .i64 ((rd_T26 l1 x5_1).f1.f1)]] ?_
        with_reducible refine (laws_eqMatrix.calls k1 ((rd_T26 l0 x5_1).f0.f0) ((rd_T26 l0 x5_1).f0.f1) ((rd_T26 l0 x5_1).f1.f0) ((rd_T26 l0 x5_1).f1.f1) ((rd_T26 l1 x5_1).f0.f0) ((rd_T26 l1 x5_1).f0.f1) ((rd_T26 l1 x5_1).f1.f0) ((rd_T26 l1 x5_1).f1.f1) true _ A7.out).mono ?_
        rintro e w10 ⟨rfl, hb⟩
        refine ⟨_, rfl, ?_⟩
        replace HB := bt_ HB hb
        (try clear hb)
        (try clear hb2)
        (try clear hk)
        (try clear hi)
        refine hK.out _ _ ⟨(clTr HB.out hw479_0 :), (clTr HB.out hw479_1 :), (clTr HB.out hw479_2 :), (clTr HB.out hw479_3 :), (clTr HB.out hw480_0 :), (clTr HB.out hw480_1 :), (clTr HB.out hw480_2 :), (clTr HB.out hw480_3 :)⟩ (fun hHeld => ?_)
        clear hK K
        refine nm_ (some 25) ?_
        refine pu_ HT_ 9 (some 26) (bv_ 10 1023) ?_
        refine done_ (done_of HT_.out (by kernel_rfl)) ?_
        try go_wp2
        go_roundg k1
        case measure => have := HK1.out; omega
        case rel => exact ⟨(wrap64 (x5_1 + 1)), en_, H', ⟨by have := HK1.out; omega⟩, bw_ HB⟩
       ·replace c8 := Bool.eq_false_iff.mpr c8
        subst c8
        have H1 : (some false) = some r := by rw [if_neg (show ¬ (false = true) by decide)] at H; exact H
        clear H
        have H := H1
        clear H1
        obtain rfl := si_ H
        try go_wp2
        replace HB := Aside0.mk (below_drew1 HB.out)
        have p479 : 0 ≤ (x5_1 : Int) := od_
        have q479 : x5_1 < (l0.length : Int) := od_
        obtain ⟨ad479, e479, hx479_0, hx479_1, hx479_2, hx479_3⟩ := at_T26 HR0.out x5_1 p479 q479
        have hw479_3 := hx479_3
        have hw479_2 := hx479_2
        have hw479_1 := hx479_1
        have hw479_0 := hx479_0
        cases e479
        replace hx479_0 := clTr HB.out hx479_0
        replace hx479_1 := clTr HB.out hx479_1
        replace hx479_2 := clTr HB.out hx479_2
        replace hx479_3 := clTr HB.out hx479_3
        replace p479 := eq_true p479
        replace q479 := eq_true q479
        have p480 : 0 ≤ (x5_1 : Int) := od_
        have q480 : x5_1 < (l1.length : Int) := od_
        obtain ⟨ad480, e480, hx480_0, hx480_1, hx480_2, hx480_3⟩ := at_T26 HR1.out x5_1 p480 q480
        have hw480_3 := hx480_3
        have hw480_2 := hx480_2
        have hw480_1 := hx480_1
        have hw480_0 := hx480_0
        cases e480
        replace hx480_0 := clTr HB.out hx480_0
        replace hx480_1 := clTr HB.out hx480_1
        replace hx480_2 := clTr HB.out hx480_2
        replace hx480_3 := clTr HB.out hx480_3
        replace p480 := eq_true p480
        replace q480 := eq_true q480
        refine start_ (n := 10) (S := fun w' => w'.cell? (ad479.add ((x5_1).toNat * 4)) = some (.int .i64 ((rd_T26 l0 x5_1).f0.f0)) ∧ w'.cell? ⟨(ad479.add ((x5_1).toNat * 4)).block, (ad479.add ((x5_1).toNat * 4)).off + 1, none⟩ = some (.int .i64 ((rd_T26 l0 x5_1).f0.f1)) ∧ w'.cell? ⟨(ad479.add ((x5_1).toNat * 4)).block, (ad479.add ((x5_1).toNat * 4)).off + 2, none⟩ = some (.int .i64 ((rd_T26 l0 x5_1).f1.f0)) ∧ w'.cell? ⟨(ad479.add ((x5_1).toNat * 4)).block, (ad479.add ((x5_1).toNat * 4)).off + 3, none⟩ = some (.int .i64 ((rd_T26 l0 x5_1).f1.f1)) ∧ w'.cell? (ad480.add ((x5_1).toNat * 4)) = some (.int .i64 ((rd_T26 l1 x5_1).f0.f0)) ∧ w'.cell? ⟨(ad480.add ((x5_1).toNat * 4)).block, (ad480.add ((x5_1).toNat * 4)).off + 1, none⟩ = some (.int .i64 ((rd_T26 l1 x5_1).f0.f1)) ∧ w'.cell? ⟨(ad480.add ((x5_1).toNat * 4)).block, (ad480.add ((x5_1).toNat * 4)).off + 2, none⟩ = some (.int .i64 ((rd_T26 l1 x5_1).f1.f0)) ∧ w'.cell? ⟨(ad480.add ((x5_1).toNat * 4)).block, (ad480.add ((x5_1).toNat * 4)).off + 3, none⟩ = some (.int .i64 ((rd_T26 l1 x5_1).f1.f1))) (ds := []) (bv_ 10 0) (by kernel_rfl) rfl rfl ⟨(clTr HB.out hw479_0 :), (clTr HB.out hw479_1 :), (clTr HB.out hw479_2 :), (clTr HB.out hw479_3 :), (clTr HB.out hw480_0 :), (clTr HB.out hw480_1 :), (clTr HB.out hw480_2 :), (clTr HB.out hw480_3 :)⟩ (fun hHeld => ?_); refine with_tabW laws_eqMatrixS.tab6 laws_eqMatrixS.bits6 (fun HT_ HW_ => ?_)
        generalize wr.drew = w11 at HB hx479_0 hx479_1 hx479_2 hx479_3 hx480_0 hx480_1 hx480_2 hx480_3 hHeld ⊢
        refine pu_ HT_ 0 (some 17) (bv_ 10 1) ?_
        refine pu_ HT_ 1 (some 18) (bv_ 10 3) ?_
        refine pu_ HT_ 2 (some 19) (bv_ 10 7) ?_
        refine pu_ HT_ 4 (some 21) (bv_ 10 23) ?_
        refine pu_ HT_ 5 (some 22) (bv_ 10 55) ?_
        refine pu_ HT_ 6 (some 23) (bv_ 10 119) ?_
        refine ta_ HT_ HW_ 3 (some 20) (bv_ 10 127) hHeld ?_ (hy := by rintro w' ⟨s0, s1, s2, s3, s4, s5, s6, s7⟩; go_simp; with_reducible rfl)
        refine ta_ HT_ HW_ 7 (some 24) (bv_ 10 255) hHeld ?_ (hy := by rintro w' ⟨s0, s1, s2, s3, s4, s5, s6, s7⟩; go_simp; with_reducible rfl)
        refine on_ HT_ 8 (some 25) (bv_ 10 511) (fun K hK => ?_)
        refine gs_ Try.func127 #[.agg #[.int .i64 ((rd_T26 l0 x5_1).f0.f0), .int .i64 ((rd_T26 l0 x5_1).f0.f1), .int .i64 ((rd_T26 l0 x5_1).f1.f0), .int .i64 ((rd_T26 l0 x5_1).f1.f1)], .agg #[.int .i64 ((rd_T26 l1 x5_1).f0.f0), .int .i64 ((rd_T26 l1 x5_1).f0.f1), .int .i64 ((rd_T26 l1 x5_1).f1.f0), .int .i64 ((rd_T26 l1 x5_1).f1.f1)]] ?_
        with_reducible refine (laws_eqMatrix.calls k1 ((rd_T26 l0 x5_1).f0.f0) ((rd_T26 l0 x5_1).f0.f1) ((rd_T26 l0 x5_1).f1.f0) ((rd_T26 l0 x5_1).f1.f1) ((rd_T26 l1 x5_1).f0.f0) ((rd_T26 l1 x5_1).f0.f1) ((rd_T26 l1 x5_1).f1.f0) ((rd_T26 l1 x5_1).f1.f1) false _ A7.out).mono ?_
        rintro e w12 ⟨rfl, hb⟩
        refine ⟨_, rfl, ?_⟩
        replace HB := bt_ HB hb
        (try clear hb)
        (try clear hb2)
        (try clear hk)
        (try clear hi)
        refine hK.out _ _ ⟨(clTr HB.out hw479_0 :), (clTr HB.out hw479_1 :), (clTr HB.out hw479_2 :), (clTr HB.out hw479_3 :), (clTr HB.out hw480_0 :), (clTr HB.out hw480_1 :), (clTr HB.out hw480_2 :), (clTr HB.out hw480_3 :)⟩ (fun hHeld => ?_)
        clear hK K
        refine nm_ (some 25) ?_
        refine pu_ HT_ 9 (some 26) (bv_ 10 1023) ?_
        refine done_ (done_of HT_.out (by kernel_rfl)) ?_
        try go_wp2
        go_ret
        exact ⟨es_, (bw_ HB).out⟩
      ·rw [if_neg c6] at H
       exact absurd H (by simp)
     ·rw [if_neg c5] at H
      exact absurd H (by simp)
    ·rw [if_neg c4] at H
     have c4b0 : decide (x5_1 < (l0.length : Int)) = false := decide_eq_false c4
     clear c4
     obtain rfl := si_ H
     go_wp2
     go_ret
     exact ⟨es_, (bw_ HB).out⟩
 ·rw [if_neg c3] at H
  have c3b0 : ((l0.length : Int) == (l1.length : Int)) = false := beq_eq_false_iff_ne.mpr c3
  have c3b1 : ((l0.length : Int) != (l1.length : Int)) = true := bne_iff_ne.mpr c3
  have c3b2 : (l0.length == l1.length) = false := by first | simpa using c3 | (simp at c3 ⊢; omega)
  obtain rfl := si_ H
  go_enter Try.func51, Try.ntmps51
  go_wp2
  go_ret
  exact ⟨es_, (bw_ HB).out⟩
/-! ### laws_eqSideS: function 52 -/
def laws_eqSideS.l0 : Nat → List (S59) → List (S59) → Int → Option (Bool)
 | 0, _, _, _ => none
 | k + 1, x0, x1, x5 => if x5 < (x0.length : Int) then (if 0 ≤ x5 then (if x5 < (x1.length : Int) then ((laws_eqSide.f ((rd_T59 x0 x5).f0.f0) ((rd_T59 x0 x5).f0.f1) ((rd_T59 x0 x5).f0.f2) ((rd_T59 x0 x5).f1) ((rd_T59 x1 x5).f0.f0) ((rd_T59 x1 x5).f0.f1) ((rd_T59 x1 x5).f0.f2) ((rd_T59 x1 x5).f1)).bind fun t484 => (if t484 = true then (laws_eqSideS.l0 k x0 x1 (wrap64 (x5 + 1))) else (some false))) else (none)) else (none)) else (some true)
def laws_eqSideS.f (k : Nat) (l0 : List (S59)) (l1 : List (S59)) : Option (Bool) := if (l0.length : Int) = (l1.length : Int) then (laws_eqSideS.l0 k l0 l1 0) else (some false)
def laws_eqSideS.T6 : Bool × List (List Nat × List Nat) := (true, [([], []), ([], []), ([0, 1], [0, 1]), ([2], [2]), ([], []), ([], []), ([4, 5], [4, 5]), ([6], [6]), ([3, 7], [3, 7]), ([8], [8])])
def laws_eqSideS.B6 : List Nat := [0, 0, 3, 7, 0, 0, 48, 112, 255, 511]
theorem laws_eqSideS.tab6 : rtab .any (opsOf Try.f52 6) = laws_eqSideS.T6 := by kernel_rfl
theorem laws_eqSideS.bits6 : waitsOk laws_eqSideS.T6.2 laws_eqSideS.B6 = true := by kernel_rfl
theorem laws_eqSideS.calls (k : Nat) (A0 : Option Addr) (c0 : Nat) (l0 : List (S59)) (A1 : Option Addr) (c1 : Nat) (l1 : List (S59)) (r : Bool) (w : World) (hr0 : Kd.C k59 w A0 l0.length l0) (hc0 : l0.length ≤ c0) (hr1 : Kd.C k59 w A1 l1.length l1) (hc1 : l1.length ≤ c1) (h : laws_eqSideS.f k l0 l1 = some r) :
  Calls Try.prog 52 #[.slice A0 l0.length c0, .slice A1 l1.length c1] w fun e w' => e = .returned (.bool r) ∧ Below w.heap.size w w' := by
 have hu59 := Try.underlying59
 have HR0 := Aside0.mk hr0
 have HC0 := Aside0.mk hc0
 clear hr0 hc0
 have HR1 := Aside0.mk hr1
 have HC1 := Aside0.mk hc1
 clear hr1 hc1
 have HB := Aside0.mk (Below.refl w.heap.size w)
 have H : (if (l0.length : Int) = (l1.length : Int) then (laws_eqSideS.l0 k l0 l1 0) else (some false)) = some r := h
 clear h
 by_cases c3 : (l0.length : Int) = (l1.length : Int)
 ·rw [if_pos c3] at H
  have c3b0 : ((l0.length : Int) == (l1.length : Int)) = true := beq_iff_eq.mpr c3
  have c3b1 : ((l0.length : Int) != (l1.length : Int)) = false := bne_eq_false_iff_eq.mpr c3
  have c3b2 : (l0.length == l1.length) = true := by first | simpa using c3 | (simp at c3 ⊢; omega)
  clear c3
  have H' := Aside0.mk H
  clear H
  go_enter Try.func52, Try.ntmps52
  go_wp2
  go_loopg [5] k (fun kq v5 w' => ∃ (x5_1 : Int), v5 = .int .i64 x5_1 ∧ Aside0 (laws_eqSideS.l0 kq l0 l1 x5_1 = some r) ∧ Aside0 (kq ≤ k) ∧ Aside0 (Below w.heap.size w w'))
  case atStart => exact ⟨(0), en_, H', ⟨Nat.le_refl _⟩, bw_ HB⟩
  case round =>
   clear H'
   try clear c1
   try clear p2
   try clear c3
   try clear c3b0
   try clear c3b1
   try clear c3b2
   obtain ⟨x5_1, rfl, HA, HK1, HB⟩ := hrel
   cases gk with
   | zero => exact absurd HA.out (by simp [laws_eqSideS.l0])
   | succ k1 =>
    have H := HA.out
    clear HA
    simp only [laws_eqSideS.l0] at H
    by_cases c4 : x5_1 < (l0.length : Int)
    ·rw [if_pos c4] at H
     have c4b0 : decide (x5_1 < (l0.length : Int)) = true := decide_eq_true c4
     clear c4
     by_cases c5 : 0 ≤ x5_1
     ·rw [if_pos c5] at H
      have c5b0 : decide (0 ≤ x5_1) = true := decide_eq_true c5
      clear c5
      by_cases c6 : x5_1 < (l1.length : Int)
      ·rw [if_pos c6] at H
       have c6b0 : decide (x5_1 < (l1.length : Int)) = true := decide_eq_true c6
       clear c6
       replace H := ob_ H
       obtain ⟨t484, A70, H⟩ := H
       have A7 := Aside0.mk A70
       clear A70
       by_cases c8 : t484 = true
       ·subst c8
        have H1 : (laws_eqSideS.l0 k1 l0 l1 (wrap64 (x5_1 + 1))) = some r := by rw [if_pos rfl] at H; exact H
        clear H
        have H := H1
        clear H1
        have H' := Aside0.mk H
        clear H
        try go_wp2
        replace HB := Aside0.mk (below_drew1 HB.out)
        have p482 : 0 ≤ (x5_1 : Int) := od_
        have q482 : x5_1 < (l0.length : Int) := od_
        obtain ⟨ad482, e482, hx482_0, hx482_1, hx482_2, hx482_3⟩ := at_T59 HR0.out x5_1 p482 q482
        have hw482_3 := hx482_3
        have hw482_2 := hx482_2
        have hw482_1 := hx482_1
        have hw482_0 := hx482_0
        cases e482
        replace hx482_0 := clTr HB.out hx482_0
        replace hx482_1 := clTr HB.out hx482_1
        replace hx482_2 := clTr HB.out hx482_2
        replace hx482_3 := clTr HB.out hx482_3
        replace p482 := eq_true p482
        replace q482 := eq_true q482
        have p483 : 0 ≤ (x5_1 : Int) := od_
        have q483 : x5_1 < (l1.length : Int) := od_
        obtain ⟨ad483, e483, hx483_0, hx483_1, hx483_2, hx483_3⟩ := at_T59 HR1.out x5_1 p483 q483
        have hw483_3 := hx483_3
        have hw483_2 := hx483_2
        have hw483_1 := hx483_1
        have hw483_0 := hx483_0
        cases e483
        replace hx483_0 := clTr HB.out hx483_0
        replace hx483_1 := clTr HB.out hx483_1
        replace hx483_2 := clTr HB.out hx483_2
        replace hx483_3 := clTr HB.out hx483_3
        replace p483 := eq_true p483
        replace q483 := eq_true q483
        refine start_ (n := 10) (S := fun w' => w'.cell? (ad482.add ((x5_1).toNat * 4)) = some (.int .i64 ((rd_T59 l0 x5_1).f0.f0)) ∧ w'.cell? ⟨(ad482.add ((x5_1).toNat * 4)).block, (ad482.add ((x5_1).toNat * 4)).off + 1, none⟩ = some (.int .i64 ((rd_T59 l0 x5_1).f0.f1)) ∧ w'.cell? ⟨(ad482.add ((x5_1).toNat * 4)).block, (ad482.add ((x5_1).toNat * 4)).off + 2, none⟩ = some (.int .i64 ((rd_T59 l0 x5_1).f0.f2)) ∧ w'.cell? ⟨(ad482.add ((x5_1).toNat * 4)).block, (ad482.add ((x5_1).toNat * 4)).off + 3, none⟩ = some (.bool ((rd_T59 l0 x5_1).f1)) ∧ w'.cell? (ad483.add ((x5_1).toNat * 4)) = some (.int .i64 ((rd_T59 l1 x5_1).f0.f0)) ∧ w'.cell? ⟨(ad483.add ((x5_1).toNat * 4)).block, (ad483.add ((x5_1).toNat * 4)).off + 1, none⟩ = some (.int .i64 ((rd_T59 l1 x5_1).f0.f1)) ∧ w'.cell? ⟨(ad483.add ((x5_1).toNat * 4)).block, (ad483.add ((x5_1).toNat * 4)).off + 2, none⟩ = some (.int .i64 ((rd_T59 l1 x5_1).f0.f2)) ∧ w'.cell? ⟨(ad483.add ((x5_1).toNat * 4)).block, (ad483.add ((x5_1).toNat * 4)).off + 3, none⟩ = some (.bool ((rd_T59 l1 x5_1).f1))) (ds := []) (bv_ 10 0) (by kernel_rfl) rfl rfl ⟨(clTr HB.out hw482_0 :), (clTr HB.out hw482_1 :), (clTr HB.out hw482_2 :), (clTr HB.out hw482_3 :), (clTr HB.out hw483_0 :), (clTr HB.out hw483_1 :), (clTr HB.out hw483_2 :), (clTr HB.out hw483_3 :)⟩ (fun hHeld => ?_); refine with_tabW laws_eqSideS.tab6 laws_eqSideS.bits6 (fun HT_ HW_ => ?_)
        generalize wr.drew = w9 at HB hx482_0 hx482_1 hx482_2 hx482_3 hx483_0 hx483_1 hx483_2 hx483_3 hHeld ⊢
        refine pu_ HT_ 0 (some 17) (bv_ 10 1) ?_
        refine pu_ HT_ 1 (some 18) (bv_ 10 3) ?_
        refine pu_ HT_ 2 (some 19) (bv_ 10 7) ?_
        refine pu_ HT_ 4 (some 21) (bv_ 10 23) ?_
        refine pu_ HT_ 5 (some 22) (bv_ 10 55) ?_
        refine pu_ HT_ 6 (some 23) (bv_ 10 119) ?_
        refine ta_ HT_ HW_ 3 (some 20) (bv_ 10 127) hHeld ?_ (hy := by rintro w' ⟨s0, s1, s2, s3, s4, s5, s6, s7⟩; go_simp; with_reducible rfl)
        refine ta_ HT_ HW_ 7 (some 24) (bv_ 10 255) hHeld ?_ (hy := by rintro w' ⟨s0, s1, s2, s3, s4, s5, s6, s7⟩; go_simp; with_reducible rfl)
        refine on_ HT_ 8 (some 25) (bv_ 10 511) (fun K hK => ?_)
        refine gs_ Try.func50 #[.agg #[.int .i64 ((rd_T59 l0 x5_1).f0.f0), .int .i64 ((rd_T59 l0 x5_1).f0.f1), .int .i64 ((rd_T59 l0 x5_1).f0.f2), .bool ((rd_T59 l0 x5_1).f1)], .agg #[.int .i64 ((rd_T59 l1 x5_1).f0.f0), .int .i64 ((rd_T59 l1 x5_1).f0.f1), .int .i64 ((rd_T59 l1 x5_1).f0.f2), .bool ((rd_T59 l1 x5_1).f1)]] ?_
        with_reducible refine (laws_eqSide.calls ((rd_T59 l0 x5_1).f0.f0) ((rd_T59 l0 x5_1).f0.f1) ((rd_T59 l0 x5_1).f0.f2) ((rd_T59 l0 x5_1).f1) ((rd_T59 l1 x5_1).f0.f0) ((rd_T59 l1 x5_1).f0.f1) ((rd_T59 l1 x5_1).f0.f2) ((rd_T59 l1 x5_1).f1) true _ A7.out).mono ?_
        rintro e w10 ⟨rfl, hb⟩
        refine ⟨_, rfl, ?_⟩
        replace HB := bt_ HB hb
        (try clear hb)
        (try clear hb2)
        (try clear hk)
        (try clear hi)
        refine hK.out _ _ ⟨(clTr HB.out hw482_0 :), (clTr HB.out hw482_1 :), (clTr HB.out hw482_2 :), (clTr HB.out hw482_3 :), (clTr HB.out hw483_0 :), (clTr HB.out hw483_1 :), (clTr HB.out hw483_2 :), (clTr HB.out hw483_3 :)⟩ (fun hHeld => ?_)
        clear hK K
        refine nm_ (some 25) ?_
        refine pu_ HT_ 9 (some 26) (bv_ 10 1023) ?_
        refine done_ (done_of HT_.out (by kernel_rfl)) ?_
        try go_wp2
        go_roundg k1
        case measure => have := HK1.out; omega
        case rel => exact ⟨(wrap64 (x5_1 + 1)), en_, H', ⟨by have := HK1.out; omega⟩, bw_ HB⟩
       ·replace c8 := Bool.eq_false_iff.mpr c8
        subst c8
        have H1 : (some false) = some r := by rw [if_neg (show ¬ (false = true) by decide)] at H; exact H
        clear H
        have H := H1
        clear H1
        obtain rfl := si_ H
        try go_wp2
        replace HB := Aside0.mk (below_drew1 HB.out)
        have p482 : 0 ≤ (x5_1 : Int) := od_
        have q482 : x5_1 < (l0.length : Int) := od_
        obtain ⟨ad482, e482, hx482_0, hx482_1, hx482_2, hx482_3⟩ := at_T59 HR0.out x5_1 p482 q482
        have hw482_3 := hx482_3
        have hw482_2 := hx482_2
        have hw482_1 := hx482_1
        have hw482_0 := hx482_0
        cases e482
        replace hx482_0 := clTr HB.out hx482_0
        replace hx482_1 := clTr HB.out hx482_1
        replace hx482_2 := clTr HB.out hx482_2
        replace hx482_3 := clTr HB.out hx482_3
        replace p482 := eq_true p482
        replace q482 := eq_true q482
        have p483 : 0 ≤ (x5_1 : Int) := od_
        have q483 : x5_1 < (l1.length : Int) := od_
        obtain ⟨ad483, e483, hx483_0, hx483_1, hx483_2, hx483_3⟩ := at_T59 HR1.out x5_1 p483 q483
        have hw483_3 := hx483_3
        have hw483_2 := hx483_2
        have hw483_1 := hx483_1
        have hw483_0 := hx483_0
        cases e483
        replace hx483_0 := clTr HB.out hx483_0
        replace hx483_1 := clTr HB.out hx483_1
        replace hx483_2 := clTr HB.out hx483_2
        replace hx483_3 := clTr HB.out hx483_3
        replace p483 := eq_true p483
        replace q483 := eq_true q483
        refine start_ (n := 10) (S := fun w' => w'.cell? (ad482.add ((x5_1).toNat * 4)) = some (.int .i64 ((rd_T59 l0 x5_1).f0.f0)) ∧ w'.cell? ⟨(ad482.add ((x5_1).toNat * 4)).block, (ad482.add ((x5_1).toNat * 4)).off + 1, none⟩ = some (.int .i64 ((rd_T59 l0 x5_1).f0.f1)) ∧ w'.cell? ⟨(ad482.add ((x5_1).toNat * 4)).block, (ad482.add ((x5_1).toNat * 4)).off + 2, none⟩ = some (.int .i64 ((rd_T59 l0 x5_1).f0.f2)) ∧ w'.cell? ⟨(ad482.add ((x5_1).toNat * 4)).block, (ad482.add ((x5_1).toNat * 4)).off + 3, none⟩ = some (.bool ((rd_T59 l0 x5_1).f1)) ∧ w'.cell? (ad483.add ((x5_1).toNat * 4)) = some (.int .i64 ((rd_T59 l1 x5_1).f0.f0)) ∧ w'.cell? ⟨(ad483.add ((x5_1).toNat * 4)).block, (ad483.add ((x5_1).toNat * 4)).off + 1, none⟩ = some (.int .i64 ((rd_T59 l1 x5_1).f0.f1)) ∧ w'.cell? ⟨(ad483.add ((x5_1).toNat * 4)).block, (ad483.add ((x5_1).toNat * 4)).off + 2, none⟩ = some (.int .i64 ((rd_T59 l1 x5_1).f0.f2)) ∧ w'.cell? ⟨(ad483.add ((x5_1).toNat * 4)).block, (ad483.add ((x5_1).toNat * 4)).off + 3, none⟩ = some (.bool ((rd_T59 l1 x5_1).f1))) (ds := []) (bv_ 10 0) (by kernel_rfl) rfl rfl ⟨(clTr HB.out hw482_0 :), (clTr HB.out hw482_1 :), (clTr HB.out hw482_2 :), (clTr HB.out hw482_3 :), (clTr HB.out hw483_0 :), (clTr HB.out hw483_1 :), (clTr HB.out hw483_2 :), (clTr HB.out hw483_3 :)⟩ (fun hHeld => ?_); refine with_tabW laws_eqSideS.tab6 laws_eqSideS.bits6 (fun HT_ HW_ => ?_)
        generalize wr.drew = w11 at HB hx482_0 hx482_1 hx482_2 hx482_3 hx483_0 hx483_1 hx483_2 hx483_3 hHeld ⊢
        refine pu_ HT_ 0 (some 17) (bv_ 10 1) ?_
        refine pu_ HT_ 1 (some 18) (bv_ 10 3) ?_
        refine pu_ HT_ 2 (some 19) (bv_ 10 7) ?_
        refine pu_ HT_ 4 (some 21) (bv_ 10 23) ?_
        refine pu_ HT_ 5 (some 22) (bv_ 10 55) ?_
        refine pu_ HT_ 6 (some 23) (bv_ 10 119) ?_
        refine ta_ HT_ HW_ 3 (some 20) (bv_ 10 127) hHeld ?_ (hy := by rintro w' ⟨s0, s1, s2, s3, s4, s5, s6, s7⟩; go_simp; with_reducible rfl)
        refine ta_ HT_ HW_ 7 (some 24) (bv_ 10 255) hHeld ?_ (hy := by rintro w' ⟨s0, s1, s2, s3, s4, s5, s6, s7⟩; go_simp; with_reducible rfl)
        refine on_ HT_ 8 (some 25) (bv_ 10 511) (fun K hK => ?_)
        refine gs_ Try.func50 #[.agg #[.int .i64 ((rd_T59 l0 x5_1).f0.f0), .int .i64 ((rd_T59 l0 x5_1).f0.f1), .int .i64 ((rd_T59 l0 x5_1).f0.f2), .bool ((rd_T59 l0 x5_1).f1)], .agg #[.int .i64 ((rd_T59 l1 x5_1).f0.f0), .int .i64 ((rd_T59 l1 x5_1).f0.f1), .int .i64 ((rd_T59 l1 x5_1).f0.f2), .bool ((rd_T59 l1 x5_1).f1)]] ?_
        with_reducible refine (laws_eqSide.calls ((rd_T59 l0 x5_1).f0.f0) ((rd_T59 l0 x5_1).f0.f1) ((rd_T59 l0 x5_1).f0.f2) ((rd_T59 l0 x5_1).f1) ((rd_T59 l1 x5_1).f0.f0) ((rd_T59 l1 x5_1).f0.f1) ((rd_T59 l1 x5_1).f0.f2) ((rd_T59 l1 x5_1).f1) false _ A7.out).mono ?_
        rintro e w12 ⟨rfl, hb⟩
        refine ⟨_, rfl, ?_⟩
        replace HB := bt_ HB hb
        (try clear hb)
        (try clear hb2)
        (try clear hk)
        (try clear hi)
        refine hK.out _ _ ⟨(clTr HB.out hw482_0 :), (clTr HB.out hw482_1 :), (clTr HB.out hw482_2 :), (clTr HB.out hw482_3 :), (clTr HB.out hw483_0 :), (clTr HB.out hw483_1 :), (clTr HB.out hw483_2 :), (clTr HB.out hw483_3 :)⟩ (fun hHeld => ?_)
        clear hK K
        refine nm_ (some 25) ?_
        refine pu_ HT_ 9 (some 26) (bv_ 10 1023) ?_
        refine done_ (done_of HT_.out (by kernel_rfl)) ?_
        try go_wp2
        go_ret
        exact ⟨es_, (bw_ HB).out⟩
      ·rw [if_neg c6] at H
       exact absurd H (by simp)
     ·rw [if_neg c5] at H
      exact absurd H (by simp)
    ·rw [if_neg c4] at H
     have c4b0 : decide (x5_1 < (l0.length : Int)) = false := decide_eq_false c4
     clear c4
     obtain rfl := si_ H
     go_wp2
     go_ret
     exact ⟨es_, (bw_ HB).out⟩
 ·rw [if_neg c3] at H
  have c3b0 : ((l0.length : Int) == (l1.length : Int)) = false := beq_eq_false_iff_ne.mpr c3
  have c3b1 : ((l0.length : Int) != (l1.length : Int)) = true := bne_iff_ne.mpr c3
  have c3b2 : (l0.length == l1.length) = false := by first | simpa using c3 | (simp at c3 ⊢; omega)
  obtain rfl := si_ H
  go_enter Try.func52, Try.ntmps52
  go_wp2
  go_ret
  exact ⟨es_, (bw_ HB).out⟩
/-! ### laws_eqInt64S: function 53 -/
def laws_eqInt64S.l0 : Nat → List Int → List Int → Int → Option (Bool)
 | 0, _, _, _ => none
 | k + 1, x0, x1, x5 => if x5 < (x0.length : Int) then (if 0 ≤ x5 then (if x5 < (x1.length : Int) then (if (rd x0 x5) = (rd x1 x5) then (laws_eqInt64S.l0 k x0 x1 (wrap64 (x5 + 1))) else (some false)) else (none)) else (none)) else (some true)
def laws_eqInt64S.f (k : Nat) (l0 : List Int) (l1 : List Int) : Option (Bool) := if (l0.length : Int) = (l1.length : Int) then (laws_eqInt64S.l0 k l0 l1 0) else (some false)
theorem laws_eqInt64S.calls (k : Nat) (A0 : Option Addr) (c0 : Nat) (l0 : List Int) (A1 : Option Addr) (c1 : Nat) (l1 : List Int) (r : Bool) (w : World) (hr0 : Kd.C (Kd.int .i64) w A0 l0.length l0) (hc0 : l0.length ≤ c0) (hr1 : Kd.C (Kd.int .i64) w A1 l1.length l1) (hc1 : l1.length ≤ c1) (h : laws_eqInt64S.f k l0 l1 = some r) :
  Calls Try.prog 53 #[.slice A0 l0.length c0, .slice A1 l1.length c1] w fun e w' => e = .returned (.bool r) ∧ Drawn0 w w' := by
 have HR0 := Aside0.mk hr0
 have HC0 := Aside0.mk hc0
 clear hr0 hc0
 have HR1 := Aside0.mk hr1
 have HC1 := Aside0.mk hc1
 clear hr1 hc1
 have H : (if (l0.length : Int) = (l1.length : Int) then (laws_eqInt64S.l0 k l0 l1 0) else (some false)) = some r := h
 clear h
 by_cases c3 : (l0.length : Int) = (l1.length : Int)
 ·rw [if_pos c3] at H
  have c3b0 : ((l0.length : Int) == (l1.length : Int)) = true := beq_iff_eq.mpr c3
  have c3b1 : ((l0.length : Int) != (l1.length : Int)) = false := bne_eq_false_iff_eq.mpr c3
  have c3b2 : (l0.length == l1.length) = true := by first | simpa using c3 | (simp at c3 ⊢; omega)
  clear c3
  have H' := Aside0.mk H
  clear H
  go_enter Try.func53, Try.ntmps53
  go_wp2
  repeat (go_quiet (fail); try go_wp2)
  go_loopg [5] k (fun kq v5 w' => ∃ (x5_1 : Int), v5 = .int .i64 x5_1 ∧ Aside0 (laws_eqInt64S.l0 kq l0 l1 x5_1 = some r) ∧ Aside0 (kq ≤ k) ∧ Drawn0 w w')
  case atStart => exact ⟨(0), en_, H', ⟨Nat.le_refl _⟩, de_⟩
  case round =>
   clear H'
   try clear c1
   try clear p2
   try clear c3
   try clear c3b0
   try clear c3b1
   try clear c3b2
   obtain ⟨x5_1, rfl, HA, HK1, ⟨m1, rfl⟩⟩ := hrel
   cases gk with
   | zero => exact absurd HA.out (by simp [laws_eqInt64S.l0])
   | succ k1 =>
    have H := HA.out
    clear HA
    simp only [laws_eqInt64S.l0] at H
    by_cases c4 : x5_1 < (l0.length : Int)
    ·rw [if_pos c4] at H
     have c4b0 : decide (x5_1 < (l0.length : Int)) = true := decide_eq_true c4
     clear c4
     by_cases c5 : 0 ≤ x5_1
     ·rw [if_pos c5] at H
      have c5b0 : decide (0 ≤ x5_1) = true := decide_eq_true c5
      clear c5
      by_cases c6 : x5_1 < (l1.length : Int)
      ·rw [if_pos c6] at H
       have c6b0 : decide (x5_1 < (l1.length : Int)) = true := decide_eq_true c6
       clear c6
       by_cases c7 : (rd l0 x5_1) = (rd l1 x5_1)
       ·rw [if_pos c7] at H
        have c7b0 : ((rd l0 x5_1) == (rd l1 x5_1)) = true := beq_iff_eq.mpr c7
        have c7b1 : ((rd l0 x5_1) != (rd l1 x5_1)) = false := bne_eq_false_iff_eq.mpr c7
        clear c7
        have H' := Aside0.mk H
        clear H
        have p485 : 0 ≤ (x5_1 : Int) := od_
        have q485 : x5_1 < (l0.length : Int) := od_
        obtain ⟨ad485, e485, hx485_0⟩ := Kd.at_int HR0.out x5_1 p485 q485
        cases e485
        replace p485 := eq_true p485
        replace q485 := eq_true q485
        have p486 : 0 ≤ (x5_1 : Int) := od_
        have q486 : x5_1 < (l1.length : Int) := od_
        obtain ⟨ad486, e486, hx486_0⟩ := Kd.at_int HR1.out x5_1 p486 q486
        cases e486
        replace p486 := eq_true p486
        replace q486 := eq_true q486
        go_wp2
        repeat (go_quiet (fail); try go_wp2)
        go_roundg k1
        case measure => have := HK1.out; omega
        case rel => exact ⟨(wrap64 (x5_1 + 1)), en_, H', ⟨by have := HK1.out; omega⟩, de_⟩
       ·rw [if_neg c7] at H
        have c7b0 : ((rd l0 x5_1) == (rd l1 x5_1)) = false := beq_eq_false_iff_ne.mpr c7
        have c7b1 : ((rd l0 x5_1) != (rd l1 x5_1)) = true := bne_iff_ne.mpr c7
        obtain rfl := si_ H
        have p485 : 0 ≤ (x5_1 : Int) := od_
        have q485 : x5_1 < (l0.length : Int) := od_
        obtain ⟨ad485, e485, hx485_0⟩ := Kd.at_int HR0.out x5_1 p485 q485
        cases e485
        replace p485 := eq_true p485
        replace q485 := eq_true q485
        have p486 : 0 ≤ (x5_1 : Int) := od_
        have q486 : x5_1 < (l1.length : Int) := od_
        obtain ⟨ad486, e486, hx486_0⟩ := Kd.at_int HR1.out x5_1 p486 q486
        cases e486
        replace p486 := eq_true p486
        replace q486 := eq_true q486
        go_wp2
        repeat (go_quiet (fail); try go_wp2)
        go_ret
        exact ⟨en_, de_⟩
      ·rw [if_neg c6] at H
       exact absurd H (by simp)
     ·rw [if_neg c5] at H
      exact absurd H (by simp)
    ·rw [if_neg c4] at H
     have c4b0 : decide (x5_1 < (l0.length : Int)) = false := decide_eq_false c4
     clear c4
     obtain rfl := si_ H
     go_wp2
     repeat (go_quiet (fail); try go_wp2)
     go_ret
     exact ⟨en_, de_⟩
 ·rw [if_neg c3] at H
  have c3b0 : ((l0.length : Int) == (l1.length : Int)) = false := beq_eq_false_iff_ne.mpr c3
  have c3b1 : ((l0.length : Int) != (l1.length : Int)) = true := bne_iff_ne.mpr c3
  have c3b2 : (l0.length == l1.length) = false := by first | simpa using c3 | (simp at c3 ⊢; omega)
  obtain rfl := si_ H
  go_enter Try.func53, Try.ntmps53
  go_wp2
  repeat (go_quiet (fail); try go_wp2)
  go_ret
  exact ⟨en_, de_⟩
end Go.Proofs.Ytbilincmcnnonaa.QS
