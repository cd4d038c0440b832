import Derived.Test.YtgoeelhiffbjlaaQBx84
namespace Go.Proofs.Ytgoeelhiffbjlaa.QB
set_option maxHeartbeats 8000000
set_option maxRecDepth 100000
open Go.RowKit YtgoeelhiffbjlaaW.PrintWords YtgoeelhiffbjlaaW.PrintLast YtgoeelhiffbjlaaW.PrintMore
attribute [local go_sem] isSome_setCell max2_int min2_int max_two min_two max_three min_three max_four min_four
set_option linter.unusedVariables false
set_option linter.unusedSimpArgs false
def laws_eqMatrixS.l0 : Nat → List (S46) → List (S46) → Int → Option (Bool)
 | 0, _, _, _ => none
 | k + 1, x0, x1, x5 => if x5 < (x0.length : Int) then (if 0 ≤ x5 then (if x5 < (x1.length : Int) then ((laws_eqMatrix.f k ((rd_T46 x0 x5).f0.f0) ((rd_T46 x0 x5).f0.f1) ((rd_T46 x0 x5).f1.f0) ((rd_T46 x0 x5).f1.f1) ((rd_T46 x1 x5).f0.f0) ((rd_T46 x1 x5).f0.f1) ((rd_T46 x1 x5).f1.f0) ((rd_T46 x1 x5).f1.f1)).bind fun t515 => (if t515 = true then (laws_eqMatrixS.l0 k x0 x1 (wrap64 (x5 + 1))) else (some false))) else (none)) else (none)) else (some true)
def laws_eqMatrixS.f (k : Nat) (l0 : List (S46)) (l1 : List (S46)) : Option (Bool) := if (l0.length : Int) = (l1.length : Int) then (laws_eqMatrixS.l0 k l0 l1 0) else (some false)
def laws_eqMatrixS.T6 : Bool × List (List Nat × List Nat) := (true, [([], []), ([], []), ([0, 1], [0, 1]), ([2], [2]), ([], []), ([], []), ([4, 5], [4, 5]), ([6], [6]), ([3, 7], [3, 7]), ([8], [8])])
def laws_eqMatrixS.B6 : List Nat := [0, 0, 3, 7, 0, 0, 48, 112, 255, 511]
theorem laws_eqMatrixS.tab6 : rtab .any (opsOf Try.f67 6) = laws_eqMatrixS.T6 := by kernel_rfl
theorem laws_eqMatrixS.bits6 : waitsOk laws_eqMatrixS.T6.2 laws_eqMatrixS.B6 = true := by kernel_rfl
theorem laws_eqMatrixS.calls (k : Nat) (A0 : Option Addr) (c0 : Nat) (l0 : List (S46)) (A1 : Option Addr) (c1 : Nat) (l1 : List (S46)) (r : Bool) (w : World) (hr0 : Kd.C k46 w A0 l0.length l0) (hc0 : l0.length ≤ c0) (hr1 : Kd.C k46 w A1 l1.length l1) (hc1 : l1.length ≤ c1) (h : laws_eqMatrixS.f k l0 l1 = some r) :
  Calls Try.prog 67 #[.slice A0 l0.length c0, .slice A1 l1.length c1] w fun e w' => e = .returned (.bool r) ∧ Below w.heap.size w w' := by
 have hu46 := Try.underlying46
 have HR0 := Aside0.mk hr0
 have HC0 := Aside0.mk hc0
 clear hr0 hc0
 have HR1 := Aside0.mk hr1
 have HC1 := Aside0.mk hc1
 clear hr1 hc1
 have HB := Aside0.mk (Below.refl w.heap.size w)
 unfold laws_eqMatrixS.f at h
 have H := h
 clear h
 by_cases c3 : (l0.length : Int) = (l1.length : Int)
 ·rw [if_pos c3] at H
  have c3b0 : ((l0.length : Int) == (l1.length : Int)) = true := beq_iff_eq.mpr c3
  have c3b1 : ((l0.length : Int) != (l1.length : Int)) = false := bne_eq_false_iff_eq.mpr c3
  have c3b2 : (l0.length == l1.length) = true := by first | simpa using c3 | (simp at c3 ⊢; omega)
  clear c3
  have H' := Aside0.mk H
  clear H
  go_enter Try.func67, Try.ntmps67
  go_wp2
  go_loopg [5] k (fun kq v5 w' => ∃ (x5_1 : Int), v5 = .int .i64 x5_1 ∧ Aside0 (laws_eqMatrixS.l0 kq l0 l1 x5_1 = some r) ∧ Aside0 (kq ≤ k) ∧ Aside0 (Below w.heap.size w w'))
  case atStart => exact ⟨(0), en_, H', ⟨Nat.le_refl _⟩, bw_ HB⟩
  clear H'
  try clear c1
  try clear c3
  try clear c3b0
  try clear c3b1
  try clear c3b2
  obtain ⟨x5_1, rfl, HA, HK1, HB⟩ := hrel
  cases gk with
  | zero => exact absurd HA.out (by simp [laws_eqMatrixS.l0])
  | succ k1 =>
   have H := HA.out
   clear HA
   simp only [laws_eqMatrixS.l0] at H
   replace H := il_ H
   rcases H with ⟨c4b0, H⟩ | ⟨c4b0, H⟩
   ·replace H := imn_ H
    obtain ⟨c5b0, H⟩ := H
    replace H := iln_ H
    obtain ⟨c6b0, H⟩ := H
    replace H := oc_ H
    obtain ⟨t515, A7, H⟩ := H
    replace H := ib_ H
    rcases H with ⟨rfl, H⟩ | ⟨rfl, H⟩
    ·have H' := Aside0.mk H
     clear H
     try go_wp2
     replace HB := be_ HB
     have p513 : 0 ≤ (x5_1 : Int) := od_
     have q513 : x5_1 < (l0.length : Int) := od_
     obtain ⟨ad513, e513, hx513_0, hx513_1, hx513_2, hx513_3⟩ := at_T46 HR0.out x5_1 p513 q513
     have hw513_3 := hx513_3
     have hw513_2 := hx513_2
     have hw513_1 := hx513_1
     have hw513_0 := hx513_0
     cases e513
     replace hx513_0 := clTr HB.out hx513_0
     replace hx513_1 := clTr HB.out hx513_1
     replace hx513_2 := clTr HB.out hx513_2
     replace hx513_3 := clTr HB.out hx513_3
     replace p513 := eq_true p513
     replace q513 := eq_true q513
     have p514 : 0 ≤ (x5_1 : Int) := od_
     have q514 : x5_1 < (l1.length : Int) := od_
     obtain ⟨ad514, e514, hx514_0, hx514_1, hx514_2, hx514_3⟩ := at_T46 HR1.out x5_1 p514 q514
     have hw514_3 := hx514_3
     have hw514_2 := hx514_2
     have hw514_1 := hx514_1
     have hw514_0 := hx514_0
     cases e514
     replace hx514_0 := clTr HB.out hx514_0
     replace hx514_1 := clTr HB.out hx514_1
     replace hx514_2 := clTr HB.out hx514_2
     replace hx514_3 := clTr HB.out hx514_3
     replace p514 := eq_true p514
     replace q514 := eq_true q514
     refine start_ (n := 10) (S := fun w' => w'.cell? (ad513.add ((x5_1).toNat * 4)) = some (.int .i64 ((rd_T46 l0 x5_1).f0.f0)) ∧ w'.cell? ⟨(ad513.add ((x5_1).toNat * 4)).block, (ad513.add ((x5_1).toNat * 4)).off + 1, none⟩ = some (.int .i64 ((rd_T46 l0 x5_1).f0.f1)) ∧ w'.cell? ⟨(ad513.add ((x5_1).toNat * 4)).block, (ad513.add ((x5_1).toNat * 4)).off + 2, none⟩ = some (.int .i64 ((rd_T46 l0 x5_1).f1.f0)) ∧ w'.cell? ⟨(ad513.add ((x5_1).toNat * 4)).block, (ad513.add ((x5_1).toNat * 4)).off + 3, none⟩ = some (.int .i64 ((rd_T46 l0 x5_1).f1.f1)) ∧ w'.cell? (ad514.add ((x5_1).toNat * 4)) = some (.int .i64 ((rd_T46 l1 x5_1).f0.f0)) ∧ w'.cell? ⟨(ad514.add ((x5_1).toNat * 4)).block, (ad514.add ((x5_1).toNat * 4)).off + 1, none⟩ = some (.int .i64 ((rd_T46 l1 x5_1).f0.f1)) ∧ w'.cell? ⟨(ad514.add ((x5_1).toNat * 4)).block, (ad514.add ((x5_1).toNat * 4)).off + 2, none⟩ = some (.int .i64 ((rd_T46 l1 x5_1).f1.f0)) ∧ w'.cell? ⟨(ad514.add ((x5_1).toNat * 4)).block, (ad514.add ((x5_1).toNat * 4)).off + 3, none⟩ = some (.int .i64 ((rd_T46 l1 x5_1).f1.f1))) (ds := []) (bv_ 10 0) (by kernel_rfl) rfl rfl ⟨(clTr HB.out hw513_0 :), (clTr HB.out hw513_1 :), (clTr HB.out hw513_2 :), (clTr HB.out hw513_3 :), (clTr HB.out hw514_0 :), (clTr HB.out hw514_1 :), (clTr HB.out hw514_2 :), (clTr HB.out hw514_3 :)⟩ (fun hHeld => ?_); refine with_tabW laws_eqMatrixS.tab6 laws_eqMatrixS.bits6 (fun HT_ HW_ => ?_)
     generalize wr.drew = w9 at HB hx513_0 hx513_1 hx513_2 hx513_3 hx514_0 hx514_1 hx514_2 hx514_3 hHeld ⊢
     refine px_ HT_ 0 17 1 ?_
     refine px_ HT_ 1 18 3 ?_
     refine px_ HT_ 2 19 7 ?_
     refine px_ HT_ 4 21 23 ?_
     refine px_ HT_ 5 22 55 ?_
     refine px_ HT_ 6 23 119 ?_
     refine ta_ HT_ HW_ 3 (some 20) (bv_ 10 127) hHeld ?_ (hy := by rintro w' ⟨s0, s1, s2, s3, s4, s5, s6, s7⟩; go_simp; with_reducible rfl)
     refine ta_ HT_ HW_ 7 (some 24) (bv_ 10 255) hHeld ?_ (hy := by rintro w' ⟨s0, s1, s2, s3, s4, s5, s6, s7⟩; go_simp; with_reducible rfl)
     refine on_ HT_ 8 (some 25) (bv_ 10 511) (fun K hK => ?_)
     refine gs_ Try.func145 #[.agg #[.int .i64 ((rd_T46 l0 x5_1).f0.f0), .int .i64 ((rd_T46 l0 x5_1).f0.f1), .int .i64 ((rd_T46 l0 x5_1).f1.f0), .int .i64 ((rd_T46 l0 x5_1).f1.f1)], .agg #[.int .i64 ((rd_T46 l1 x5_1).f0.f0), .int .i64 ((rd_T46 l1 x5_1).f0.f1), .int .i64 ((rd_T46 l1 x5_1).f1.f0), .int .i64 ((rd_T46 l1 x5_1).f1.f1)]] ?_
     with_reducible refine (laws_eqMatrix.calls k1 ((rd_T46 l0 x5_1).f0.f0) ((rd_T46 l0 x5_1).f0.f1) ((rd_T46 l0 x5_1).f1.f0) ((rd_T46 l0 x5_1).f1.f1) ((rd_T46 l1 x5_1).f0.f0) ((rd_T46 l1 x5_1).f0.f1) ((rd_T46 l1 x5_1).f1.f0) ((rd_T46 l1 x5_1).f1.f1) true _ A7.out).mono ?_
     rintro e w10 ⟨rfl, hb⟩
     refine ⟨_, rfl, ?_⟩
     replace HB := bt_ HB hb
     try clear hb
     refine hK.out _ _ ⟨(clTr HB.out hw513_0 :), (clTr HB.out hw513_1 :), (clTr HB.out hw513_2 :), (clTr HB.out hw513_3 :), (clTr HB.out hw514_0 :), (clTr HB.out hw514_1 :), (clTr HB.out hw514_2 :), (clTr HB.out hw514_3 :)⟩ (fun hHeld => ?_)
     clear hK K
     refine nm_ (some 25) ?_
     refine px_ HT_ 9 26 1023 ?_
     refine done_ (done_of HT_.out (by kernel_rfl)) ?_
     try go_wp2
     go_roundg k1
     case measure => have := HK1.out; omega
     case rel => exact ⟨(wrap64 (x5_1 + 1)), en_, H', ⟨by have := HK1.out; omega⟩, bw_ HB⟩
    obtain rfl := si_ H
    try go_wp2
    replace HB := be_ HB
    have p513 : 0 ≤ (x5_1 : Int) := od_
    have q513 : x5_1 < (l0.length : Int) := od_
    obtain ⟨ad513, e513, hx513_0, hx513_1, hx513_2, hx513_3⟩ := at_T46 HR0.out x5_1 p513 q513
    have hw513_3 := hx513_3
    have hw513_2 := hx513_2
    have hw513_1 := hx513_1
    have hw513_0 := hx513_0
    cases e513
    replace hx513_0 := clTr HB.out hx513_0
    replace hx513_1 := clTr HB.out hx513_1
    replace hx513_2 := clTr HB.out hx513_2
    replace hx513_3 := clTr HB.out hx513_3
    replace p513 := eq_true p513
    replace q513 := eq_true q513
    have p514 : 0 ≤ (x5_1 : Int) := od_
    have q514 : x5_1 < (l1.length : Int) := od_
    obtain ⟨ad514, e514, hx514_0, hx514_1, hx514_2, hx514_3⟩ := at_T46 HR1.out x5_1 p514 q514
    have hw514_3 := hx514_3
    have hw514_2 := hx514_2
    have hw514_1 := hx514_1
    have hw514_0 := hx514_0
    cases e514
    replace hx514_0 := clTr HB.out hx514_0
    replace hx514_1 := clTr HB.out hx514_1
    replace hx514_2 := clTr HB.out hx514_2
    replace hx514_3 := clTr HB.out hx514_3
    replace p514 := eq_true p514
    replace q514 := eq_true q514
    refine start_ (n := 10) (S := fun w' => w'.cell? (ad513.add ((x5_1).toNat * 4)) = some (.int .i64 ((rd_T46 l0 x5_1).f0.f0)) ∧ w'.cell? ⟨(ad513.add ((x5_1).toNat * 4)).block, (ad513.add ((x5_1).toNat * 4)).off + 1, none⟩ = some (.int .i64 ((rd_T46 l0 x5_1).f0.f1)) ∧ w'.cell? ⟨(ad513.add ((x5_1).toNat * 4)).block, (ad513.add ((x5_1).toNat * 4)).off + 2, none⟩ = some (.int .i64 ((rd_T46 l0 x5_1).f1.f0)) ∧ w'.cell? ⟨(ad513.add ((x5_1).toNat * 4)).block, (ad513.add ((x5_1).toNat * 4)).off + 3, none⟩ = some (.int .i64 ((rd_T46 l0 x5_1).f1.f1)) ∧ w'.cell? (ad514.add ((x5_1).toNat * 4)) = some (.int .i64 ((rd_T46 l1 x5_1).f0.f0)) ∧ w'.cell? ⟨(ad514.add ((x5_1).toNat * 4)).block, (ad514.add ((x5_1).toNat * 4)).off + 1, none⟩ = some (.int .i64 ((rd_T46 l1 x5_1).f0.f1)) ∧ w'.cell? ⟨(ad514.add ((x5_1).toNat * 4)).block, (ad514.add ((x5_1).toNat * 4)).off + 2, none⟩ = some (.int .i64 ((rd_T46 l1 x5_1).f1.f0)) ∧ w'.cell? ⟨(ad514.add ((x5_1).toNat * 4)).block, (ad514.add ((x5_1).toNat * 4)).off + 3, none⟩ = some (.int .i64 ((rd_T46 l1 x5_1).f1.f1))) (ds := []) (bv_ 10 0) (by kernel_rfl) rfl rfl ⟨(clTr HB.out hw513_0 :), (clTr HB.out hw513_1 :), (clTr HB.out hw513_2 :), (clTr HB.out hw513_3 :), (clTr HB.out hw514_0 :), (clTr HB.out hw514_1 :), (clTr HB.out hw514_2 :), (clTr HB.out hw514_3 :)⟩ (fun hHeld => ?_); refine with_tabW laws_eqMatrixS.tab6 laws_eqMatrixS.bits6 (fun HT_ HW_ => ?_)
    generalize wr.drew = w11 at HB hx513_0 hx513_1 hx513_2 hx513_3 hx514_0 hx514_1 hx514_2 hx514_3 hHeld ⊢
    refine px_ HT_ 0 17 1 ?_
    refine px_ HT_ 1 18 3 ?_
    refine px_ HT_ 2 19 7 ?_
    refine px_ HT_ 4 21 23 ?_
    refine px_ HT_ 5 22 55 ?_
    refine px_ HT_ 6 23 119 ?_
    refine ta_ HT_ HW_ 3 (some 20) (bv_ 10 127) hHeld ?_ (hy := by rintro w' ⟨s0, s1, s2, s3, s4, s5, s6, s7⟩; go_simp; with_reducible rfl)
    refine ta_ HT_ HW_ 7 (some 24) (bv_ 10 255) hHeld ?_ (hy := by rintro w' ⟨s0, s1, s2, s3, s4, s5, s6, s7⟩; go_simp; with_reducible rfl)
    refine on_ HT_ 8 (some 25) (bv_ 10 511) (fun K hK => ?_)
    refine gs_ Try.func145 #[.agg #[.int .i64 ((rd_T46 l0 x5_1).f0.f0), .int .i64 ((rd_T46 l0 x5_1).f0.f1), .int .i64 ((rd_T46 l0 x5_1).f1.f0), .int .i64 ((rd_T46 l0 x5_1).f1.f1)], .agg #[.int .i64 ((rd_T46 l1 x5_1).f0.f0), .int .i64 ((rd_T46 l1 x5_1).f0.f1), .int .i64 ((rd_T46 l1 x5_1).f1.f0), .int .i64 ((rd_T46 l1 x5_1).f1.f1)]] ?_
    with_reducible refine (laws_eqMatrix.calls k1 ((rd_T46 l0 x5_1).f0.f0) ((rd_T46 l0 x5_1).f0.f1) ((rd_T46 l0 x5_1).f1.f0) ((rd_T46 l0 x5_1).f1.f1) ((rd_T46 l1 x5_1).f0.f0) ((rd_T46 l1 x5_1).f0.f1) ((rd_T46 l1 x5_1).f1.f0) ((rd_T46 l1 x5_1).f1.f1) false _ A7.out).mono ?_
    rintro e w12 ⟨rfl, hb⟩
    refine ⟨_, rfl, ?_⟩
    replace HB := bt_ HB hb
    try clear hb
    refine hK.out _ _ ⟨(clTr HB.out hw513_0 :), (clTr HB.out hw513_1 :), (clTr HB.out hw513_2 :), (clTr HB.out hw513_3 :), (clTr HB.out hw514_0 :), (clTr HB.out hw514_1 :), (clTr HB.out hw514_2 :), (clTr HB.out hw514_3 :)⟩ (fun hHeld => ?_)
    clear hK K
    refine nm_ (some 25) ?_
    refine px_ HT_ 9 26 1023 ?_
    refine done_ (done_of HT_.out (by kernel_rfl)) ?_
    try go_wp2
    go_ret
    exact ⟨es_, (bw_ HB).out⟩
   obtain rfl := si_ H
   go_wp2
   go_ret
   exact ⟨es_, (bw_ HB).out⟩
 rw [if_neg c3] at H
 have c3b0 : ((l0.length : Int) == (l1.length : Int)) = false := beq_eq_false_iff_ne.mpr c3
 have c3b1 : ((l0.length : Int) != (l1.length : Int)) = true := bne_iff_ne.mpr c3
 have c3b2 : (l0.length == l1.length) = false := by first | simpa using c3 | (simp at c3 ⊢; omega)
 obtain rfl := si_ H
 go_enter Try.func67, Try.ntmps67
 go_wp2
 go_ret
 exact ⟨es_, (bw_ HB).out⟩
def laws_eqBall.f (a0_0 a0_1 a0_2 a1_0 a1_1 a1_2 : Int) : Option (Bool) := if a0_0 = a1_0 then (if a0_1 = a1_1 then (if a0_2 = a1_2 then (some true) else (some false)) else (some false)) else (some false)
theorem laws_eqBall.calls (a0_0 a0_1 a0_2 a1_0 a1_1 a1_2 : Int) (r : Bool) (w : World) (h : laws_eqBall.f a0_0 a0_1 a0_2 a1_0 a1_1 a1_2 = some r) :
  Calls Try.prog 183 #[.agg #[.int .i64 a0_0, .int .i64 a0_1, .int .i64 a0_2], .agg #[.int .i64 a1_0, .int .i64 a1_1, .int .i64 a1_2]] w fun e w' => e = .returned (.bool r) ∧ Below w.heap.size w w' := by
 have hu25 := Try.underlying25
 have HB := Aside0.mk (Below.refl w.heap.size w)
 unfold laws_eqBall.f at h
 have H := h
 clear h
 replace H := ie_ H
 rcases H with ⟨c3b0, c3b1, H⟩ | ⟨c3, c3b0, c3b1, H⟩
 ·replace H := ie_ H
  rcases H with ⟨c4b0, c4b1, H⟩ | ⟨c4, c4b0, c4b1, H⟩
  ·replace H := ie_ H
   rcases H with ⟨c5b0, c5b1, H⟩ | ⟨c5, c5b0, c5b1, H⟩
   ·obtain rfl := si_ H
    go_enter Try.func183, Try.ntmps183
    go_wp2_with (first | ((refine gd_ 2 ?_); refine by_ 2 #[.int .i64 a0_0, .int .i64 a0_1, .int .i64 a0_2] 25 HB ?_; intro gb516 hg w6 BK516 hb GW516 HB_; replace HB := HB_; clear hb hg) | ((refine gd_ 3 ?_); refine by_ 3 #[.int .i64 a1_0, .int .i64 a1_1, .int .i64 a1_2] 25 HB ?_; intro gb517 hg w7 BK517 hb GW517 HB_; have NB516_517 := bm_ BK516 hg; have NB517_516 := bn_ BK516 hg; replace BK516 := bb_ BK516 hb; replace HB := HB_; clear hb hg; have hnb8 := NB516_517.out; have hnc8 := NB517_516.out; obtain ⟨hcz9_0, hcz9_1, hcz9_2, hfz9_0, hfz9_1, hfz9_2⟩ := ch3_ BK516; obtain ⟨hcz10_0, hcz10_1, hcz10_2, hfz10_0, hfz10_1, hfz10_2⟩ := ch3_ BK517))
    go_ret
    exact ⟨es_, (bw_ HB).out⟩
   obtain rfl := si_ H
   go_enter Try.func183, Try.ntmps183
   go_wp2_with (first | ((refine gd_ 2 ?_); refine by_ 2 #[.int .i64 a0_0, .int .i64 a0_1, .int .i64 a0_2] 25 HB ?_; intro gb516 hg w11 BK516 hb GW516 HB_; replace HB := HB_; clear hb hg) | ((refine gd_ 3 ?_); refine by_ 3 #[.int .i64 a1_0, .int .i64 a1_1, .int .i64 a1_2] 25 HB ?_; intro gb517 hg w12 BK517 hb GW517 HB_; have NB516_517 := bm_ BK516 hg; have NB517_516 := bn_ BK516 hg; replace BK516 := bb_ BK516 hb; replace HB := HB_; clear hb hg; have hnb13 := NB516_517.out; have hnc13 := NB517_516.out; obtain ⟨hcz14_0, hcz14_1, hcz14_2, hfz14_0, hfz14_1, hfz14_2⟩ := ch3_ BK516; obtain ⟨hcz15_0, hcz15_1, hcz15_2, hfz15_0, hfz15_1, hfz15_2⟩ := ch3_ BK517))
   go_ret
   exact ⟨es_, (bw_ HB).out⟩
  obtain rfl := si_ H
  go_enter Try.func183, Try.ntmps183
  go_wp2_with (first | ((refine gd_ 2 ?_); refine by_ 2 #[.int .i64 a0_0, .int .i64 a0_1, .int .i64 a0_2] 25 HB ?_; intro gb516 hg w16 BK516 hb GW516 HB_; replace HB := HB_; clear hb hg) | ((refine gd_ 3 ?_); refine by_ 3 #[.int .i64 a1_0, .int .i64 a1_1, .int .i64 a1_2] 25 HB ?_; intro gb517 hg w17 BK517 hb GW517 HB_; have NB516_517 := bm_ BK516 hg; have NB517_516 := bn_ BK516 hg; replace BK516 := bb_ BK516 hb; replace HB := HB_; clear hb hg; have hnb18 := NB516_517.out; have hnc18 := NB517_516.out; obtain ⟨hcz19_0, hcz19_1, hcz19_2, hfz19_0, hfz19_1, hfz19_2⟩ := ch3_ BK516; obtain ⟨hcz20_0, hcz20_1, hcz20_2, hfz20_0, hfz20_1, hfz20_2⟩ := ch3_ BK517))
  go_ret
  exact ⟨es_, (bw_ HB).out⟩
 obtain rfl := si_ H
 go_enter Try.func183, Try.ntmps183
 go_wp2_with (first | ((refine gd_ 2 ?_); refine by_ 2 #[.int .i64 a0_0, .int .i64 a0_1, .int .i64 a0_2] 25 HB ?_; intro gb516 hg w21 BK516 hb GW516 HB_; replace HB := HB_; clear hb hg) | ((refine gd_ 3 ?_); refine by_ 3 #[.int .i64 a1_0, .int .i64 a1_1, .int .i64 a1_2] 25 HB ?_; intro gb517 hg w22 BK517 hb GW517 HB_; have NB516_517 := bm_ BK516 hg; have NB517_516 := bn_ BK516 hg; replace BK516 := bb_ BK516 hb; replace HB := HB_; clear hb hg; have hnb23 := NB516_517.out; have hnc23 := NB517_516.out; obtain ⟨hcz24_0, hcz24_1, hcz24_2, hfz24_0, hfz24_1, hfz24_2⟩ := ch3_ BK516; obtain ⟨hcz25_0, hcz25_1, hcz25_2, hfz25_0, hfz25_1, hfz25_2⟩ := ch3_ BK517))
 go_ret
 exact ⟨es_, (bw_ HB).out⟩
def laws_eqSide.f (a0_0 a0_1 a0_2 : Int) (a0_3 : Bool) (a1_0 a1_1 a1_2 : Int) (a1_3 : Bool) : Option (Bool) := (laws_eqBall.f a0_0 a0_1 a0_2 a1_0 a1_1 a1_2).bind fun t520 => (if t520 = true then (if (a0_3 != a1_3) = true then (some false) else (some true)) else (some false))
theorem laws_eqSide.calls (a0_0 a0_1 a0_2 : Int) (a0_3 : Bool) (a1_0 a1_1 a1_2 : Int) (a1_3 r : Bool) (w : World) (h : laws_eqSide.f a0_0 a0_1 a0_2 a0_3 a1_0 a1_1 a1_2 a1_3 = some r) :
  Calls Try.prog 146 #[.agg #[.int .i64 a0_0, .int .i64 a0_1, .int .i64 a0_2, .bool a0_3], .agg #[.int .i64 a1_0, .int .i64 a1_1, .int .i64 a1_2, .bool a1_3]] w fun e w' => e = .returned (.bool r) ∧ Below w.heap.size w w' := by
 have hu150 := Try.underlying150
 have hu25 := Try.underlying25
 have HB := Aside0.mk (Below.refl w.heap.size w)
 unfold laws_eqSide.f at h
 have H := h
 clear h
 replace H := oc_ H
 obtain ⟨t520, A3, H⟩ := H
 replace H := ib_ H
 rcases H with ⟨rfl, H⟩ | ⟨rfl, H⟩
 ·by_cases c5 : (a0_3 != a1_3) = true
  ·rw [if_pos c5] at H
   have c5b0 : (a0_3 != a1_3) = true := c5
   (try (have c5b1 : decide (a0_3 = a1_3) = false := by simpa using c5))
   (try (have c5b2 : (a0_3 == a1_3) = false := by simpa using c5))
   (try (have c5b3 : ¬ (a0_3 = a1_3) := by simpa using c5))
   clear c5
   obtain rfl := si_ H
   go_enter Try.func146, Try.ntmps146
   go_wp2_with (first | ((refine gd_ 2 ?_); refine by_ 2 #[.int .i64 a0_0, .int .i64 a0_1, .int .i64 a0_2, .bool a0_3] 150 HB ?_; intro gb518 hg w6 BK518 hb GW518 HB_; replace HB := HB_; clear hb hg) | ((refine gd_ 3 ?_); refine by_ 3 #[.int .i64 a1_0, .int .i64 a1_1, .int .i64 a1_2, .bool a1_3] 150 HB ?_; intro gb519 hg w7 BK519 hb GW519 HB_; have NB518_519 := bm_ BK518 hg; have NB519_518 := bn_ BK518 hg; replace BK518 := bb_ BK518 hb; replace HB := HB_; clear hb hg; have hnb8 := NB518_519.out; have hnc8 := NB519_518.out; obtain ⟨hcz9_0, hcz9_1, hcz9_2, hcz9_3, hfz9_0, hfz9_1, hfz9_2, hfz9_3⟩ := ch4_ BK518; obtain ⟨hcz10_0, hcz10_1, hcz10_2, hcz10_3, hfz10_0, hfz10_1, hfz10_2, hfz10_3⟩ := ch4_ BK519) | ((refine gc_ 183 ?_); refine ge_ 9 Try.func183 #[.agg #[.int .i64 a0_0, .int .i64 a0_1, .int .i64 a0_2], .agg #[.int .i64 a1_0, .int .i64 a1_1, .int .i64 a1_2]] ?_; (with_reducible refine (laws_eqBall.calls a0_0 a0_1 a0_2 a1_0 a1_1 a1_2 true _ A3.out).mono ?_); rintro e w11 ⟨rfl, hb⟩; refine ⟨_, rfl, ?_⟩; replace BK518 := bb_ BK518 hb; replace BK519 := bb_ BK519 hb; replace HB := bt_ HB hb; (try clear hb); obtain ⟨hcz12_0, hcz12_1, hcz12_2, hcz12_3, hfz12_0, hfz12_1, hfz12_2, hfz12_3⟩ := ch4_ BK518; obtain ⟨hcz13_0, hcz13_1, hcz13_2, hcz13_3, hfz13_0, hfz13_1, hfz13_2, hfz13_3⟩ := ch4_ BK519))
   go_ret
   exact ⟨es_, (bw_ HB).out⟩
  rw [if_neg c5] at H
  have c5b0 : (a0_3 != a1_3) = false := by simpa using c5
  (try (have c5b1 : decide (a0_3 = a1_3) = true := by simpa using c5))
  (try (have c5b2 : (a0_3 == a1_3) = true := by simpa using c5))
  clear c5
  obtain rfl := si_ H
  go_enter Try.func146, Try.ntmps146
  go_wp2_with (first | ((refine gd_ 2 ?_); refine by_ 2 #[.int .i64 a0_0, .int .i64 a0_1, .int .i64 a0_2, .bool a0_3] 150 HB ?_; intro gb518 hg w14 BK518 hb GW518 HB_; replace HB := HB_; clear hb hg) | ((refine gd_ 3 ?_); refine by_ 3 #[.int .i64 a1_0, .int .i64 a1_1, .int .i64 a1_2, .bool a1_3] 150 HB ?_; intro gb519 hg w15 BK519 hb GW519 HB_; have NB518_519 := bm_ BK518 hg; have NB519_518 := bn_ BK518 hg; replace BK518 := bb_ BK518 hb; replace HB := HB_; clear hb hg; have hnb16 := NB518_519.out; have hnc16 := NB519_518.out; obtain ⟨hcz17_0, hcz17_1, hcz17_2, hcz17_3, hfz17_0, hfz17_1, hfz17_2, hfz17_3⟩ := ch4_ BK518; obtain ⟨hcz18_0, hcz18_1, hcz18_2, hcz18_3, hfz18_0, hfz18_1, hfz18_2, hfz18_3⟩ := ch4_ BK519) | ((refine gc_ 183 ?_); refine ge_ 9 Try.func183 #[.agg #[.int .i64 a0_0, .int .i64 a0_1, .int .i64 a0_2], .agg #[.int .i64 a1_0, .int .i64 a1_1, .int .i64 a1_2]] ?_; (with_reducible refine (laws_eqBall.calls a0_0 a0_1 a0_2 a1_0 a1_1 a1_2 true _ A3.out).mono ?_); rintro e w19 ⟨rfl, hb⟩; refine ⟨_, rfl, ?_⟩; replace BK518 := bb_ BK518 hb; replace BK519 := bb_ BK519 hb; replace HB := bt_ HB hb; (try clear hb); obtain ⟨hcz20_0, hcz20_1, hcz20_2, hcz20_3, hfz20_0, hfz20_1, hfz20_2, hfz20_3⟩ := ch4_ BK518; obtain ⟨hcz21_0, hcz21_1, hcz21_2, hcz21_3, hfz21_0, hfz21_1, hfz21_2, hfz21_3⟩ := ch4_ BK519))
  go_ret
  exact ⟨es_, (bw_ HB).out⟩
 obtain rfl := si_ H
 go_enter Try.func146, Try.ntmps146
 go_wp2_with (first | ((refine gd_ 2 ?_); refine by_ 2 #[.int .i64 a0_0, .int .i64 a0_1, .int .i64 a0_2, .bool a0_3] 150 HB ?_; intro gb518 hg w22 BK518 hb GW518 HB_; replace HB := HB_; clear hb hg) | ((refine gd_ 3 ?_); refine by_ 3 #[.int .i64 a1_0, .int .i64 a1_1, .int .i64 a1_2, .bool a1_3] 150 HB ?_; intro gb519 hg w23 BK519 hb GW519 HB_; have NB518_519 := bm_ BK518 hg; have NB519_518 := bn_ BK518 hg; replace BK518 := bb_ BK518 hb; replace HB := HB_; clear hb hg; have hnb24 := NB518_519.out; have hnc24 := NB519_518.out; obtain ⟨hcz25_0, hcz25_1, hcz25_2, hcz25_3, hfz25_0, hfz25_1, hfz25_2, hfz25_3⟩ := ch4_ BK518; obtain ⟨hcz26_0, hcz26_1, hcz26_2, hcz26_3, hfz26_0, hfz26_1, hfz26_2, hfz26_3⟩ := ch4_ BK519) | ((refine gc_ 183 ?_); refine ge_ 9 Try.func183 #[.agg #[.int .i64 a0_0, .int .i64 a0_1, .int .i64 a0_2], .agg #[.int .i64 a1_0, .int .i64 a1_1, .int .i64 a1_2]] ?_; (with_reducible refine (laws_eqBall.calls a0_0 a0_1 a0_2 a1_0 a1_1 a1_2 false _ A3.out).mono ?_); rintro e w27 ⟨rfl, hb⟩; refine ⟨_, rfl, ?_⟩; replace BK518 := bb_ BK518 hb; replace BK519 := bb_ BK519 hb; replace HB := bt_ HB hb; (try clear hb)))
 go_ret
 exact ⟨es_, (bw_ HB).out⟩
def laws_eqSideS.l0 : Nat → List (S150) → List (S150) → Int → Option (Bool)
 | 0, _, _, _ => none
 | k + 1, x0, x1, x5 => if x5 < (x0.length : Int) then (if 0 ≤ x5 then (if x5 < (x1.length : Int) then ((laws_eqSide.f ((rd_T150 x0 x5).f0.f0) ((rd_T150 x0 x5).f0.f1) ((rd_T150 x0 x5).f0.f2) ((rd_T150 x0 x5).f1) ((rd_T150 x1 x5).f0.f0) ((rd_T150 x1 x5).f0.f1) ((rd_T150 x1 x5).f0.f2) ((rd_T150 x1 x5).f1)).bind fun t523 => (if t523 = true then (laws_eqSideS.l0 k x0 x1 (wrap64 (x5 + 1))) else (some false))) else (none)) else (none)) else (some true)
def laws_eqSideS.f (k : Nat) (l0 : List (S150)) (l1 : List (S150)) : Option (Bool) := if (l0.length : Int) = (l1.length : Int) then (laws_eqSideS.l0 k l0 l1 0) else (some false)
def laws_eqSideS.T6 : Bool × List (List Nat × List Nat) := (true, [([], []), ([], []), ([0, 1], [0, 1]), ([2], [2]), ([], []), ([], []), ([4, 5], [4, 5]), ([6], [6]), ([3, 7], [3, 7]), ([8], [8])])
def laws_eqSideS.B6 : List Nat := [0, 0, 3, 7, 0, 0, 48, 112, 255, 511]
theorem laws_eqSideS.tab6 : rtab .any (opsOf Try.f68 6) = laws_eqSideS.T6 := by kernel_rfl
theorem laws_eqSideS.bits6 : waitsOk laws_eqSideS.T6.2 laws_eqSideS.B6 = true := by kernel_rfl
theorem laws_eqSideS.calls (k : Nat) (A0 : Option Addr) (c0 : Nat) (l0 : List (S150)) (A1 : Option Addr) (c1 : Nat) (l1 : List (S150)) (r : Bool) (w : World) (hr0 : Kd.C k150 w A0 l0.length l0) (hc0 : l0.length ≤ c0) (hr1 : Kd.C k150 w A1 l1.length l1) (hc1 : l1.length ≤ c1) (h : laws_eqSideS.f k l0 l1 = some r) :
  Calls Try.prog 68 #[.slice A0 l0.length c0, .slice A1 l1.length c1] w fun e w' => e = .returned (.bool r) ∧ Below w.heap.size w w' := by
 have hu150 := Try.underlying150
 have HR0 := Aside0.mk hr0
 have HC0 := Aside0.mk hc0
 clear hr0 hc0
 have HR1 := Aside0.mk hr1
 have HC1 := Aside0.mk hc1
 clear hr1 hc1
 have HB := Aside0.mk (Below.refl w.heap.size w)
 unfold laws_eqSideS.f at h
 have H := h
 clear h
 by_cases c3 : (l0.length : Int) = (l1.length : Int)
 ·rw [if_pos c3] at H
  have c3b0 : ((l0.length : Int) == (l1.length : Int)) = true := beq_iff_eq.mpr c3
  have c3b1 : ((l0.length : Int) != (l1.length : Int)) = false := bne_eq_false_iff_eq.mpr c3
  have c3b2 : (l0.length == l1.length) = true := by first | simpa using c3 | (simp at c3 ⊢; omega)
  clear c3
  have H' := Aside0.mk H
  clear H
  go_enter Try.func68, Try.ntmps68
  go_wp2
  go_loopg [5] k (fun kq v5 w' => ∃ (x5_1 : Int), v5 = .int .i64 x5_1 ∧ Aside0 (laws_eqSideS.l0 kq l0 l1 x5_1 = some r) ∧ Aside0 (kq ≤ k) ∧ Aside0 (Below w.heap.size w w'))
  case atStart => exact ⟨(0), en_, H', ⟨Nat.le_refl _⟩, bw_ HB⟩
  clear H'
  try clear c1
  try clear c3
  try clear c3b0
  try clear c3b1
  try clear c3b2
  obtain ⟨x5_1, rfl, HA, HK1, HB⟩ := hrel
  cases gk with
  | zero => exact absurd HA.out (by simp [laws_eqSideS.l0])
  | succ k1 =>
   have H := HA.out
   clear HA
   simp only [laws_eqSideS.l0] at H
   replace H := il_ H
   rcases H with ⟨c4b0, H⟩ | ⟨c4b0, H⟩
   ·replace H := imn_ H
    obtain ⟨c5b0, H⟩ := H
    replace H := iln_ H
    obtain ⟨c6b0, H⟩ := H
    replace H := oc_ H
    obtain ⟨t523, A7, H⟩ := H
    replace H := ib_ H
    rcases H with ⟨rfl, H⟩ | ⟨rfl, H⟩
    ·have H' := Aside0.mk H
     clear H
     try go_wp2
     replace HB := be_ HB
     have p521 : 0 ≤ (x5_1 : Int) := od_
     have q521 : x5_1 < (l0.length : Int) := od_
     obtain ⟨ad521, e521, hx521_0, hx521_1, hx521_2, hx521_3⟩ := at_T150 HR0.out x5_1 p521 q521
     have hw521_3 := hx521_3
     have hw521_2 := hx521_2
     have hw521_1 := hx521_1
     have hw521_0 := hx521_0
     cases e521
     replace hx521_0 := clTr HB.out hx521_0
     replace hx521_1 := clTr HB.out hx521_1
     replace hx521_2 := clTr HB.out hx521_2
     replace hx521_3 := clTr HB.out hx521_3
     replace p521 := eq_true p521
     replace q521 := eq_true q521
     have p522 : 0 ≤ (x5_1 : Int) := od_
     have q522 : x5_1 < (l1.length : Int) := od_
     obtain ⟨ad522, e522, hx522_0, hx522_1, hx522_2, hx522_3⟩ := at_T150 HR1.out x5_1 p522 q522
     have hw522_3 := hx522_3
     have hw522_2 := hx522_2
     have hw522_1 := hx522_1
     have hw522_0 := hx522_0
     cases e522
     replace hx522_0 := clTr HB.out hx522_0
     replace hx522_1 := clTr HB.out hx522_1
     replace hx522_2 := clTr HB.out hx522_2
     replace hx522_3 := clTr HB.out hx522_3
     replace p522 := eq_true p522
     replace q522 := eq_true q522
     refine start_ (n := 10) (S := fun w' => w'.cell? (ad521.add ((x5_1).toNat * 4)) = some (.int .i64 ((rd_T150 l0 x5_1).f0.f0)) ∧ w'.cell? ⟨(ad521.add ((x5_1).toNat * 4)).block, (ad521.add ((x5_1).toNat * 4)).off + 1, none⟩ = some (.int .i64 ((rd_T150 l0 x5_1).f0.f1)) ∧ w'.cell? ⟨(ad521.add ((x5_1).toNat * 4)).block, (ad521.add ((x5_1).toNat * 4)).off + 2, none⟩ = some (.int .i64 ((rd_T150 l0 x5_1).f0.f2)) ∧ w'.cell? ⟨(ad521.add ((x5_1).toNat * 4)).block, (ad521.add ((x5_1).toNat * 4)).off + 3, none⟩ = some (.bool ((rd_T150 l0 x5_1).f1)) ∧ w'.cell? (ad522.add ((x5_1).toNat * 4)) = some (.int .i64 ((rd_T150 l1 x5_1).f0.f0)) ∧ w'.cell? ⟨(ad522.add ((x5_1).toNat * 4)).block, (ad522.add ((x5_1).toNat * 4)).off + 1, none⟩ = some (.int .i64 ((rd_T150 l1 x5_1).f0.f1)) ∧ w'.cell? ⟨(ad522.add ((x5_1).toNat * 4)).block, (ad522.add ((x5_1).toNat * 4)).off + 2, none⟩ = some (.int .i64 ((rd_T150 l1 x5_1).f0.f2)) ∧ w'.cell? ⟨(ad522.add ((x5_1).toNat * 4)).block, (ad522.add ((x5_1).toNat * 4)).off + 3, none⟩ = some (.bool ((rd_T150 l1 x5_1).f1))) (ds := []) (bv_ 10 0) (by kernel_rfl) rfl rfl ⟨(clTr HB.out hw521_0 :), (clTr HB.out hw521_1 :), (clTr HB.out hw521_2 :), (clTr HB.out hw521_3 :), (clTr HB.out hw522_0 :), (clTr HB.out hw522_1 :), (clTr HB.out hw522_2 :), (clTr HB.out hw522_3 :)⟩ (fun hHeld => ?_); refine with_tabW laws_eqSideS.tab6 laws_eqSideS.bits6 (fun HT_ HW_ => ?_)
     generalize wr.drew = w9 at HB hx521_0 hx521_1 hx521_2 hx521_3 hx522_0 hx522_1 hx522_2 hx522_3 hHeld ⊢
     refine px_ HT_ 0 17 1 ?_
     refine px_ HT_ 1 18 3 ?_
     refine px_ HT_ 2 19 7 ?_
     refine px_ HT_ 4 21 23 ?_
     refine px_ HT_ 5 22 55 ?_
     refine px_ HT_ 6 23 119 ?_
     refine ta_ HT_ HW_ 3 (some 20) (bv_ 10 127) hHeld ?_ (hy := by rintro w' ⟨s0, s1, s2, s3, s4, s5, s6, s7⟩; go_simp; with_reducible rfl)
     refine ta_ HT_ HW_ 7 (some 24) (bv_ 10 255) hHeld ?_ (hy := by rintro w' ⟨s0, s1, s2, s3, s4, s5, s6, s7⟩; go_simp; with_reducible rfl)
     refine on_ HT_ 8 (some 25) (bv_ 10 511) (fun K hK => ?_)
     refine gs_ Try.func146 #[.agg #[.int .i64 ((rd_T150 l0 x5_1).f0.f0), .int .i64 ((rd_T150 l0 x5_1).f0.f1), .int .i64 ((rd_T150 l0 x5_1).f0.f2), .bool ((rd_T150 l0 x5_1).f1)], .agg #[.int .i64 ((rd_T150 l1 x5_1).f0.f0), .int .i64 ((rd_T150 l1 x5_1).f0.f1), .int .i64 ((rd_T150 l1 x5_1).f0.f2), .bool ((rd_T150 l1 x5_1).f1)]] ?_
     with_reducible refine (laws_eqSide.calls ((rd_T150 l0 x5_1).f0.f0) ((rd_T150 l0 x5_1).f0.f1) ((rd_T150 l0 x5_1).f0.f2) ((rd_T150 l0 x5_1).f1) ((rd_T150 l1 x5_1).f0.f0) ((rd_T150 l1 x5_1).f0.f1) ((rd_T150 l1 x5_1).f0.f2) ((rd_T150 l1 x5_1).f1) true _ A7.out).mono ?_
     rintro e w10 ⟨rfl, hb⟩
     refine ⟨_, rfl, ?_⟩
     replace HB := bt_ HB hb
     try clear hb
     refine hK.out _ _ ⟨(clTr HB.out hw521_0 :), (clTr HB.out hw521_1 :), (clTr HB.out hw521_2 :), (clTr HB.out hw521_3 :), (clTr HB.out hw522_0 :), (clTr HB.out hw522_1 :), (clTr HB.out hw522_2 :), (clTr HB.out hw522_3 :)⟩ (fun hHeld => ?_)
     clear hK K
     refine nm_ (some 25) ?_
     refine px_ HT_ 9 26 1023 ?_
     refine done_ (done_of HT_.out (by kernel_rfl)) ?_
     try go_wp2
     go_roundg k1
     case measure => have := HK1.out; omega
     case rel => exact ⟨(wrap64 (x5_1 + 1)), en_, H', ⟨by have := HK1.out; omega⟩, bw_ HB⟩
    obtain rfl := si_ H
    try go_wp2
    replace HB := be_ HB
    have p521 : 0 ≤ (x5_1 : Int) := od_
    have q521 : x5_1 < (l0.length : Int) := od_
    obtain ⟨ad521, e521, hx521_0, hx521_1, hx521_2, hx521_3⟩ := at_T150 HR0.out x5_1 p521 q521
    have hw521_3 := hx521_3
    have hw521_2 := hx521_2
    have hw521_1 := hx521_1
    have hw521_0 := hx521_0
    cases e521
    replace hx521_0 := clTr HB.out hx521_0
    replace hx521_1 := clTr HB.out hx521_1
    replace hx521_2 := clTr HB.out hx521_2
    replace hx521_3 := clTr HB.out hx521_3
    replace p521 := eq_true p521
    replace q521 := eq_true q521
    have p522 : 0 ≤ (x5_1 : Int) := od_
    have q522 : x5_1 < (l1.length : Int) := od_
    obtain ⟨ad522, e522, hx522_0, hx522_1, hx522_2, hx522_3⟩ := at_T150 HR1.out x5_1 p522 q522
    have hw522_3 := hx522_3
    have hw522_2 := hx522_2
    have hw522_1 := hx522_1
    have hw522_0 := hx522_0
    cases e522
    replace hx522_0 := clTr HB.out hx522_0
    replace hx522_1 := clTr HB.out hx522_1
    replace hx522_2 := clTr HB.out hx522_2
    replace hx522_3 := clTr HB.out hx522_3
    replace p522 := eq_true p522
    replace q522 := eq_true q522
    refine start_ (n := 10) (S := fun w' => w'.cell? (ad521.add ((x5_1).toNat * 4)) = some (.int .i64 ((rd_T150 l0 x5_1).f0.f0)) ∧ w'.cell? ⟨(ad521.add ((x5_1).toNat * 4)).block, (ad521.add ((x5_1).toNat * 4)).off + 1, none⟩ = some (.int .i64 ((rd_T150 l0 x5_1).f0.f1)) ∧ w'.cell? ⟨(ad521.add ((x5_1).toNat * 4)).block, (ad521.add ((x5_1).toNat * 4)).off + 2, none⟩ = some (.int .i64 ((rd_T150 l0 x5_1).f0.f2)) ∧ w'.cell? ⟨(ad521.add ((x5_1).toNat * 4)).block, (ad521.add ((x5_1).toNat * 4)).off + 3, none⟩ = some (.bool ((rd_T150 l0 x5_1).f1)) ∧ w'.cell? (ad522.add ((x5_1).toNat * 4)) = some (.int .i64 ((rd_T150 l1 x5_1).f0.f0)) ∧ w'.cell? ⟨(ad522.add ((x5_1).toNat * 4)).block, (ad522.add ((x5_1).toNat * 4)).off + 1, none⟩ = some (.int .i64 ((rd_T150 l1 x5_1).f0.f1)) ∧ w'.cell? ⟨(ad522.add ((x5_1).toNat * 4)).block, (ad522.add ((x5_1).toNat * 4)).off + 2, none⟩ = some (.int .i64 ((rd_T150 l1 x5_1).f0.f2)) ∧ w'.cell? ⟨(ad522.add ((x5_1).toNat * 4)).block, (ad522.add ((x5_1).toNat * 4)).off + 3, none⟩ = some (.bool ((rd_T150 l1 x5_1).f1))) (ds := []) (bv_ 10 0) (by kernel_rfl) rfl rfl ⟨(clTr HB.out hw521_0 :), (clTr HB.out hw521_1 :), (clTr HB.out hw521_2 :), (clTr HB.out hw521_3 :), (clTr HB.out hw522_0 :), (clTr HB.out hw522_1 :), (clTr HB.out hw522_2 :), (clTr HB.out hw522_3 :)⟩ (fun hHeld => ?_); refine with_tabW laws_eqSideS.tab6 laws_eqSideS.bits6 (fun HT_ HW_ => ?_)
    generalize wr.drew = w11 at HB hx521_0 hx521_1 hx521_2 hx521_3 hx522_0 hx522_1 hx522_2 hx522_3 hHeld ⊢
    refine px_ HT_ 0 17 1 ?_
    refine px_ HT_ 1 18 3 ?_
    refine px_ HT_ 2 19 7 ?_
    refine px_ HT_ 4 21 23 ?_
    refine px_ HT_ 5 22 55 ?_
    refine px_ HT_ 6 23 119 ?_
    refine ta_ HT_ HW_ 3 (some 20) (bv_ 10 127) hHeld ?_ (hy := by rintro w' ⟨s0, s1, s2, s3, s4, s5, s6, s7⟩; go_simp; with_reducible rfl)
    refine ta_ HT_ HW_ 7 (some 24) (bv_ 10 255) hHeld ?_ (hy := by rintro w' ⟨s0, s1, s2, s3, s4, s5, s6, s7⟩; go_simp; with_reducible rfl)
    refine on_ HT_ 8 (some 25) (bv_ 10 511) (fun K hK => ?_)
    refine gs_ Try.func146 #[.agg #[.int .i64 ((rd_T150 l0 x5_1).f0.f0), .int .i64 ((rd_T150 l0 x5_1).f0.f1), .int .i64 ((rd_T150 l0 x5_1).f0.f2), .bool ((rd_T150 l0 x5_1).f1)], .agg #[.int .i64 ((rd_T150 l1 x5_1).f0.f0), .int .i64 ((rd_T150 l1 x5_1).f0.f1), .int .i64 ((rd_T150 l1 x5_1).f0.f2), .bool ((rd_T150 l1 x5_1).f1)]] ?_
    with_reducible refine (laws_eqSide.calls ((rd_T150 l0 x5_1).f0.f0) ((rd_T150 l0 x5_1).f0.f1) ((rd_T150 l0 x5_1).f0.f2) ((rd_T150 l0 x5_1).f1) ((rd_T150 l1 x5_1).f0.f0) ((rd_T150 l1 x5_1).f0.f1) ((rd_T150 l1 x5_1).f0.f2) ((rd_T150 l1 x5_1).f1) false _ A7.out).mono ?_
    rintro e w12 ⟨rfl, hb⟩
    refine ⟨_, rfl, ?_⟩
    replace HB := bt_ HB hb
    try clear hb
    refine hK.out _ _ ⟨(clTr HB.out hw521_0 :), (clTr HB.out hw521_1 :), (clTr HB.out hw521_2 :), (clTr HB.out hw521_3 :), (clTr HB.out hw522_0 :), (clTr HB.out hw522_1 :), (clTr HB.out hw522_2 :), (clTr HB.out hw522_3 :)⟩ (fun hHeld => ?_)
    clear hK K
    refine nm_ (some 25) ?_
    refine px_ HT_ 9 26 1023 ?_
    refine done_ (done_of HT_.out (by kernel_rfl)) ?_
    try go_wp2
    go_ret
    exact ⟨es_, (bw_ HB).out⟩
   obtain rfl := si_ H
   go_wp2
   go_ret
   exact ⟨es_, (bw_ HB).out⟩
 rw [if_neg c3] at H
 have c3b0 : ((l0.length : Int) == (l1.length : Int)) = false := beq_eq_false_iff_ne.mpr c3
 have c3b1 : ((l0.length : Int) != (l1.length : Int)) = true := bne_iff_ne.mpr c3
 have c3b2 : (l0.length == l1.length) = false := by first | simpa using c3 | (simp at c3 ⊢; omega)
 obtain rfl := si_ H
 go_enter Try.func68, Try.ntmps68
 go_wp2
 go_ret
 exact ⟨es_, (bw_ HB).out⟩
end Go.Proofs.Ytgoeelhiffbjlaa.QB
