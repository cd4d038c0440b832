import Derived.Test.YtdfcoebadjhjlaaQIx5
namespace Go.Proofs.Ytdfcoebadjhjlaa.QI
set_option maxHeartbeats 8000000
set_option maxRecDepth 100000
open Go.RowKit Go.Proofs.YtdfcoebadjhjlaaW.PrintWords Go.Proofs.YtdfcoebadjhjlaaW.PrintLast Go.Proofs.YtdfcoebadjhjlaaW.PrintMore
attribute [local go_sem] isSome_setCell max2_int min2_int max_two min_two max_three min_three max_four min_four
set_option linter.unusedVariables false
set_option linter.unusedSimpArgs false

/-! ### laws_eqFlowS: function 11 -/
def laws_eqFlowS.l0 : Nat → List (S63) → List (S63) → Int → Option (Bool)
 | 0, _, _, _ => none
 | k + 1, x0, x1, x5 => if x5 < (x0.length : Int) then (if 0 ≤ x5 then (if x5 < (x1.length : Int) then ((laws_eqFlow.f ((rd_T63 x0 x5).f0.f0) ((rd_T63 x0 x5).f0.f1) ((rd_T63 x0 x5).f0.f2) ((rd_T63 x0 x5).f1) ((rd_T63 x1 x5).f0.f0) ((rd_T63 x1 x5).f0.f1) ((rd_T63 x1 x5).f0.f2) ((rd_T63 x1 x5).f1)).bind fun t108 => (if t108 = true then (laws_eqFlowS.l0 k x0 x1 (wrap64 (x5 + 1))) else (some false))) else (none)) else (none)) else (some true)
def laws_eqFlowS.f (k : Nat) (l0 : List (S63)) (l1 : List (S63)) : Option (Bool) := if (l0.length : Int) = (l1.length : Int) then (laws_eqFlowS.l0 k l0 l1 0) else (some false)
def laws_eqFlowS.T6 : Bool × List (List Nat × List Nat) := (true, [([], []), ([], []), ([0, 1], [0, 1]), ([2], [2]), ([], []), ([], []), ([4, 5], [4, 5]), ([6], [6]), ([3, 7], [3, 7]), ([8], [8])])
def laws_eqFlowS.B6 : List Nat := [0, 0, 3, 7, 0, 0, 48, 112, 255, 511]
theorem laws_eqFlowS.tab6 : rtab .any (opsOf Try.f11 6) = laws_eqFlowS.T6 := by kernel_rfl
theorem laws_eqFlowS.bits6 : waitsOk laws_eqFlowS.T6.2 laws_eqFlowS.B6 = true := by kernel_rfl
theorem laws_eqFlowS.calls (k : Nat) (A0 : Option Addr) (c0 : Nat) (l0 : List (S63)) (A1 : Option Addr) (c1 : Nat) (l1 : List (S63)) (r : Bool) (w : World) (hr0 : Kd.C k63 w A0 l0.length l0) (hc0 : l0.length ≤ c0) (hr1 : Kd.C k63 w A1 l1.length l1) (hc1 : l1.length ≤ c1) (h : laws_eqFlowS.f k l0 l1 = some r) :
  Calls Try.prog 11 #[.slice A0 l0.length c0, .slice A1 l1.length c1] w fun e w' => e = .returned (.bool r) ∧ Below w.heap.size w w' := by
 have hu63 := Try.underlying63
 have HR0 := Aside0.mk hr0
 have HC0 := Aside0.mk hc0
 clear hr0 hc0
 have HR1 := Aside0.mk hr1
 have HC1 := Aside0.mk hc1
 clear hr1 hc1
 have HB := Aside0.mk (Below.refl w.heap.size w)
 unfold laws_eqFlowS.f at h
 have H := h
 clear h
 by_cases c3 : (l0.length : Int) = (l1.length : Int)
 ·rw [if_pos c3] at H
  have c3b0 : ((l0.length : Int) == (l1.length : Int)) = true := beq_iff_eq.mpr c3
  have c3b1 : ((l0.length : Int) != (l1.length : Int)) = false := bne_eq_false_iff_eq.mpr c3
  have c3b2 : (l0.length == l1.length) = true := by first | simpa using c3 | (simp at c3 ⊢; omega)
  clear c3
  have H' := Aside0.mk H
  clear H
  go_enter Try.func11, Try.ntmps11
  go_wp2
  go_loopg [5] k (fun kq v5 w' => ∃ (x5_1 : Int), v5 = .int .i64 x5_1 ∧ Aside0 (laws_eqFlowS.l0 kq l0 l1 x5_1 = some r) ∧ Aside0 (kq ≤ k) ∧ Aside0 (Below w.heap.size w w'))
  case atStart => exact ⟨(0), en_, H', ⟨Nat.le_refl _⟩, bw_ HB⟩
  clear H'
  try clear c1
  try clear c3
  try clear c3b0
  try clear c3b1
  try clear c3b2
  obtain ⟨x5_1, rfl, HA, HK1, HB⟩ := hrel
  cases gk with
  | zero => exact absurd HA.out (by simp [laws_eqFlowS.l0])
  | succ k1 =>
   have H := HA.out
   clear HA
   simp only [laws_eqFlowS.l0] at H
   replace H := il_ H
   rcases H with ⟨c4b0, H⟩ | ⟨c4b0, H⟩
   ·replace H := imn_ H
    obtain ⟨c5b0, H⟩ := H
    replace H := iln_ H
    obtain ⟨c6b0, H⟩ := H
    replace H := oc_ H
    obtain ⟨t108, A7, H⟩ := H
    replace H := ib_ H
    rcases H with ⟨rfl, H⟩ | ⟨rfl, H⟩
    ·have H' := Aside0.mk H
     clear H
     try go_wp2
     replace HB := be_ HB
     have p106 : 0 ≤ (x5_1 : Int) := od_
     have q106 : x5_1 < (l0.length : Int) := od_
     obtain ⟨ad106, e106, hx106_0, hx106_1, hx106_2, hx106_3⟩ := at_T63 HR0.out x5_1 p106 q106
     have hw106_3 := hx106_3
     have hw106_2 := hx106_2
     have hw106_1 := hx106_1
     have hw106_0 := hx106_0
     cases e106
     replace hx106_0 := clTr HB.out hx106_0
     replace hx106_1 := clTr HB.out hx106_1
     replace hx106_2 := clTr HB.out hx106_2
     replace hx106_3 := clTr HB.out hx106_3
     replace p106 := eq_true p106
     replace q106 := eq_true q106
     have p107 : 0 ≤ (x5_1 : Int) := od_
     have q107 : x5_1 < (l1.length : Int) := od_
     obtain ⟨ad107, e107, hx107_0, hx107_1, hx107_2, hx107_3⟩ := at_T63 HR1.out x5_1 p107 q107
     have hw107_3 := hx107_3
     have hw107_2 := hx107_2
     have hw107_1 := hx107_1
     have hw107_0 := hx107_0
     cases e107
     replace hx107_0 := clTr HB.out hx107_0
     replace hx107_1 := clTr HB.out hx107_1
     replace hx107_2 := clTr HB.out hx107_2
     replace hx107_3 := clTr HB.out hx107_3
     replace p107 := eq_true p107
     replace q107 := eq_true q107
     refine start_ (n := 10) (S := fun w' => w'.cell? (ad106.add ((x5_1).toNat * 4)) = some (.int .i64 ((rd_T63 l0 x5_1).f0.f0)) ∧ w'.cell? ⟨(ad106.add ((x5_1).toNat * 4)).block, (ad106.add ((x5_1).toNat * 4)).off + 1, none⟩ = some (.int .i64 ((rd_T63 l0 x5_1).f0.f1)) ∧ w'.cell? ⟨(ad106.add ((x5_1).toNat * 4)).block, (ad106.add ((x5_1).toNat * 4)).off + 2, none⟩ = some (.int .i64 ((rd_T63 l0 x5_1).f0.f2)) ∧ w'.cell? ⟨(ad106.add ((x5_1).toNat * 4)).block, (ad106.add ((x5_1).toNat * 4)).off + 3, none⟩ = some (.int .i64 ((rd_T63 l0 x5_1).f1)) ∧ w'.cell? (ad107.add ((x5_1).toNat * 4)) = some (.int .i64 ((rd_T63 l1 x5_1).f0.f0)) ∧ w'.cell? ⟨(ad107.add ((x5_1).toNat * 4)).block, (ad107.add ((x5_1).toNat * 4)).off + 1, none⟩ = some (.int .i64 ((rd_T63 l1 x5_1).f0.f1)) ∧ w'.cell? ⟨(ad107.add ((x5_1).toNat * 4)).block, (ad107.add ((x5_1).toNat * 4)).off + 2, none⟩ = some (.int .i64 ((rd_T63 l1 x5_1).f0.f2)) ∧ w'.cell? ⟨(ad107.add ((x5_1).toNat * 4)).block, (ad107.add ((x5_1).toNat * 4)).off + 3, none⟩ = some (.int .i64 ((rd_T63 l1 x5_1).f1))) (ds := []) (bv_ 10 0) (by kernel_rfl) rfl rfl ⟨(clTr HB.out hw106_0 :), (clTr HB.out hw106_1 :), (clTr HB.out hw106_2 :), (clTr HB.out hw106_3 :), (clTr HB.out hw107_0 :), (clTr HB.out hw107_1 :), (clTr HB.out hw107_2 :), (clTr HB.out hw107_3 :)⟩ (fun hHeld => ?_); refine with_tabW laws_eqFlowS.tab6 laws_eqFlowS.bits6 (fun HT_ HW_ => ?_)
     generalize wr.drew = w9 at HB hx106_0 hx106_1 hx106_2 hx106_3 hx107_0 hx107_1 hx107_2 hx107_3 hHeld ⊢
     refine px_ HT_ 0 17 1 ?_
     refine px_ HT_ 1 18 3 ?_
     refine px_ HT_ 2 19 7 ?_
     refine px_ HT_ 4 21 23 ?_
     refine px_ HT_ 5 22 55 ?_
     refine px_ HT_ 6 23 119 ?_
     refine ta_ HT_ HW_ 3 (some 20) (bv_ 10 127) hHeld ?_ (hy := by rintro w' ⟨s0, s1, s2, s3, s4, s5, s6, s7⟩; go_simp; with_reducible rfl)
     refine ta_ HT_ HW_ 7 (some 24) (bv_ 10 255) hHeld ?_ (hy := by rintro w' ⟨s0, s1, s2, s3, s4, s5, s6, s7⟩; go_simp; with_reducible rfl)
     refine on_ HT_ 8 (some 25) (bv_ 10 511) (fun K hK => ?_)
     refine gs_ Try.func35 #[.agg #[.int .i64 ((rd_T63 l0 x5_1).f0.f0), .int .i64 ((rd_T63 l0 x5_1).f0.f1), .int .i64 ((rd_T63 l0 x5_1).f0.f2), .int .i64 ((rd_T63 l0 x5_1).f1)], .agg #[.int .i64 ((rd_T63 l1 x5_1).f0.f0), .int .i64 ((rd_T63 l1 x5_1).f0.f1), .int .i64 ((rd_T63 l1 x5_1).f0.f2), .int .i64 ((rd_T63 l1 x5_1).f1)]] ?_
     with_reducible refine (laws_eqFlow.calls ((rd_T63 l0 x5_1).f0.f0) ((rd_T63 l0 x5_1).f0.f1) ((rd_T63 l0 x5_1).f0.f2) ((rd_T63 l0 x5_1).f1) ((rd_T63 l1 x5_1).f0.f0) ((rd_T63 l1 x5_1).f0.f1) ((rd_T63 l1 x5_1).f0.f2) ((rd_T63 l1 x5_1).f1) true _ A7.out).mono ?_
     rintro e w10 ⟨rfl, hb⟩
     refine ⟨_, rfl, ?_⟩
     replace HB := bt_ HB hb
     try clear hb
     refine hK.out _ _ ⟨(clTr HB.out hw106_0 :), (clTr HB.out hw106_1 :), (clTr HB.out hw106_2 :), (clTr HB.out hw106_3 :), (clTr HB.out hw107_0 :), (clTr HB.out hw107_1 :), (clTr HB.out hw107_2 :), (clTr HB.out hw107_3 :)⟩ (fun hHeld => ?_)
     clear hK K
     refine nm_ (some 25) ?_
     refine px_ HT_ 9 26 1023 ?_
     refine done_ (done_of HT_.out (by kernel_rfl)) ?_
     try go_wp2
     go_roundg k1
     case measure => have := HK1.out; omega
     case rel => exact ⟨(wrap64 (x5_1 + 1)), en_, H', ⟨by have := HK1.out; omega⟩, bw_ HB⟩
    obtain rfl := si_ H
    try go_wp2
    replace HB := be_ HB
    have p106 : 0 ≤ (x5_1 : Int) := od_
    have q106 : x5_1 < (l0.length : Int) := od_
    obtain ⟨ad106, e106, hx106_0, hx106_1, hx106_2, hx106_3⟩ := at_T63 HR0.out x5_1 p106 q106
    have hw106_3 := hx106_3
    have hw106_2 := hx106_2
    have hw106_1 := hx106_1
    have hw106_0 := hx106_0
    cases e106
    replace hx106_0 := clTr HB.out hx106_0
    replace hx106_1 := clTr HB.out hx106_1
    replace hx106_2 := clTr HB.out hx106_2
    replace hx106_3 := clTr HB.out hx106_3
    replace p106 := eq_true p106
    replace q106 := eq_true q106
    have p107 : 0 ≤ (x5_1 : Int) := od_
    have q107 : x5_1 < (l1.length : Int) := od_
    obtain ⟨ad107, e107, hx107_0, hx107_1, hx107_2, hx107_3⟩ := at_T63 HR1.out x5_1 p107 q107
    have hw107_3 := hx107_3
    have hw107_2 := hx107_2
    have hw107_1 := hx107_1
    have hw107_0 := hx107_0
    cases e107
    replace hx107_0 := clTr HB.out hx107_0
    replace hx107_1 := clTr HB.out hx107_1
    replace hx107_2 := clTr HB.out hx107_2
    replace hx107_3 := clTr HB.out hx107_3
    replace p107 := eq_true p107
    replace q107 := eq_true q107
    refine start_ (n := 10) (S := fun w' => w'.cell? (ad106.add ((x5_1).toNat * 4)) = some (.int .i64 ((rd_T63 l0 x5_1).f0.f0)) ∧ w'.cell? ⟨(ad106.add ((x5_1).toNat * 4)).block, (ad106.add ((x5_1).toNat * 4)).off + 1, none⟩ = some (.int .i64 ((rd_T63 l0 x5_1).f0.f1)) ∧ w'.cell? ⟨(ad106.add ((x5_1).toNat * 4)).block, (ad106.add ((x5_1).toNat * 4)).off + 2, none⟩ = some (.int .i64 ((rd_T63 l0 x5_1).f0.f2)) ∧ w'.cell? ⟨(ad106.add ((x5_1).toNat * 4)).block, (ad106.add ((x5_1).toNat * 4)).off + 3, none⟩ = some (.int .i64 ((rd_T63 l0 x5_1).f1)) ∧ w'.cell? (ad107.add ((x5_1).toNat * 4)) = some (.int .i64 ((rd_T63 l1 x5_1).f0.f0)) ∧ w'.cell? ⟨(ad107.add ((x5_1).toNat * 4)).block, (ad107.add ((x5_1).toNat * 4)).off + 1, none⟩ = some (.int .i64 ((rd_T63 l1 x5_1).f0.f1)) ∧ w'.cell? ⟨(ad107.add ((x5_1).toNat * 4)).block, (ad107.add ((x5_1).toNat * 4)).off + 2, none⟩ = some (.int .i64 ((rd_T63 l1 x5_1).f0.f2)) ∧ w'.cell? ⟨(ad107.add ((x5_1).toNat * 4)).block, (ad107.add ((x5_1).toNat * 4)).off + 3, none⟩ = some (.int .i64 ((rd_T63 l1 x5_1).f1))) (ds := []) (bv_ 10 0) (by kernel_rfl) rfl rfl ⟨(clTr HB.out hw106_0 :), (clTr HB.out hw106_1 :), (clTr HB.out hw106_2 :), (clTr HB.out hw106_3 :), (clTr HB.out hw107_0 :), (clTr HB.out hw107_1 :), (clTr HB.out hw107_2 :), (clTr HB.out hw107_3 :)⟩ (fun hHeld => ?_); refine with_tabW laws_eqFlowS.tab6 laws_eqFlowS.bits6 (fun HT_ HW_ => ?_)
    generalize wr.drew = w11 at HB hx106_0 hx106_1 hx106_2 hx106_3 hx107_0 hx107_1 hx107_2 hx107_3 hHeld ⊢
    refine px_ HT_ 0 17 1 ?_
    refine px_ HT_ 1 18 3 ?_
    refine px_ HT_ 2 19 7 ?_
    refine px_ HT_ 4 21 23 ?_
    refine px_ HT_ 5 22 55 ?_
    refine px_ HT_ 6 23 119 ?_
    refine ta_ HT_ HW_ 3 (some 20) (bv_ 10 127) hHeld ?_ (hy := by rintro w' ⟨s0, s1, s2, s3, s4, s5, s6, s7⟩; go_simp; with_reducible rfl)
    refine ta_ HT_ HW_ 7 (some 24) (bv_ 10 255) hHeld ?_ (hy := by rintro w' ⟨s0, s1, s2, s3, s4, s5, s6, s7⟩; go_simp; with_reducible rfl)
    refine on_ HT_ 8 (some 25) (bv_ 10 511) (fun K hK => ?_)
    refine gs_ Try.func35 #[.agg #[.int .i64 ((rd_T63 l0 x5_1).f0.f0), .int .i64 ((rd_T63 l0 x5_1).f0.f1), .int .i64 ((rd_T63 l0 x5_1).f0.f2), .int .i64 ((rd_T63 l0 x5_1).f1)], .agg #[.int .i64 ((rd_T63 l1 x5_1).f0.f0), .int .i64 ((rd_T63 l1 x5_1).f0.f1), .int .i64 ((rd_T63 l1 x5_1).f0.f2), .int .i64 ((rd_T63 l1 x5_1).f1)]] ?_
    with_reducible refine (laws_eqFlow.calls ((rd_T63 l0 x5_1).f0.f0) ((rd_T63 l0 x5_1).f0.f1) ((rd_T63 l0 x5_1).f0.f2) ((rd_T63 l0 x5_1).f1) ((rd_T63 l1 x5_1).f0.f0) ((rd_T63 l1 x5_1).f0.f1) ((rd_T63 l1 x5_1).f0.f2) ((rd_T63 l1 x5_1).f1) false _ A7.out).mono ?_
    rintro e w12 ⟨rfl, hb⟩
    refine ⟨_, rfl, ?_⟩
    replace HB := bt_ HB hb
    try clear hb
    refine hK.out _ _ ⟨(clTr HB.out hw106_0 :), (clTr HB.out hw106_1 :), (clTr HB.out hw106_2 :), (clTr HB.out hw106_3 :), (clTr HB.out hw107_0 :), (clTr HB.out hw107_1 :), (clTr HB.out hw107_2 :), (clTr HB.out hw107_3 :)⟩ (fun hHeld => ?_)
    clear hK K
    refine nm_ (some 25) ?_
    refine px_ HT_ 9 26 1023 ?_
    refine done_ (done_of HT_.out (by kernel_rfl)) ?_
    try go_wp2
    go_ret
    exact ⟨es_, (bw_ HB).out⟩
   obtain rfl := si_ H
   go_wp2
   go_ret
   exact ⟨es_, (bw_ HB).out⟩
 rw [if_neg c3] at H
 have c3b0 : ((l0.length : Int) == (l1.length : Int)) = false := beq_eq_false_iff_ne.mpr c3
 have c3b1 : ((l0.length : Int) != (l1.length : Int)) = true := bne_iff_ne.mpr c3
 have c3b2 : (l0.length == l1.length) = false := by first | simpa using c3 | (simp at c3 ⊢; omega)
 obtain rfl := si_ H
 go_enter Try.func11, Try.ntmps11
 go_wp2
 go_ret
 exact ⟨es_, (bw_ HB).out⟩
/-! ### laws_eqPiece: function 74 -/
def laws_eqPiece.f (a0_0 a0_1 a0_2 a0_3 a1_0 a1_1 a1_2 a1_3 : Int) : Option (Bool) := (laws_eqBall.f a0_0 a0_1 a0_2 a1_0 a1_1 a1_2).bind fun t111 => (if t111 = true then (if a0_3 = a1_3 then (some true) else (some false)) else (some false))
theorem laws_eqPiece.calls (a0_0 a0_1 a0_2 a0_3 a1_0 a1_1 a1_2 a1_3 : Int) (r : Bool) (w : World) (h : laws_eqPiece.f a0_0 a0_1 a0_2 a0_3 a1_0 a1_1 a1_2 a1_3 = some r) :
  Calls Try.prog 74 #[.agg #[.int .i64 a0_0, .int .i64 a0_1, .int .i64 a0_2, .int .i64 a0_3], .agg #[.int .i64 a1_0, .int .i64 a1_1, .int .i64 a1_2, .int .i64 a1_3]] w fun e w' => e = .returned (.bool r) ∧ Below w.heap.size w w' := by
 have hu72 := Try.underlying72
 have hu31 := Try.underlying31
 have HB := Aside0.mk (Below.refl w.heap.size w)
 unfold laws_eqPiece.f at h
 have H := h
 clear h
 replace H := oc_ H
 obtain ⟨t111, A3, H⟩ := H
 replace H := ib_ H
 rcases H with ⟨rfl, H⟩ | ⟨rfl, H⟩
 ·replace H := ie_ H
  rcases H with ⟨c5b0, c5b1, H⟩ | ⟨c5, c5b0, c5b1, H⟩
  ·obtain rfl := si_ H
   go_enter Try.func74, Try.ntmps74
   go_wp2_with (first | ((refine gd_ 2 ?_); refine by_ 2 #[.int .i64 a0_0, .int .i64 a0_1, .int .i64 a0_2, .int .i64 a0_3] 72 HB ?_; intro gb109 hg w6 BK109 hb GW109 HB_; replace HB := HB_; clear hb hg) | ((refine gd_ 3 ?_); refine by_ 3 #[.int .i64 a1_0, .int .i64 a1_1, .int .i64 a1_2, .int .i64 a1_3] 72 HB ?_; intro gb110 hg w7 BK110 hb GW110 HB_; have NB109_110 := bm_ BK109 hg; have NB110_109 := bn_ BK109 hg; replace BK109 := bb_ BK109 hb; replace HB := HB_; clear hb hg; have hnb8 := NB109_110.out; have hnc8 := NB110_109.out; obtain ⟨hcz9_0, hcz9_1, hcz9_2, hcz9_3, hfz9_0, hfz9_1, hfz9_2, hfz9_3⟩ := ch4_ BK109; obtain ⟨hcz10_0, hcz10_1, hcz10_2, hcz10_3, hfz10_0, hfz10_1, hfz10_2, hfz10_3⟩ := ch4_ BK110) | ((refine gc_ 36 ?_); refine ge_ 9 Try.func36 #[.agg #[.int .i64 a0_0, .int .i64 a0_1, .int .i64 a0_2], .agg #[.int .i64 a1_0, .int .i64 a1_1, .int .i64 a1_2]] ?_; (with_reducible refine (laws_eqBall.calls a0_0 a0_1 a0_2 a1_0 a1_1 a1_2 true _ A3.out).mono ?_); rintro e w11 ⟨rfl, hb⟩; refine ⟨_, rfl, ?_⟩; replace BK109 := bb_ BK109 hb; replace BK110 := bb_ BK110 hb; replace HB := bt_ HB hb; (try clear hb); obtain ⟨hcz12_0, hcz12_1, hcz12_2, hcz12_3, hfz12_0, hfz12_1, hfz12_2, hfz12_3⟩ := ch4_ BK109; obtain ⟨hcz13_0, hcz13_1, hcz13_2, hcz13_3, hfz13_0, hfz13_1, hfz13_2, hfz13_3⟩ := ch4_ BK110))
   go_ret
   exact ⟨es_, (bw_ HB).out⟩
  obtain rfl := si_ H
  go_enter Try.func74, Try.ntmps74
  go_wp2_with (first | ((refine gd_ 2 ?_); refine by_ 2 #[.int .i64 a0_0, .int .i64 a0_1, .int .i64 a0_2, .int .i64 a0_3] 72 HB ?_; intro gb109 hg w14 BK109 hb GW109 HB_; replace HB := HB_; clear hb hg) | ((refine gd_ 3 ?_); refine by_ 3 #[.int .i64 a1_0, .int .i64 a1_1, .int .i64 a1_2, .int .i64 a1_3] 72 HB ?_; intro gb110 hg w15 BK110 hb GW110 HB_; have NB109_110 := bm_ BK109 hg; have NB110_109 := bn_ BK109 hg; replace BK109 := bb_ BK109 hb; replace HB := HB_; clear hb hg; have hnb16 := NB109_110.out; have hnc16 := NB110_109.out; obtain ⟨hcz17_0, hcz17_1, hcz17_2, hcz17_3, hfz17_0, hfz17_1, hfz17_2, hfz17_3⟩ := ch4_ BK109; obtain ⟨hcz18_0, hcz18_1, hcz18_2, hcz18_3, hfz18_0, hfz18_1, hfz18_2, hfz18_3⟩ := ch4_ BK110) | ((refine gc_ 36 ?_); refine ge_ 9 Try.func36 #[.agg #[.int .i64 a0_0, .int .i64 a0_1, .int .i64 a0_2], .agg #[.int .i64 a1_0, .int .i64 a1_1, .int .i64 a1_2]] ?_; (with_reducible refine (laws_eqBall.calls a0_0 a0_1 a0_2 a1_0 a1_1 a1_2 true _ A3.out).mono ?_); rintro e w19 ⟨rfl, hb⟩; refine ⟨_, rfl, ?_⟩; replace BK109 := bb_ BK109 hb; replace BK110 := bb_ BK110 hb; replace HB := bt_ HB hb; (try clear hb); obtain ⟨hcz20_0, hcz20_1, hcz20_2, hcz20_3, hfz20_0, hfz20_1, hfz20_2, hfz20_3⟩ := ch4_ BK109; obtain ⟨hcz21_0, hcz21_1, hcz21_2, hcz21_3, hfz21_0, hfz21_1, hfz21_2, hfz21_3⟩ := ch4_ BK110))
  go_ret
  exact ⟨es_, (bw_ HB).out⟩
 obtain rfl := si_ H
 go_enter Try.func74, Try.ntmps74
 go_wp2_with (first | ((refine gd_ 2 ?_); refine by_ 2 #[.int .i64 a0_0, .int .i64 a0_1, .int .i64 a0_2, .int .i64 a0_3] 72 HB ?_; intro gb109 hg w22 BK109 hb GW109 HB_; replace HB := HB_; clear hb hg) | ((refine gd_ 3 ?_); refine by_ 3 #[.int .i64 a1_0, .int .i64 a1_1, .int .i64 a1_2, .int .i64 a1_3] 72 HB ?_; intro gb110 hg w23 BK110 hb GW110 HB_; have NB109_110 := bm_ BK109 hg; have NB110_109 := bn_ BK109 hg; replace BK109 := bb_ BK109 hb; replace HB := HB_; clear hb hg; have hnb24 := NB109_110.out; have hnc24 := NB110_109.out; obtain ⟨hcz25_0, hcz25_1, hcz25_2, hcz25_3, hfz25_0, hfz25_1, hfz25_2, hfz25_3⟩ := ch4_ BK109; obtain ⟨hcz26_0, hcz26_1, hcz26_2, hcz26_3, hfz26_0, hfz26_1, hfz26_2, hfz26_3⟩ := ch4_ BK110) | ((refine gc_ 36 ?_); refine ge_ 9 Try.func36 #[.agg #[.int .i64 a0_0, .int .i64 a0_1, .int .i64 a0_2], .agg #[.int .i64 a1_0, .int .i64 a1_1, .int .i64 a1_2]] ?_; (with_reducible refine (laws_eqBall.calls a0_0 a0_1 a0_2 a1_0 a1_1 a1_2 false _ A3.out).mono ?_); rintro e w27 ⟨rfl, hb⟩; refine ⟨_, rfl, ?_⟩; replace BK109 := bb_ BK109 hb; replace BK110 := bb_ BK110 hb; replace HB := bt_ HB hb; (try clear hb)))
 go_ret
 exact ⟨es_, (bw_ HB).out⟩
/-! ### laws_eqPieceS: function 37 -/
def laws_eqPieceS.l0 : Nat → List (S72) → List (S72) → Int → Option (Bool)
 | 0, _, _, _ => none
 | k + 1, x0, x1, x5 => if x5 < (x0.length : Int) then (if 0 ≤ x5 then (if x5 < (x1.length : Int) then ((laws_eqPiece.f ((rd_T72 x0 x5).f0.f0) ((rd_T72 x0 x5).f0.f1) ((rd_T72 x0 x5).f0.f2) ((rd_T72 x0 x5).f1) ((rd_T72 x1 x5).f0.f0) ((rd_T72 x1 x5).f0.f1) ((rd_T72 x1 x5).f0.f2) ((rd_T72 x1 x5).f1)).bind fun t114 => (if t114 = true then (laws_eqPieceS.l0 k x0 x1 (wrap64 (x5 + 1))) else (some false))) else (none)) else (none)) else (some true)
def laws_eqPieceS.f (k : Nat) (l0 : List (S72)) (l1 : List (S72)) : Option (Bool) := if (l0.length : Int) = (l1.length : Int) then (laws_eqPieceS.l0 k l0 l1 0) else (some false)
def laws_eqPieceS.T6 : Bool × List (List Nat × List Nat) := (true, [([], []), ([], []), ([0, 1], [0, 1]), ([2], [2]), ([], []), ([], []), ([4, 5], [4, 5]), ([6], [6]), ([3, 7], [3, 7]), ([8], [8])])
def laws_eqPieceS.B6 : List Nat := [0, 0, 3, 7, 0, 0, 48, 112, 255, 511]
theorem laws_eqPieceS.tab6 : rtab .any (opsOf Try.f37 6) = laws_eqPieceS.T6 := by kernel_rfl
theorem laws_eqPieceS.bits6 : waitsOk laws_eqPieceS.T6.2 laws_eqPieceS.B6 = true := by kernel_rfl
theorem laws_eqPieceS.calls (k : Nat) (A0 : Option Addr) (c0 : Nat) (l0 : List (S72)) (A1 : Option Addr) (c1 : Nat) (l1 : List (S72)) (r : Bool) (w : World) (hr0 : Kd.C k72 w A0 l0.length l0) (hc0 : l0.length ≤ c0) (hr1 : Kd.C k72 w A1 l1.length l1) (hc1 : l1.length ≤ c1) (h : laws_eqPieceS.f k l0 l1 = some r) :
  Calls Try.prog 37 #[.slice A0 l0.length c0, .slice A1 l1.length c1] w fun e w' => e = .returned (.bool r) ∧ Below w.heap.size w w' := by
 have hu72 := Try.underlying72
 have HR0 := Aside0.mk hr0
 have HC0 := Aside0.mk hc0
 clear hr0 hc0
 have HR1 := Aside0.mk hr1
 have HC1 := Aside0.mk hc1
 clear hr1 hc1
 have HB := Aside0.mk (Below.refl w.heap.size w)
 unfold laws_eqPieceS.f at h
 have H := h
 clear h
 by_cases c3 : (l0.length : Int) = (l1.length : Int)
 ·rw [if_pos c3] at H
  have c3b0 : ((l0.length : Int) == (l1.length : Int)) = true := beq_iff_eq.mpr c3
  have c3b1 : ((l0.length : Int) != (l1.length : Int)) = false := bne_eq_false_iff_eq.mpr c3
  have c3b2 : (l0.length == l1.length) = true := by first | simpa using c3 | (simp at c3 ⊢; omega)
  clear c3
  have H' := Aside0.mk H
  clear H
  go_enter Try.func37, Try.ntmps37
  go_wp2
  go_loopg [5] k (fun kq v5 w' => ∃ (x5_1 : Int), v5 = .int .i64 x5_1 ∧ Aside0 (laws_eqPieceS.l0 kq l0 l1 x5_1 = some r) ∧ Aside0 (kq ≤ k) ∧ Aside0 (Below w.heap.size w w'))
  case atStart => exact ⟨(0), en_, H', ⟨Nat.le_refl _⟩, bw_ HB⟩
  clear H'
  try clear c1
  try clear c3
  try clear c3b0
  try clear c3b1
  try clear c3b2
  obtain ⟨x5_1, rfl, HA, HK1, HB⟩ := hrel
  cases gk with
  | zero => exact absurd HA.out (by simp [laws_eqPieceS.l0])
  | succ k1 =>
   have H := HA.out
   clear HA
   simp only [laws_eqPieceS.l0] at H
   replace H := il_ H
   rcases H with ⟨c4b0, H⟩ | ⟨c4b0, H⟩
   ·replace H := imn_ H
    obtain ⟨c5b0, H⟩ := H
    replace H := iln_ H
    obtain ⟨c6b0, H⟩ := H
    replace H := oc_ H
    obtain ⟨t114, A7, H⟩ := H
    replace H := ib_ H
    rcases H with ⟨rfl, H⟩ | ⟨rfl, H⟩
    ·have H' := Aside0.mk H
     clear H
     try go_wp2
     replace HB := be_ HB
     have p112 : 0 ≤ (x5_1 : Int) := od_
     have q112 : x5_1 < (l0.length : Int) := od_
     obtain ⟨ad112, e112, hx112_0, hx112_1, hx112_2, hx112_3⟩ := at_T72 HR0.out x5_1 p112 q112
     have hw112_3 := hx112_3
     have hw112_2 := hx112_2
     have hw112_1 := hx112_1
     have hw112_0 := hx112_0
     cases e112
     replace hx112_0 := clTr HB.out hx112_0
     replace hx112_1 := clTr HB.out hx112_1
     replace hx112_2 := clTr HB.out hx112_2
     replace hx112_3 := clTr HB.out hx112_3
     replace p112 := eq_true p112
     replace q112 := eq_true q112
     have p113 : 0 ≤ (x5_1 : Int) := od_
     have q113 : x5_1 < (l1.length : Int) := od_
     obtain ⟨ad113, e113, hx113_0, hx113_1, hx113_2, hx113_3⟩ := at_T72 HR1.out x5_1 p113 q113
     have hw113_3 := hx113_3
     have hw113_2 := hx113_2
     have hw113_1 := hx113_1
     have hw113_0 := hx113_0
     cases e113
     replace hx113_0 := clTr HB.out hx113_0
     replace hx113_1 := clTr HB.out hx113_1
     replace hx113_2 := clTr HB.out hx113_2
     replace hx113_3 := clTr HB.out hx113_3
     replace p113 := eq_true p113
     replace q113 := eq_true q113
     refine start_ (n := 10) (S := fun w' => w'.cell? (ad112.add ((x5_1).toNat * 4)) = some (.int .i64 ((rd_T72 l0 x5_1).f0.f0)) ∧ w'.cell? ⟨(ad112.add ((x5_1).toNat * 4)).block, (ad112.add ((x5_1).toNat * 4)).off + 1, none⟩ = some (.int .i64 ((rd_T72 l0 x5_1).f0.f1)) ∧ w'.cell? ⟨(ad112.add ((x5_1).toNat * 4)).block, (ad112.add ((x5_1).toNat * 4)).off + 2, none⟩ = some (.int .i64 ((rd_T72 l0 x5_1).f0.f2)) ∧ w'.cell? ⟨(ad112.add ((x5_1).toNat * 4)).block, (ad112.add ((x5_1).toNat * 4)).off + 3, none⟩ = some (.int .i64 ((rd_T72 l0 x5_1).f1)) ∧ w'.cell? (ad113.add ((x5_1).toNat * 4)) = some (.int .i64 ((rd_T72 l1 x5_1).f0.f0)) ∧ w'.cell? ⟨(ad113.add ((x5_1).toNat * 4)).block, (ad113.add ((x5_1).toNat * 4)).off + 1, none⟩ = some (.int .i64 ((rd_T72 l1 x5_1).f0.f1)) ∧ w'.cell? ⟨(ad113.add ((x5_1).toNat * 4)).block, (ad113.add ((x5_1).toNat * 4)).off + 2, none⟩ = some (.int .i64 ((rd_T72 l1 x5_1).f0.f2)) ∧ w'.cell? ⟨(ad113.add ((x5_1).toNat * 4)).block, (ad113.add ((x5_1).toNat * 4)).off + 3, none⟩ = some (.int .i64 ((rd_T72 l1 x5_1).f1))) (ds := []) (bv_ 10 0) (by kernel_rfl) rfl rfl ⟨(clTr HB.out hw112_0 :), (clTr HB.out hw112_1 :), (clTr HB.out hw112_2 :), (clTr HB.out hw112_3 :), (clTr HB.out hw113_0 :), (clTr HB.out hw113_1 :), (clTr HB.out hw113_2 :), (clTr HB.out hw113_3 :)⟩ (fun hHeld => ?_); refine with_tabW laws_eqPieceS.tab6 laws_eqPieceS.bits6 (fun HT_ HW_ => ?_)
     generalize wr.drew = w9 at HB hx112_0 hx112_1 hx112_2 hx112_3 hx113_0 hx113_1 hx113_2 hx113_3 hHeld ⊢
     refine px_ HT_ 0 17 1 ?_
     refine px_ HT_ 1 18 3 ?_
     refine px_ HT_ 2 19 7 ?_
     refine px_ HT_ 4 21 23 ?_
     refine px_ HT_ 5 22 55 ?_
     refine px_ HT_ 6 23 119 ?_
     refine ta_ HT_ HW_ 3 (some 20) (bv_ 10 127) hHeld ?_ (hy := by rintro w' ⟨s0, s1, s2, s3, s4, s5, s6, s7⟩; go_simp; with_reducible rfl)
     refine ta_ HT_ HW_ 7 (some 24) (bv_ 10 255) hHeld ?_ (hy := by rintro w' ⟨s0, s1, s2, s3, s4, s5, s6, s7⟩; go_simp; with_reducible rfl)
     refine on_ HT_ 8 (some 25) (bv_ 10 511) (fun K hK => ?_)
     refine gs_ Try.func74 #[.agg #[.int .i64 ((rd_T72 l0 x5_1).f0.f0), .int .i64 ((rd_T72 l0 x5_1).f0.f1), .int .i64 ((rd_T72 l0 x5_1).f0.f2), .int .i64 ((rd_T72 l0 x5_1).f1)], .agg #[.int .i64 ((rd_T72 l1 x5_1).f0.f0), .int .i64 ((rd_T72 l1 x5_1).f0.f1), .int .i64 ((rd_T72 l1 x5_1).f0.f2), .int .i64 ((rd_T72 l1 x5_1).f1)]] ?_
     with_reducible refine (laws_eqPiece.calls ((rd_T72 l0 x5_1).f0.f0) ((rd_T72 l0 x5_1).f0.f1) ((rd_T72 l0 x5_1).f0.f2) ((rd_T72 l0 x5_1).f1) ((rd_T72 l1 x5_1).f0.f0) ((rd_T72 l1 x5_1).f0.f1) ((rd_T72 l1 x5_1).f0.f2) ((rd_T72 l1 x5_1).f1) true _ A7.out).mono ?_
     rintro e w10 ⟨rfl, hb⟩
     refine ⟨_, rfl, ?_⟩
     replace HB := bt_ HB hb
     try clear hb
     refine hK.out _ _ ⟨(clTr HB.out hw112_0 :), (clTr HB.out hw112_1 :), (clTr HB.out hw112_2 :), (clTr HB.out hw112_3 :), (clTr HB.out hw113_0 :), (clTr HB.out hw113_1 :), (clTr HB.out hw113_2 :), (clTr HB.out hw113_3 :)⟩ (fun hHeld => ?_)
     clear hK K
     refine nm_ (some 25) ?_
     refine px_ HT_ 9 26 1023 ?_
     refine done_ (done_of HT_.out (by kernel_rfl)) ?_
     try go_wp2
     go_roundg k1
     case measure => have := HK1.out; omega
     case rel => exact ⟨(wrap64 (x5_1 + 1)), en_, H', ⟨by have := HK1.out; omega⟩, bw_ HB⟩
    obtain rfl := si_ H
    try go_wp2
    replace HB := be_ HB
    have p112 : 0 ≤ (x5_1 : Int) := od_
    have q112 : x5_1 < (l0.length : Int) := od_
    obtain ⟨ad112, e112, hx112_0, hx112_1, hx112_2, hx112_3⟩ := at_T72 HR0.out x5_1 p112 q112
    have hw112_3 := hx112_3
    have hw112_2 := hx112_2
    have hw112_1 := hx112_1
    have hw112_0 := hx112_0
    cases e112
    replace hx112_0 := clTr HB.out hx112_0
    replace hx112_1 := clTr HB.out hx112_1
    replace hx112_2 := clTr HB.out hx112_2
    replace hx112_3 := clTr HB.out hx112_3
    replace p112 := eq_true p112
    replace q112 := eq_true q112
    have p113 : 0 ≤ (x5_1 : Int) := od_
    have q113 : x5_1 < (l1.length : Int) := od_
    obtain ⟨ad113, e113, hx113_0, hx113_1, hx113_2, hx113_3⟩ := at_T72 HR1.out x5_1 p113 q113
    have hw113_3 := hx113_3
    have hw113_2 := hx113_2
    have hw113_1 := hx113_1
    have hw113_0 := hx113_0
    cases e113
    replace hx113_0 := clTr HB.out hx113_0
    replace hx113_1 := clTr HB.out hx113_1
    replace hx113_2 := clTr HB.out hx113_2
    replace hx113_3 := clTr HB.out hx113_3
    replace p113 := eq_true p113
    replace q113 := eq_true q113
    refine start_ (n := 10) (S := fun w' => w'.cell? (ad112.add ((x5_1).toNat * 4)) = some (.int .i64 ((rd_T72 l0 x5_1).f0.f0)) ∧ w'.cell? ⟨(ad112.add ((x5_1).toNat * 4)).block, (ad112.add ((x5_1).toNat * 4)).off + 1, none⟩ = some (.int .i64 ((rd_T72 l0 x5_1).f0.f1)) ∧ w'.cell? ⟨(ad112.add ((x5_1).toNat * 4)).block, (ad112.add ((x5_1).toNat * 4)).off + 2, none⟩ = some (.int .i64 ((rd_T72 l0 x5_1).f0.f2)) ∧ w'.cell? ⟨(ad112.add ((x5_1).toNat * 4)).block, (ad112.add ((x5_1).toNat * 4)).off + 3, none⟩ = some (.int .i64 ((rd_T72 l0 x5_1).f1)) ∧ w'.cell? (ad113.add ((x5_1).toNat * 4)) = some (.int .i64 ((rd_T72 l1 x5_1).f0.f0)) ∧ w'.cell? ⟨(ad113.add ((x5_1).toNat * 4)).block, (ad113.add ((x5_1).toNat * 4)).off + 1, none⟩ = some (.int .i64 ((rd_T72 l1 x5_1).f0.f1)) ∧ w'.cell? ⟨(ad113.add ((x5_1).toNat * 4)).block, (ad113.add ((x5_1).toNat * 4)).off + 2, none⟩ = some (.int .i64 ((rd_T72 l1 x5_1).f0.f2)) ∧ w'.cell? ⟨(ad113.add ((x5_1).toNat * 4)).block, (ad113.add ((x5_1).toNat * 4)).off + 3, none⟩ = some (.int .i64 ((rd_T72 l1 x5_1).f1))) (ds := []) (bv_ 10 0) (by kernel_rfl) rfl rfl ⟨(clTr HB.out hw112_0 :), (clTr HB.out hw112_1 :), (clTr HB.out hw112_2 :), (clTr HB.out hw112_3 :), (clTr HB.out hw113_0 :), (clTr HB.out hw113_1 :), (clTr HB.out hw113_2 :), (clTr HB.out hw113_3 :)⟩ (fun hHeld => ?_); refine with_tabW laws_eqPieceS.tab6 laws_eqPieceS.bits6 (fun HT_ HW_ => ?_)
    generalize wr.drew = w11 at HB hx112_0 hx112_1 hx112_2 hx112_3 hx113_0 hx113_1 hx113_2 hx113_3 hHeld ⊢
    refine px_ HT_ 0 17 1 ?_
    refine px_ HT_ 1 18 3 ?_
    refine px_ HT_ 2 19 7 ?_
    refine px_ HT_ 4 21 23 ?_
    refine px_ HT_ 5 22 55 ?_
    refine px_ HT_ 6 23 119 ?_
    refine ta_ HT_ HW_ 3 (some 20) (bv_ 10 127) hHeld ?_ (hy := by rintro w' ⟨s0, s1, s2, s3, s4, s5, s6, s7⟩; go_simp; with_reducible rfl)
    refine ta_ HT_ HW_ 7 (some 24) (bv_ 10 255) hHeld ?_ (hy := by rintro w' ⟨s0, s1, s2, s3, s4, s5, s6, s7⟩; go_simp; with_reducible rfl)
    refine on_ HT_ 8 (some 25) (bv_ 10 511) (fun K hK => ?_)
    refine gs_ Try.func74 #[.agg #[.int .i64 ((rd_T72 l0 x5_1).f0.f0), .int .i64 ((rd_T72 l0 x5_1).f0.f1), .int .i64 ((rd_T72 l0 x5_1).f0.f2), .int .i64 ((rd_T72 l0 x5_1).f1)], .agg #[.int .i64 ((rd_T72 l1 x5_1).f0.f0), .int .i64 ((rd_T72 l1 x5_1).f0.f1), .int .i64 ((rd_T72 l1 x5_1).f0.f2), .int .i64 ((rd_T72 l1 x5_1).f1)]] ?_
    with_reducible refine (laws_eqPiece.calls ((rd_T72 l0 x5_1).f0.f0) ((rd_T72 l0 x5_1).f0.f1) ((rd_T72 l0 x5_1).f0.f2) ((rd_T72 l0 x5_1).f1) ((rd_T72 l1 x5_1).f0.f0) ((rd_T72 l1 x5_1).f0.f1) ((rd_T72 l1 x5_1).f0.f2) ((rd_T72 l1 x5_1).f1) false _ A7.out).mono ?_
    rintro e w12 ⟨rfl, hb⟩
    refine ⟨_, rfl, ?_⟩
    replace HB := bt_ HB hb
    try clear hb
    refine hK.out _ _ ⟨(clTr HB.out hw112_0 :), (clTr HB.out hw112_1 :), (clTr HB.out hw112_2 :), (clTr HB.out hw112_3 :), (clTr HB.out hw113_0 :), (clTr HB.out hw113_1 :), (clTr HB.out hw113_2 :), (clTr HB.out hw113_3 :)⟩ (fun hHeld => ?_)
    clear hK K
    refine nm_ (some 25) ?_
    refine px_ HT_ 9 26 1023 ?_
    refine done_ (done_of HT_.out (by kernel_rfl)) ?_
    try go_wp2
    go_ret
    exact ⟨es_, (bw_ HB).out⟩
   obtain rfl := si_ H
   go_wp2
   go_ret
   exact ⟨es_, (bw_ HB).out⟩
 rw [if_neg c3] at H
 have c3b0 : ((l0.length : Int) == (l1.length : Int)) = false := beq_eq_false_iff_ne.mpr c3
 have c3b1 : ((l0.length : Int) != (l1.length : Int)) = true := bne_iff_ne.mpr c3
 have c3b2 : (l0.length == l1.length) = false := by first | simpa using c3 | (simp at c3 ⊢; omega)
 obtain rfl := si_ H
 go_enter Try.func37, Try.ntmps37
 go_wp2
 go_ret
 exact ⟨es_, (bw_ HB).out⟩
end Go.Proofs.Ytdfcoebadjhjlaa.QI
