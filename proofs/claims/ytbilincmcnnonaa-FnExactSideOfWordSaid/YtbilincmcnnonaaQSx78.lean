import Derived.Test.YtbilincmcnnonaaQSx8
namespace Go.Proofs.Ytbilincmcnnonaa.QS
set_option maxHeartbeats 8000000
set_option maxRecDepth 100000
open Go.RowKit Go.Proofs.YtbilincmcnnonaaW.PrintWords Go.Proofs.YtbilincmcnnonaaW.PrintLast Go.Proofs.YtbilincmcnnonaaW.PrintMore
attribute [local go_sem] isSome_setCell max2_int min2_int max_two min_two max_three min_three max_four min_four
set_option linter.unusedVariables false
set_option linter.unusedSimpArgs false

/-! ### laws_eqBall: function 126 -/
def laws_eqBall.f (a0_0 : Int) (a0_1 : Int) (a0_2 : Int) (a1_0 : Int) (a1_1 : Int) (a1_2 : Int) : Option (Bool) := if a0_0 = a1_0 then (if a0_1 = a1_1 then (if a0_2 = a1_2 then (some true) else (some false)) else (some false)) else (some false)
theorem laws_eqBall.calls (a0_0 : Int) (a0_1 : Int) (a0_2 : Int) (a1_0 : Int) (a1_1 : Int) (a1_2 : Int) (r : Bool) (w : World) (h : laws_eqBall.f a0_0 a0_1 a0_2 a1_0 a1_1 a1_2 = some r) :
  Calls Try.prog 126 #[.agg #[.int .i64 a0_0, .int .i64 a0_1, .int .i64 a0_2], .agg #[.int .i64 a1_0, .int .i64 a1_1, .int .i64 a1_2]] w fun e w' => e = .returned (.bool r) ∧ Below w.heap.size w w' := by
 have hu39 := Try.underlying39
 have HB := Aside0.mk (Below.refl w.heap.size w)
 have H : (if a0_0 = a1_0 then (if a0_1 = a1_1 then (if a0_2 = a1_2 then (some true) else (some false)) else (some false)) else (some false)) = some r := h
 clear h
 by_cases c3 : a0_0 = a1_0
 ·rw [if_pos c3] at H
  have c3b0 : (a0_0 == a1_0) = true := beq_iff_eq.mpr c3
  have c3b1 : (a0_0 != a1_0) = false := bne_eq_false_iff_eq.mpr c3
  clear c3
  by_cases c4 : a0_1 = a1_1
  ·rw [if_pos c4] at H
   have c4b0 : (a0_1 == a1_1) = true := beq_iff_eq.mpr c4
   have c4b1 : (a0_1 != a1_1) = false := bne_eq_false_iff_eq.mpr c4
   clear c4
   by_cases c5 : a0_2 = a1_2
   ·rw [if_pos c5] at H
    have c5b0 : (a0_2 == a1_2) = true := beq_iff_eq.mpr c5
    have c5b1 : (a0_2 != a1_2) = false := bne_eq_false_iff_eq.mpr c5
    clear c5
    obtain rfl := si_ H
    go_enter Try.func126, Try.ntmps126
    go_wp2_with (first | (refine bx_ 2 #[.int .i64 a0_0, .int .i64 a0_1, .int .i64 a0_2] 39 ?_; intro gb468 hg w6 hbox hb; have BK468 := Aside0.mk (hbox); have GW468 := bs_ HB hg; have GE468 := bs_ HB hg; replace HB := bt_ HB hb; clear hb hbox hg) | (refine bx_ 3 #[.int .i64 a1_0, .int .i64 a1_1, .int .i64 a1_2] 39 ?_; intro gb469 hg w7 hbox hb; have BK469 := Aside0.mk (hbox); have GW469 := bs_ HB hg; have GE469 := bs_ HB hg; have NB468_469 := bm_ BK468 hg; have NB469_468 := bn_ BK468 hg; replace BK468 := bb_ BK468 hb; replace HB := bt_ HB hb; clear hb hbox hg; have hnb8 := NB468_469.out; have hnc8 := NB469_468.out; obtain ⟨hcz9_0, hcz9_1, hcz9_2, hfz9_0, hfz9_1, hfz9_2⟩ := ch3_ BK468; obtain ⟨hcz10_0, hcz10_1, hcz10_2, hfz10_0, hfz10_1, hfz10_2⟩ := ch3_ BK469))
    go_ret
    exact ⟨es_, (bw_ HB).out⟩
   ·rw [if_neg c5] at H
    have c5b0 : (a0_2 == a1_2) = false := beq_eq_false_iff_ne.mpr c5
    have c5b1 : (a0_2 != a1_2) = true := bne_iff_ne.mpr c5
    obtain rfl := si_ H
    go_enter Try.func126, Try.ntmps126
    go_wp2_with (first | (refine bx_ 2 #[.int .i64 a0_0, .int .i64 a0_1, .int .i64 a0_2] 39 ?_; intro gb468 hg w11 hbox hb; have BK468 := Aside0.mk (hbox); have GW468 := bs_ HB hg; have GE468 := bs_ HB hg; replace HB := bt_ HB hb; clear hb hbox hg) | (refine bx_ 3 #[.int .i64 a1_0, .int .i64 a1_1, .int .i64 a1_2] 39 ?_; intro gb469 hg w12 hbox hb; have BK469 := Aside0.mk (hbox); have GW469 := bs_ HB hg; have GE469 := bs_ HB hg; have NB468_469 := bm_ BK468 hg; have NB469_468 := bn_ BK468 hg; replace BK468 := bb_ BK468 hb; replace HB := bt_ HB hb; clear hb hbox hg; have hnb13 := NB468_469.out; have hnc13 := NB469_468.out; obtain ⟨hcz14_0, hcz14_1, hcz14_2, hfz14_0, hfz14_1, hfz14_2⟩ := ch3_ BK468; obtain ⟨hcz15_0, hcz15_1, hcz15_2, hfz15_0, hfz15_1, hfz15_2⟩ := ch3_ BK469))
    go_ret
    exact ⟨es_, (bw_ HB).out⟩
  ·rw [if_neg c4] at H
   have c4b0 : (a0_1 == a1_1) = false := beq_eq_false_iff_ne.mpr c4
   have c4b1 : (a0_1 != a1_1) = true := bne_iff_ne.mpr c4
   obtain rfl := si_ H
   go_enter Try.func126, Try.ntmps126
   go_wp2_with (first | (refine bx_ 2 #[.int .i64 a0_0, .int .i64 a0_1, .int .i64 a0_2] 39 ?_; intro gb468 hg w16 hbox hb; have BK468 := Aside0.mk (hbox); have GW468 := bs_ HB hg; have GE468 := bs_ HB hg; replace HB := bt_ HB hb; clear hb hbox hg) | (refine bx_ 3 #[.int .i64 a1_0, .int .i64 a1_1, .int .i64 a1_2] 39 ?_; intro gb469 hg w17 hbox hb; have BK469 := Aside0.mk (hbox); have GW469 := bs_ HB hg; have GE469 := bs_ HB hg; have NB468_469 := bm_ BK468 hg; have NB469_468 := bn_ BK468 hg; replace BK468 := bb_ BK468 hb; replace HB := bt_ HB hb; clear hb hbox hg; have hnb18 := NB468_469.out; have hnc18 := NB469_468.out; obtain ⟨hcz19_0, hcz19_1, hcz19_2, hfz19_0, hfz19_1, hfz19_2⟩ := ch3_ BK468; obtain ⟨hcz20_0, hcz20_1, hcz20_2, hfz20_0, hfz20_1, hfz20_2⟩ := ch3_ BK469))
   go_ret
   exact ⟨es_, (bw_ HB).out⟩
 ·rw [if_neg c3] at H
  have c3b0 : (a0_0 == a1_0) = false := beq_eq_false_iff_ne.mpr c3
  have c3b1 : (a0_0 != a1_0) = true := bne_iff_ne.mpr c3
  obtain rfl := si_ H
  go_enter Try.func126, Try.ntmps126
  go_wp2_with (first | (refine bx_ 2 #[.int .i64 a0_0, .int .i64 a0_1, .int .i64 a0_2] 39 ?_; intro gb468 hg w21 hbox hb; have BK468 := Aside0.mk (hbox); have GW468 := bs_ HB hg; have GE468 := bs_ HB hg; replace HB := bt_ HB hb; clear hb hbox hg) | (refine bx_ 3 #[.int .i64 a1_0, .int .i64 a1_1, .int .i64 a1_2] 39 ?_; intro gb469 hg w22 hbox hb; have BK469 := Aside0.mk (hbox); have GW469 := bs_ HB hg; have GE469 := bs_ HB hg; have NB468_469 := bm_ BK468 hg; have NB469_468 := bn_ BK468 hg; replace BK468 := bb_ BK468 hb; replace HB := bt_ HB hb; clear hb hbox hg; have hnb23 := NB468_469.out; have hnc23 := NB469_468.out; obtain ⟨hcz24_0, hcz24_1, hcz24_2, hfz24_0, hfz24_1, hfz24_2⟩ := ch3_ BK468; obtain ⟨hcz25_0, hcz25_1, hcz25_2, hfz25_0, hfz25_1, hfz25_2⟩ := ch3_ BK469))
  go_ret
  exact ⟨es_, (bw_ HB).out⟩
/-! ### laws_eqSide: function 50 -/
def laws_eqSide.f (a0_0 : Int) (a0_1 : Int) (a0_2 : Int) (a0_3 : Bool) (a1_0 : Int) (a1_1 : Int) (a1_2 : Int) (a1_3 : Bool) : Option (Bool) := (laws_eqBall.f a0_0 a0_1 a0_2 a1_0 a1_1 a1_2).bind fun t472 => (if t472 = true then (if (a0_3 != a1_3) = true then (some false) else (some true)) else (some false))
theorem laws_eqSide.calls (a0_0 : Int) (a0_1 : Int) (a0_2 : Int) (a0_3 : Bool) (a1_0 : Int) (a1_1 : Int) (a1_2 : Int) (a1_3 : Bool) (r : Bool) (w : World) (h : laws_eqSide.f a0_0 a0_1 a0_2 a0_3 a1_0 a1_1 a1_2 a1_3 = some r) :
  Calls Try.prog 50 #[.agg #[.int .i64 a0_0, .int .i64 a0_1, .int .i64 a0_2, .bool a0_3], .agg #[.int .i64 a1_0, .int .i64 a1_1, .int .i64 a1_2, .bool a1_3]] w fun e w' => e = .returned (.bool r) ∧ Below w.heap.size w w' := by
 have hu59 := Try.underlying59
 have hu39 := Try.underlying39
 have HB := Aside0.mk (Below.refl w.heap.size w)
 have H : ((laws_eqBall.f a0_0 a0_1 a0_2 a1_0 a1_1 a1_2).bind fun t472 => (if t472 = true then (if (a0_3 != a1_3) = true then (some false) else (some true)) else (some false))) = some r := h
 clear h
 replace H := ob_ H
 obtain ⟨t472, A30, H⟩ := H
 have A3 := Aside0.mk A30
 clear A30
 by_cases c4 : t472 = true
 ·subst c4
  have H1 : (if (a0_3 != a1_3) = true then (some false) else (some true)) = some r := by rw [if_pos rfl] at H; exact H
  clear H
  have H := H1
  clear H1
  by_cases c5 : (a0_3 != a1_3) = true
  ·rw [if_pos c5] at H
   have c5b0 : (a0_3 != a1_3) = true := c5
   (try (have c5b1 : decide (a0_3 = a1_3) = false := by simpa using c5))
   (try (have c5b2 : (a0_3 == a1_3) = false := by simpa using c5))
   (try (have c5b3 : ¬ (a0_3 = a1_3) := by simpa using c5))
   clear c5
   obtain rfl := si_ H
   go_enter Try.func50, Try.ntmps50
   go_wp2_with (first | (refine bx_ 2 #[.int .i64 a0_0, .int .i64 a0_1, .int .i64 a0_2, .bool a0_3] 59 ?_; intro gb470 hg w6 hbox hb; have BK470 := Aside0.mk (hbox); have GW470 := bs_ HB hg; have GE470 := bs_ HB hg; replace HB := bt_ HB hb; clear hb hbox hg) | (refine bx_ 3 #[.int .i64 a1_0, .int .i64 a1_1, .int .i64 a1_2, .bool a1_3] 59 ?_; intro gb471 hg w7 hbox hb; have BK471 := Aside0.mk (hbox); have GW471 := bs_ HB hg; have GE471 := bs_ HB hg; have NB470_471 := bm_ BK470 hg; have NB471_470 := bn_ BK470 hg; replace BK470 := bb_ BK470 hb; replace HB := bt_ HB hb; clear hb hbox hg; have hnb8 := NB470_471.out; have hnc8 := NB471_470.out; obtain ⟨hcz9_0, hcz9_1, hcz9_2, hcz9_3, hfz9_0, hfz9_1, hfz9_2, hfz9_3⟩ := ch4_ BK470; obtain ⟨hcz10_0, hcz10_1, hcz10_2, hcz10_3, hfz10_0, hfz10_1, hfz10_2, hfz10_3⟩ := ch4_ BK471) | (refine ge_ 9 Try.func126 #[.agg #[.int .i64 a0_0, .int .i64 a0_1, .int .i64 a0_2], .agg #[.int .i64 a1_0, .int .i64 a1_1, .int .i64 a1_2]] ?_; (with_reducible refine (laws_eqBall.calls a0_0 a0_1 a0_2 a1_0 a1_1 a1_2 true _ A3.out).mono ?_); rintro e w11 ⟨rfl, hb⟩; refine ⟨_, rfl, ?_⟩; replace BK470 := bb_ BK470 hb; replace BK471 := bb_ BK471 hb; replace HB := bt_ HB hb; (try clear hb); (try clear hb2); (try clear hk); (try clear hi); obtain ⟨hcz12_0, hcz12_1, hcz12_2, hcz12_3, hfz12_0, hfz12_1, hfz12_2, hfz12_3⟩ := ch4_ BK470; obtain ⟨hcz13_0, hcz13_1, hcz13_2, hcz13_3, hfz13_0, hfz13_1, hfz13_2, hfz13_3⟩ := ch4_ BK471))
   go_ret
   exact ⟨es_, (bw_ HB).out⟩
  ·rw [if_neg c5] at H
   have c5b0 : (a0_3 != a1_3) = false := by simpa using c5
   (try (have c5b1 : decide (a0_3 = a1_3) = true := by simpa using c5))
   (try (have c5b2 : (a0_3 == a1_3) = true := by simpa using c5))
   clear c5
   obtain rfl := si_ H
   go_enter Try.func50, Try.ntmps50
   go_wp2_with (first | (refine bx_ 2 #[.int .i64 a0_0, .int .i64 a0_1, .int .i64 a0_2, .bool a0_3] 59 ?_; intro gb470 hg w14 hbox hb; have BK470 := Aside0.mk (hbox); have GW470 := bs_ HB hg; have GE470 := bs_ HB hg; replace HB := bt_ HB hb; clear hb hbox hg) | (refine bx_ 3 #[.int .i64 a1_0, .int .i64 a1_1, .int .i64 a1_2, .bool a1_3] 59 ?_; intro gb471 hg w15 hbox hb; have BK471 := Aside0.mk (hbox); have GW471 := bs_ HB hg; have GE471 := bs_ HB hg; have NB470_471 := bm_ BK470 hg; have NB471_470 := bn_ BK470 hg; replace BK470 := bb_ BK470 hb; replace HB := bt_ HB hb; clear hb hbox hg; have hnb16 := NB470_471.out; have hnc16 := NB471_470.out; obtain ⟨hcz17_0, hcz17_1, hcz17_2, hcz17_3, hfz17_0, hfz17_1, hfz17_2, hfz17_3⟩ := ch4_ BK470; obtain ⟨hcz18_0, hcz18_1, hcz18_2, hcz18_3, hfz18_0, hfz18_1, hfz18_2, hfz18_3⟩ := ch4_ BK471) | (refine ge_ 9 Try.func126 #[.agg #[.int .i64 a0_0, .int .i64 a0_1, .int .i64 a0_2], .agg #[.int .i64 a1_0, .int .i64 a1_1, .int .i64 a1_2]] ?_; (with_reducible refine (laws_eqBall.calls a0_0 a0_1 a0_2 a1_0 a1_1 a1_2 true _ A3.out).mono ?_); rintro e w19 ⟨rfl, hb⟩; refine ⟨_, rfl, ?_⟩; replace BK470 := bb_ BK470 hb; replace BK471 := bb_ BK471 hb; replace HB := bt_ HB hb; (try clear hb); (try clear hb2); (try clear hk); (try clear hi); obtain ⟨hcz20_0, hcz20_1, hcz20_2, hcz20_3, hfz20_0, hfz20_1, hfz20_2, hfz20_3⟩ := ch4_ BK470; obtain ⟨hcz21_0, hcz21_1, hcz21_2, hcz21_3, hfz21_0, hfz21_1, hfz21_2, hfz21_3⟩ := ch4_ BK471))
   go_ret
   exact ⟨es_, (bw_ HB).out⟩
 ·replace c4 := Bool.eq_false_iff.mpr c4
  subst c4
  have H1 : (some false) = some r := by rw [if_neg (show ¬ (false = true) by decide)] at H; exact H
  clear H
  have H := H1
  clear H1
  obtain rfl := si_ H
  go_enter Try.func50, Try.ntmps50
  go_wp2_with (first | (refine bx_ 2 #[.int .i64 a0_0, .int .i64 a0_1, .int .i64 a0_2, .bool a0_3] 59 ?_; intro gb470 hg w22 hbox hb; have BK470 := Aside0.mk (hbox); have GW470 := bs_ HB hg; have GE470 := bs_ HB hg; replace HB := bt_ HB hb; clear hb hbox hg) | (refine bx_ 3 #[.int .i64 a1_0, .int .i64 a1_1, .int .i64 a1_2, .bool a1_3] 59 ?_; intro gb471 hg w23 hbox hb; have BK471 := Aside0.mk (hbox); have GW471 := bs_ HB hg; have GE471 := bs_ HB hg; have NB470_471 := bm_ BK470 hg; have NB471_470 := bn_ BK470 hg; replace BK470 := bb_ BK470 hb; replace HB := bt_ HB hb; clear hb hbox hg; have hnb24 := NB470_471.out; have hnc24 := NB471_470.out; obtain ⟨hcz25_0, hcz25_1, hcz25_2, hcz25_3, hfz25_0, hfz25_1, hfz25_2, hfz25_3⟩ := ch4_ BK470; obtain ⟨hcz26_0, hcz26_1, hcz26_2, hcz26_3, hfz26_0, hfz26_1, hfz26_2, hfz26_3⟩ := ch4_ BK471) | (refine ge_ 9 Try.func126 #[.agg #[.int .i64 a0_0, .int .i64 a0_1, .int .i64 a0_2], .agg #[.int .i64 a1_0, .int .i64 a1_1, .int .i64 a1_2]] ?_; (with_reducible refine (laws_eqBall.calls a0_0 a0_1 a0_2 a1_0 a1_1 a1_2 false _ A3.out).mono ?_); rintro e w27 ⟨rfl, hb⟩; refine ⟨_, rfl, ?_⟩; replace BK470 := bb_ BK470 hb; replace BK471 := bb_ BK471 hb; replace HB := bt_ HB hb; (try clear hb); (try clear hb2); (try clear hk); (try clear hi)))
  go_ret
  exact ⟨es_, (bw_ HB).out⟩
/-! ### laws_eqInt64A2: function 170 -/
def laws_eqInt64A2.l0 : Nat → Int → Int → Int → Int → Int → Option (Bool)
 | 0, _, _, _, _, _ => none
 | k + 1, x5, x474000, x474001, x475000, x475001 => if x5 < 2 then (if x5 = 0 then (if x474000 = x475000 then (laws_eqInt64A2.l0 k (wrap64 (x5 + 1)) x474000 x474001 x475000 x475001) else (some false)) else (if x5 = 1 then (if x474001 = x475001 then (laws_eqInt64A2.l0 k (wrap64 (x5 + 1)) x474000 x474001 x475000 x475001) else (some false)) else (none))) else (some true)
def laws_eqInt64A2.f (k : Nat) (a0_0 : Int) (a0_1 : Int) (a1_0 : Int) (a1_1 : Int) : Option (Bool) := laws_eqInt64A2.l0 k 0 a0_0 a0_1 a1_0 a1_1
theorem laws_eqInt64A2.calls (k : Nat) (a0_0 : Int) (a0_1 : Int) (a1_0 : Int) (a1_1 : Int) (r : Bool) (w : World) (h : laws_eqInt64A2.f k a0_0 a0_1 a1_0 a1_1 = some r) :
  Calls Try.prog 170 #[.agg #[.int .i64 a0_0, .int .i64 a0_1], .agg #[.int .i64 a1_0, .int .i64 a1_1]] w fun e w' => e = .returned (.bool r) ∧ Below w.heap.size w w' := by
 have hu24 := Try.underlying24
 have HB := Aside0.mk (Below.refl w.heap.size w)
 have H : (laws_eqInt64A2.l0 k 0 a0_0 a0_1 a1_0 a1_1) = some r := h
 clear h
 have H' := Aside0.mk H
 clear H
 go_enter Try.func170, Try.ntmps170
 go_wp2_with (first | (refine bx_ 2 #[.int .i64 a0_0, .int .i64 a0_1] 24 ?_; intro gb473 hg w3 hbox hb; have BK473 := Aside0.mk (hbox); have GW473 := bs_ HB hg; have GE473 := bs_ HB hg; replace HB := bt_ HB hb; clear hb hbox hg) | (refine bx_ 3 #[.int .i64 a1_0, .int .i64 a1_1] 24 ?_; intro gb474 hg w4 hbox hb; have BK474 := Aside0.mk (hbox); have GW474 := bs_ HB hg; have GE474 := bs_ HB hg; have NB473_474 := bm_ BK473 hg; have NB474_473 := bn_ BK473 hg; replace BK473 := bb_ BK473 hb; replace HB := bt_ HB hb; clear hb hbox hg))
 repeat (go_quiet (first | (refine bx_ 2 #[.int .i64 a0_0, .int .i64 a0_1] 24 ?_; intro gb473 hg w3 hbox hb; have BK473 := Aside0.mk (hbox); have GW473 := bs_ HB hg; have GE473 := bs_ HB hg; replace HB := bt_ HB hb; clear hb hbox hg) | (refine bx_ 3 #[.int .i64 a1_0, .int .i64 a1_1] 24 ?_; intro gb474 hg w4 hbox hb; have BK474 := Aside0.mk (hbox); have GW474 := bs_ HB hg; have GE474 := bs_ HB hg; have NB473_474 := bm_ BK473 hg; have NB474_473 := bn_ BK473 hg; replace BK473 := bb_ BK473 hb; replace HB := bt_ HB hb; clear hb hbox hg)); try go_wp2_with (first | (refine bx_ 2 #[.int .i64 a0_0, .int .i64 a0_1] 24 ?_; intro gb473 hg w3 hbox hb; have BK473 := Aside0.mk (hbox); have GW473 := bs_ HB hg; have GE473 := bs_ HB hg; replace HB := bt_ HB hb; clear hb hbox hg) | (refine bx_ 3 #[.int .i64 a1_0, .int .i64 a1_1] 24 ?_; intro gb474 hg w4 hbox hb; have BK474 := Aside0.mk (hbox); have GW474 := bs_ HB hg; have GE474 := bs_ HB hg; have NB473_474 := bm_ BK473 hg; have NB474_473 := bn_ BK473 hg; replace BK473 := bb_ BK473 hb; replace HB := bt_ HB hb; clear hb hbox hg)))
 go_loopg [5] k (fun kq v5 w' => ∃ (x5_1 : Int), v5 = .int .i64 x5_1 ∧ Aside0 (laws_eqInt64A2.l0 kq x5_1 a0_0 a0_1 a1_0 a1_1 = some r) ∧ Aside0 (kq ≤ k) ∧ Aside0 (w'.heap[gb473]? = some (.cells #[.int .i64 a0_0, .int .i64 a0_1] 24 (0, 0))) ∧ Aside0 (w'.heap[gb474]? = some (.cells #[.int .i64 a1_0, .int .i64 a1_1] 24 (0, 0))) ∧ Aside0 (Below w.heap.size w w'))
 case atStart => exact ⟨(0), en_, H', ⟨Nat.le_refl _⟩, bl_ BK473, bl_ BK474, bw_ HB⟩
 case round =>
  clear H'
  try clear c1
  try clear p2
  obtain ⟨x5_1, rfl, HA, HK1, BK473, BK474, HB⟩ := hrel
  cases gk with
  | zero => exact absurd HA.out (by simp [laws_eqInt64A2.l0])
  | succ k1 =>
   have H := HA.out
   clear HA
   simp only [laws_eqInt64A2.l0] at H
   by_cases c5 : x5_1 < 2
   ·rw [if_pos c5] at H
    have c5b0 : decide (x5_1 < 2) = true := decide_eq_true c5
    clear c5
    by_cases c6 : x5_1 = 0
    ·subst c6
     have H1 : (if a0_0 = a1_0 then (laws_eqInt64A2.l0 k1 (wrap64 (0 + 1)) a0_0 a0_1 a1_0 a1_1) else (some false)) = some r := by rw [if_pos rfl] at H; exact H
     clear H
     have H := H1
     clear H1
     by_cases c7 : a0_0 = a1_0
     ·rw [if_pos c7] at H
      have c7b0 : (a0_0 == a1_0) = true := beq_iff_eq.mpr c7
      have c7b1 : (a0_0 != a1_0) = false := bne_eq_false_iff_eq.mpr c7
      clear c7
      have H' := Aside0.mk H
      clear H
      have hnb8 := NB473_474.out
      have hnc8 := NB474_473.out
      obtain ⟨hcz9_0, hcz9_1, hfz9_0, hfz9_1⟩ := ch2_ BK473
      obtain ⟨hcz10_0, hcz10_1, hfz10_0, hfz10_1⟩ := ch2_ BK474
      go_wp2
      repeat (go_quiet (fail); try go_wp2)
      go_roundg k1
      case measure => have := HK1.out; omega
      case rel => exact ⟨(wrap64 (0 + 1)), en_, H', ⟨by have := HK1.out; omega⟩, bl_ BK473, bl_ BK474, bw_ HB⟩
     ·rw [if_neg c7] at H
      have c7b0 : (a0_0 == a1_0) = false := beq_eq_false_iff_ne.mpr c7
      have c7b1 : (a0_0 != a1_0) = true := bne_iff_ne.mpr c7
      obtain rfl := si_ H
      have hnb11 := NB473_474.out
      have hnc11 := NB474_473.out
      obtain ⟨hcz12_0, hcz12_1, hfz12_0, hfz12_1⟩ := ch2_ BK473
      obtain ⟨hcz13_0, hcz13_1, hfz13_0, hfz13_1⟩ := ch2_ BK474
      go_wp2
      repeat (go_quiet (fail); try go_wp2)
      go_ret
      exact ⟨es_, (bw_ HB).out⟩
    ·rw [if_neg c6] at H
     have c6b0 : (x5_1 == 0) = false := beq_eq_false_iff_ne.mpr c6
     have c6b1 : (x5_1 != 0) = true := bne_iff_ne.mpr c6
     by_cases c14 : x5_1 = 1
     ·subst c14
      have H1 : (if a0_1 = a1_1 then (laws_eqInt64A2.l0 k1 (wrap64 (1 + 1)) a0_0 a0_1 a1_0 a1_1) else (some false)) = some r := by rw [if_pos rfl] at H; exact H
      clear H
      have H := H1
      clear H1
      by_cases c15 : a0_1 = a1_1
      ·rw [if_pos c15] at H
       have c15b0 : (a0_1 == a1_1) = true := beq_iff_eq.mpr c15
       have c15b1 : (a0_1 != a1_1) = false := bne_eq_false_iff_eq.mpr c15
       clear c15
       have H' := Aside0.mk H
       clear H
       have hnb16 := NB473_474.out
       have hnc16 := NB474_473.out
       obtain ⟨hcz17_0, hcz17_1, hfz17_0, hfz17_1⟩ := ch2_ BK473
       obtain ⟨hcz18_0, hcz18_1, hfz18_0, hfz18_1⟩ := ch2_ BK474
       go_wp2
       repeat (go_quiet (fail); try go_wp2)
       go_roundg k1
       case measure => have := HK1.out; omega
       case rel => exact ⟨(wrap64 (1 + 1)), en_, H', ⟨by have := HK1.out; omega⟩, bl_ BK473, bl_ BK474, bw_ HB⟩
      ·rw [if_neg c15] at H
       have c15b0 : (a0_1 == a1_1) = false := beq_eq_false_iff_ne.mpr c15
       have c15b1 : (a0_1 != a1_1) = true := bne_iff_ne.mpr c15
       obtain rfl := si_ H
       have hnb19 := NB473_474.out
       have hnc19 := NB474_473.out
       obtain ⟨hcz20_0, hcz20_1, hfz20_0, hfz20_1⟩ := ch2_ BK473
       obtain ⟨hcz21_0, hcz21_1, hfz21_0, hfz21_1⟩ := ch2_ BK474
       go_wp2
       repeat (go_quiet (fail); try go_wp2)
       go_ret
       exact ⟨es_, (bw_ HB).out⟩
     ·rw [if_neg c14] at H
      exact absurd H (by simp)
   ·rw [if_neg c5] at H
    have c5b0 : decide (x5_1 < 2) = false := decide_eq_false c5
    clear c5
    obtain rfl := si_ H
    go_wp2
    repeat (go_quiet (fail); try go_wp2)
    go_ret
    exact ⟨es_, (bw_ HB).out⟩
/-! ### laws_eqMatrix: function 127 -/
def laws_eqMatrix.l0 : Nat → Int → Int → Int → Int → Int → Int → Int → Int → Int → Option (Bool)
 | 0, _, _, _, _, _, _, _, _, _ => none
 | k + 1, x5, x476000, x476001, x476002, x476003, x477000, x477001, x477002, x477003 => if x5 < 2 then (if x5 = 0 then ((laws_eqInt64A2.f k x476000 x476001 x477000 x477001).bind fun t477 => (if t477 = true then (laws_eqMatrix.l0 k (wrap64 (x5 + 1)) x476000 x476001 x476002 x476003 x477000 x477001 x477002 x477003) else (some false))) else (if x5 = 1 then ((laws_eqInt64A2.f k x476002 x476003 x477002 x477003).bind fun t478 => (if t478 = true then (laws_eqMatrix.l0 k (wrap64 (x5 + 1)) x476000 x476001 x476002 x476003 x477000 x477001 x477002 x477003) else (some false))) else (none))) else (some true)
def laws_eqMatrix.f (k : Nat) (a0_0 : Int) (a0_1 : Int) (a0_2 : Int) (a0_3 : Int) (a1_0 : Int) (a1_1 : Int) (a1_2 : Int) (a1_3 : Int) : Option (Bool) := laws_eqMatrix.l0 k 0 a0_0 a0_1 a0_2 a0_3 a1_0 a1_1 a1_2 a1_3
def laws_eqMatrix.T4 : Bool × List (List Nat × List Nat) := (true, [([], []), ([0], [0]), ([1], [1]), ([], []), ([3], [3]), ([4], [4]), ([2, 5], [2, 5]), ([6], [6])])
def laws_eqMatrix.B4 : List Nat := [0, 1, 3, 0, 8, 24, 63, 127]
theorem laws_eqMatrix.tab4 : rtab .any (opsOf Try.f127 4) = laws_eqMatrix.T4 := by kernel_rfl
theorem laws_eqMatrix.bits4 : waitsOk laws_eqMatrix.T4.2 laws_eqMatrix.B4 = true := by kernel_rfl
theorem laws_eqMatrix.calls (k : Nat) (a0_0 : Int) (a0_1 : Int) (a0_2 : Int) (a0_3 : Int) (a1_0 : Int) (a1_1 : Int) (a1_2 : Int) (a1_3 : Int) (r : Bool) (w : World) (h : laws_eqMatrix.f k a0_0 a0_1 a0_2 a0_3 a1_0 a1_1 a1_2 a1_3 = some r) :
  Calls Try.prog 127 #[.agg #[.int .i64 a0_0, .int .i64 a0_1, .int .i64 a0_2, .int .i64 a0_3], .agg #[.int .i64 a1_0, .int .i64 a1_1, .int .i64 a1_2, .int .i64 a1_3]] w fun e w' => e = .returned (.bool r) ∧ Below w.heap.size w w' := by
 have hu26 := Try.underlying26
 have hu24 := Try.underlying24
 have HB := Aside0.mk (Below.refl w.heap.size w)
 have H : (laws_eqMatrix.l0 k 0 a0_0 a0_1 a0_2 a0_3 a1_0 a1_1 a1_2 a1_3) = some r := h
 clear h
 have H' := Aside0.mk H
 clear H
 go_enter Try.func127, Try.ntmps127
 go_wp2_with (first | (refine bx_ 2 #[.int .i64 a0_0, .int .i64 a0_1, .int .i64 a0_2, .int .i64 a0_3] 26 ?_; intro gb475 hg w3 hbox hb; have BK475 := Aside0.mk (hbox); have GW475 := bs_ HB hg; have GE475 := bs_ HB hg; replace HB := bt_ HB hb; clear hb hbox hg) | (refine bx_ 3 #[.int .i64 a1_0, .int .i64 a1_1, .int .i64 a1_2, .int .i64 a1_3] 26 ?_; intro gb476 hg w4 hbox hb; have BK476 := Aside0.mk (hbox); have GW476 := bs_ HB hg; have GE476 := bs_ HB hg; have NB475_476 := bm_ BK475 hg; have NB476_475 := bn_ BK475 hg; replace BK475 := bb_ BK475 hb; replace HB := bt_ HB hb; clear hb hbox hg))
 go_loopg [5] k (fun kq v5 w' => ∃ (x5_1 : Int), v5 = .int .i64 x5_1 ∧ Aside0 (laws_eqMatrix.l0 kq x5_1 a0_0 a0_1 a0_2 a0_3 a1_0 a1_1 a1_2 a1_3 = some r) ∧ Aside0 (kq ≤ k) ∧ Aside0 (w'.heap[gb475]? = some (.cells #[.int .i64 a0_0, .int .i64 a0_1, .int .i64 a0_2, .int .i64 a0_3] 26 (0, 0))) ∧ Aside0 (w'.heap[gb476]? = some (.cells #[.int .i64 a1_0, .int .i64 a1_1, .int .i64 a1_2, .int .i64 a1_3] 26 (0, 0))) ∧ Aside0 (Below w.heap.size w w'))
 case atStart => exact ⟨(0), en_, H', ⟨Nat.le_refl _⟩, bl_ BK475, bl_ BK476, bw_ HB⟩
 case round =>
  clear H'
  try clear c1
  try clear p2
  obtain ⟨x5_1, rfl, HA, HK1, BK475, BK476, HB⟩ := hrel
  cases gk with
  | zero => exact absurd HA.out (by simp [laws_eqMatrix.l0])
  | succ k1 =>
   have H := HA.out
   clear HA
   simp only [laws_eqMatrix.l0] at H
   by_cases c5 : x5_1 < 2
   ·rw [if_pos c5] at H
    have c5b0 : decide (x5_1 < 2) = true := decide_eq_true c5
    clear c5
    by_cases c6 : x5_1 = 0
    ·subst c6
     have H1 : ((laws_eqInt64A2.f k1 a0_0 a0_1 a1_0 a1_1).bind fun t477 => (if t477 = true then (laws_eqMatrix.l0 k1 (wrap64 (0 + 1)) a0_0 a0_1 a0_2 a0_3 a1_0 a1_1 a1_2 a1_3) else (some false))) = some r := by rw [if_pos rfl] at H; exact H
     clear H
     have H := H1
     clear H1
     replace H := ob_ H
     obtain ⟨t477, A70, H⟩ := H
     have A7 := Aside0.mk A70
     clear A70
     by_cases c8 : t477 = true
     ·subst c8
      have H1 : (laws_eqMatrix.l0 k1 (wrap64 (0 + 1)) a0_0 a0_1 a0_2 a0_3 a1_0 a1_1 a1_2 a1_3) = some r := by rw [if_pos rfl] at H; exact H
      clear H
      have H := H1
      clear H1
      have H' := Aside0.mk H
      clear H
      try go_wp2
      replace BK475 := Aside0.mk (blk_drew BK475.out)
      replace BK476 := Aside0.mk (blk_drew BK476.out)
      replace HB := Aside0.mk (below_drew1 HB.out)
      refine start_ (n := 8) (S := fun w' => w'.cell? ⟨gb475, 0, none⟩ = some (.int .i64 a0_0) ∧ w'.cell? ⟨gb475, 1, none⟩ = some (.int .i64 a0_1) ∧ w'.cell? ⟨gb475, 2, none⟩ = some (.int .i64 a0_2) ∧ w'.cell? ⟨gb475, 3, none⟩ = some (.int .i64 a0_3) ∧ w'.cell? ⟨gb476, 0, none⟩ = some (.int .i64 a1_0) ∧ w'.cell? ⟨gb476, 1, none⟩ = some (.int .i64 a1_1) ∧ w'.cell? ⟨gb476, 2, none⟩ = some (.int .i64 a1_2) ∧ w'.cell? ⟨gb476, 3, none⟩ = some (.int .i64 a1_3)) (ds := []) (bv_ 8 0) (by kernel_rfl) rfl rfl ⟨cz_ BK475 0, cz_ BK475 1, cz_ BK475 2, cz_ BK475 3, cz_ BK476 0, cz_ BK476 1, cz_ BK476 2, cz_ BK476 3⟩ (fun hHeld => ?_); refine with_tabW laws_eqMatrix.tab4 laws_eqMatrix.bits4 (fun HT_ HW_ => ?_)
      generalize wr.drew = w9 at BK475 BK476 HB hHeld ⊢
      refine pu_ HT_ 0 (some 10) (bv_ 8 1) ?_
      refine pu_ HT_ 1 (some 11) (bv_ 8 3) ?_
      refine pu_ HT_ 3 (some 13) (bv_ 8 11) ?_
      refine pu_ HT_ 4 (some 14) (bv_ 8 27) ?_
      refine ta_ HT_ HW_ 2 (some 12) (bv_ 8 31) hHeld ?_ (hy := by rintro w' ⟨s0, s1, s2, s3, s4, s5, s6, s7⟩; go_simp; with_reducible rfl)
      refine ta_ HT_ HW_ 5 (some 15) (bv_ 8 63) hHeld ?_ (hy := by rintro w' ⟨s0, s1, s2, s3, s4, s5, s6, s7⟩; go_simp; with_reducible rfl)
      refine on_ HT_ 6 (some 16) (bv_ 8 127) (fun K hK => ?_)
      refine gs_ Try.func170 #[.agg #[.int .i64 a0_0, .int .i64 a0_1], .agg #[.int .i64 a1_0, .int .i64 a1_1]] ?_
      with_reducible refine (laws_eqInt64A2.calls k1 a0_0 a0_1 a1_0 a1_1 true _ A7.out).mono ?_
      rintro e w10 ⟨rfl, hb⟩
      refine ⟨_, rfl, ?_⟩
      replace BK475 := bb_ BK475 hb
      replace BK476 := bb_ BK476 hb
      replace HB := bt_ HB hb
      (try clear hb)
      (try clear hb2)
      (try clear hk)
      (try clear hi)
      refine hK.out _ _ ⟨cz_ BK475 0, cz_ BK475 1, cz_ BK475 2, cz_ BK475 3, cz_ BK476 0, cz_ BK476 1, cz_ BK476 2, cz_ BK476 3⟩ (fun hHeld => ?_)
      clear hK K
      refine nm_ (some 16) ?_
      refine pu_ HT_ 7 (some 17) (bv_ 8 255) ?_
      refine done_ (done_of HT_.out (by kernel_rfl)) ?_
      try go_wp2
      go_roundg k1
      case measure => have := HK1.out; omega
      case rel => exact ⟨(wrap64 (0 + 1)), en_, H', ⟨by have := HK1.out; omega⟩, bl_ BK475, bl_ BK476, bw_ HB⟩
     ·replace c8 := Bool.eq_false_iff.mpr c8
      subst c8
      have H1 : (some false) = some r := by rw [if_neg (show ¬ (false = true) by decide)] at H; exact H
      clear H
      have H := H1
      clear H1
      obtain rfl := si_ H
      try go_wp2
      replace BK475 := Aside0.mk (blk_drew BK475.out)
      replace BK476 := Aside0.mk (blk_drew BK476.out)
      replace HB := Aside0.mk (below_drew1 HB.out)
      refine start_ (n := 8) (S := fun w' => w'.cell? ⟨gb475, 0, none⟩ = some (.int .i64 a0_0) ∧ w'.cell? ⟨gb475, 1, none⟩ = some (.int .i64 a0_1) ∧ w'.cell? ⟨gb475, 2, none⟩ = some (.int .i64 a0_2) ∧ w'.cell? ⟨gb475, 3, none⟩ = some (.int .i64 a0_3) ∧ w'.cell? ⟨gb476, 0, none⟩ = some (.int .i64 a1_0) ∧ w'.cell? ⟨gb476, 1, none⟩ = some (.int .i64 a1_1) ∧ w'.cell? ⟨gb476, 2, none⟩ = some (.int .i64 a1_2) ∧ w'.cell? ⟨gb476, 3, none⟩ = some (.int .i64 a1_3)) (ds := []) (bv_ 8 0) (by kernel_rfl) rfl rfl ⟨cz_ BK475 0, cz_ BK475 1, cz_ BK475 2, cz_ BK475 3, cz_ BK476 0, cz_ BK476 1, cz_ BK476 2, cz_ BK476 3⟩ (fun hHeld => ?_); refine with_tabW laws_eqMatrix.tab4 laws_eqMatrix.bits4 (fun HT_ HW_ => ?_)
      generalize wr.drew = w11 at BK475 BK476 HB hHeld ⊢
      refine pu_ HT_ 0 (some 10) (bv_ 8 1) ?_
      refine pu_ HT_ 1 (some 11) (bv_ 8 3) ?_
      refine pu_ HT_ 3 (some 13) (bv_ 8 11) ?_
      refine pu_ HT_ 4 (some 14) (bv_ 8 27) ?_
      refine ta_ HT_ HW_ 2 (some 12) (bv_ 8 31) hHeld ?_ (hy := by rintro w' ⟨s0, s1, s2, s3, s4, s5, s6, s7⟩; go_simp; with_reducible rfl)
      refine ta_ HT_ HW_ 5 (some 15) (bv_ 8 63) hHeld ?_ (hy := by rintro w' ⟨s0, s1, s2, s3, s4, s5, s6, s7⟩; go_simp; with_reducible rfl)
      refine on_ HT_ 6 (some 16) (bv_ 8 127) (fun K hK => ?_)
      refine gs_ Try.func170 #[.agg #[.int .i64 a0_0, .int .i64 a0_1], .agg #[.int .i64 a1_0, .int .i64 a1_1]] ?_
      with_reducible refine (laws_eqInt64A2.calls k1 a0_0 a0_1 a1_0 a1_1 false _ A7.out).mono ?_
      rintro e w12 ⟨rfl, hb⟩
      refine ⟨_, rfl, ?_⟩
      replace BK475 := bb_ BK475 hb
      replace BK476 := bb_ BK476 hb
      replace HB := bt_ HB hb
      (try clear hb)
      (try clear hb2)
      (try clear hk)
      (try clear hi)
      refine hK.out _ _ ⟨cz_ BK475 0, cz_ BK475 1, cz_ BK475 2, cz_ BK475 3, cz_ BK476 0, cz_ BK476 1, cz_ BK476 2, cz_ BK476 3⟩ (fun hHeld => ?_)
      clear hK K
      refine nm_ (some 16) ?_
      refine pu_ HT_ 7 (some 17) (bv_ 8 255) ?_
      refine done_ (done_of HT_.out (by kernel_rfl)) ?_
      try go_wp2
      go_ret
      exact ⟨es_, (bw_ HB).out⟩
    ·rw [if_neg c6] at H
     have c6b0 : (x5_1 == 0) = false := beq_eq_false_iff_ne.mpr c6
     have c6b1 : (x5_1 != 0) = true := bne_iff_ne.mpr c6
     by_cases c13 : x5_1 = 1
     ·subst c13
      have H1 : ((laws_eqInt64A2.f k1 a0_2 a0_3 a1_2 a1_3).bind fun t478 => (if t478 = true then (laws_eqMatrix.l0 k1 (wrap64 (1 + 1)) a0_0 a0_1 a0_2 a0_3 a1_0 a1_1 a1_2 a1_3) else (some false))) = some r := by rw [if_pos rfl] at H; exact H
      clear H
      have H := H1
      clear H1
      replace H := ob_ H
      obtain ⟨t478, A140, H⟩ := H
      have A14 := Aside0.mk A140
      clear A140
      by_cases c15 : t478 = true
      ·subst c15
       have H1 : (laws_eqMatrix.l0 k1 (wrap64 (1 + 1)) a0_0 a0_1 a0_2 a0_3 a1_0 a1_1 a1_2 a1_3) = some r := by rw [if_pos rfl] at H; exact H
       clear H
       have H := H1
       clear H1
       have H' := Aside0.mk H
       clear H
       try go_wp2
       replace BK475 := Aside0.mk (blk_drew BK475.out)
       replace BK476 := Aside0.mk (blk_drew BK476.out)
       replace HB := Aside0.mk (below_drew1 HB.out)
       refine start_ (n := 8) (S := fun w' => w'.cell? ⟨gb475, 0, none⟩ = some (.int .i64 a0_0) ∧ w'.cell? ⟨gb475, 1, none⟩ = some (.int .i64 a0_1) ∧ w'.cell? ⟨gb475, 2, none⟩ = some (.int .i64 a0_2) ∧ w'.cell? ⟨gb475, 3, none⟩ = some (.int .i64 a0_3) ∧ w'.cell? ⟨gb476, 0, none⟩ = some (.int .i64 a1_0) ∧ w'.cell? ⟨gb476, 1, none⟩ = some (.int .i64 a1_1) ∧ w'.cell? ⟨gb476, 2, none⟩ = some (.int .i64 a1_2) ∧ w'.cell? ⟨gb476, 3, none⟩ = some (.int .i64 a1_3)) (ds := []) (bv_ 8 0) (by kernel_rfl) rfl rfl ⟨cz_ BK475 0, cz_ BK475 1, cz_ BK475 2, cz_ BK475 3, cz_ BK476 0, cz_ BK476 1, cz_ BK476 2, cz_ BK476 3⟩ (fun hHeld => ?_); refine with_tabW laws_eqMatrix.tab4 laws_eqMatrix.bits4 (fun HT_ HW_ => ?_)
       generalize wr.drew = w16 at BK475 BK476 HB hHeld ⊢
       refine pu_ HT_ 0 (some 10) (bv_ 8 1) ?_
       refine pu_ HT_ 1 (some 11) (bv_ 8 3) ?_
       refine pu_ HT_ 3 (some 13) (bv_ 8 11) ?_
       refine pu_ HT_ 4 (some 14) (bv_ 8 27) ?_
       refine ta_ HT_ HW_ 2 (some 12) (bv_ 8 31) hHeld ?_ (hy := by rintro w' ⟨s0, s1, s2, s3, s4, s5, s6, s7⟩; go_simp; with_reducible rfl)
       refine ta_ HT_ HW_ 5 (some 15) (bv_ 8 63) hHeld ?_ (hy := by rintro w' ⟨s0, s1, s2, s3, s4, s5, s6, s7⟩; go_simp; with_reducible rfl)
       refine on_ HT_ 6 (some 16) (bv_ 8 127) (fun K hK => ?_)
       refine gs_ Try.func170 #[.agg #[.int .i64 a0_2, .int .i64 a0_3], .agg #[.int .i64 a1_2, .int .i64 a1_3]] ?_
       with_reducible refine (laws_eqInt64A2.calls k1 a0_2 a0_3 a1_2 a1_3 true _ A14.out).mono ?_
       rintro e w17 ⟨rfl, hb⟩
       refine ⟨_, rfl, ?_⟩
       replace BK475 := bb_ BK475 hb
       replace BK476 := bb_ BK476 hb
       replace HB := bt_ HB hb
       (try clear hb)
       (try clear hb2)
       (try clear hk)
       (try clear hi)
       refine hK.out _ _ ⟨cz_ BK475 0, cz_ BK475 1, cz_ BK475 2, cz_ BK475 3, cz_ BK476 0, cz_ BK476 1, cz_ BK476 2, cz_ BK476 3⟩ (fun hHeld => ?_)
       clear hK K
       refine nm_ (some 16) ?_
       refine pu_ HT_ 7 (some 17) (bv_ 8 255) ?_
       refine done_ (done_of HT_.out (by kernel_rfl)) ?_
       try go_wp2
       go_roundg k1
       case measure => have := HK1.out; omega
       case rel => exact ⟨(wrap64 (1 + 1)), en_, H', ⟨by have := HK1.out; omega⟩, bl_ BK475, bl_ BK476, bw_ HB⟩
      ·replace c15 := Bool.eq_false_iff.mpr c15
       subst c15
       have H1 : (some false) = some r := by rw [if_neg (show ¬ (false = true) by decide)] at H; exact H
       clear H
       have H := H1
       clear H1
       obtain rfl := si_ H
       try go_wp2
       replace BK475 := Aside0.mk (blk_drew BK475.out)
       replace BK476 := Aside0.mk (blk_drew BK476.out)
       replace HB := Aside0.mk (below_drew1 HB.out)
       refine start_ (n := 8) (S := fun w' => w'.cell? ⟨gb475, 0, none⟩ = some (.int .i64 a0_0) ∧ w'.cell? ⟨gb475, 1, none⟩ = some (.int .i64 a0_1) ∧ w'.cell? ⟨gb475, 2, none⟩ = some (.int .i64 a0_2) ∧ w'.cell? ⟨gb475, 3, none⟩ = some (.int .i64 a0_3) ∧ w'.cell? ⟨gb476, 0, none⟩ = some (.int .i64 a1_0) ∧ w'.cell? ⟨gb476, 1, none⟩ = some (.int .i64 a1_1) ∧ w'.cell? ⟨gb476, 2, none⟩ = some (.int .i64 a1_2) ∧ w'.cell? ⟨gb476, 3, none⟩ = some (.int .i64 a1_3)) (ds := []) (bv_ 8 0) (by kernel_rfl) rfl rfl ⟨cz_ BK475 0, cz_ BK475 1, cz_ BK475 2, cz_ BK475 3, cz_ BK476 0, cz_ BK476 1, cz_ BK476 2, cz_ BK476 3⟩ (fun hHeld => ?_); refine with_tabW laws_eqMatrix.tab4 laws_eqMatrix.bits4 (fun HT_ HW_ => ?_)
       generalize wr.drew = w18 at BK475 BK476 HB hHeld ⊢
       refine pu_ HT_ 0 (some 10) (bv_ 8 1) ?_
       refine pu_ HT_ 1 (some 11) (bv_ 8 3) ?_
       refine pu_ HT_ 3 (some 13) (bv_ 8 11) ?_
       refine pu_ HT_ 4 (some 14) (bv_ 8 27) ?_
       refine ta_ HT_ HW_ 2 (some 12) (bv_ 8 31) hHeld ?_ (hy := by rintro w' ⟨s0, s1, s2, s3, s4, s5, s6, s7⟩; go_simp; with_reducible rfl)
       refine ta_ HT_ HW_ 5 (some 15) (bv_ 8 63) hHeld ?_ (hy := by rintro w' ⟨s0, s1, s2, s3, s4, s5, s6, s7⟩; go_simp; with_reducible rfl)
       refine on_ HT_ 6 (some 16) (bv_ 8 127) (fun K hK => ?_)
       refine gs_ Try.func170 #[.agg #[.int .i64 a0_2, .int .i64 a0_3], .agg #[.int .i64 a1_2, .int .i64 a1_3]] ?_
       with_reducible refine (laws_eqInt64A2.calls k1 a0_2 a0_3 a1_2 a1_3 false _ A14.out).mono ?_
       rintro e w19 ⟨rfl, hb⟩
       refine ⟨_, rfl, ?_⟩
       replace BK475 := bb_ BK475 hb
       replace BK476 := bb_ BK476 hb
       replace HB := bt_ HB hb
       (try clear hb)
       (try clear hb2)
       (try clear hk)
       (try clear hi)
       refine hK.out _ _ ⟨cz_ BK475 0, cz_ BK475 1, cz_ BK475 2, cz_ BK475 3, cz_ BK476 0, cz_ BK476 1, cz_ BK476 2, cz_ BK476 3⟩ (fun hHeld => ?_)
       clear hK K
       refine nm_ (some 16) ?_
       refine pu_ HT_ 7 (some 17) (bv_ 8 255) ?_
       refine done_ (done_of HT_.out (by kernel_rfl)) ?_
       try go_wp2
       go_ret
       exact ⟨es_, (bw_ HB).out⟩
     ·rw [if_neg c13] at H
      exact absurd H (by simp)
   ·rw [if_neg c5] at H
    have c5b0 : decide (x5_1 < 2) = false := decide_eq_false c5
    clear c5
    obtain rfl := si_ H
    go_wp2
    go_ret
    exact ⟨es_, (bw_ HB).out⟩
end Go.Proofs.Ytbilincmcnnonaa.QS
