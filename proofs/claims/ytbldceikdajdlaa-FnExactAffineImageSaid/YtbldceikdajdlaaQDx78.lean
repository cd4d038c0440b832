import Derived.Test.YtbldceikdajdlaaQDx4
import Derived.Test.YtbldceikdajdlaaQDx6
import Derived.Test.YtbldceikdajdlaaQDx11
import Derived.Test.YtbldceikdajdlaaQDx19
import Derived.Test.YtbldceikdajdlaaQDx33
import Derived.Test.YtbldceikdajdlaaQDx77
namespace Go.Proofs.Ytbldceikdajdlaa.QD
open Go.RowKit Go.Proofs.YtbldceikdajdlaaW.PrintWords Go.Proofs.YtbldceikdajdlaaW.PrintLast Go.Proofs.YtbldceikdajdlaaW.PrintMore
attribute [local go_sem] isSome_setCell max2_int min2_int max_two min_two max_three min_three max_four min_four
set_option linter.unusedVariables false
set_option linter.unusedSimpArgs false

/-! ### laws_FnExactAffineImage: function 5 -/
def laws_FnExactAffineImage.f (k : Nat) (a0 : Int) (a1_0 : Int) (a1_1 : Int) (a1_2 : Int) (l1_3 : List (S98)) (a2 : Int) (a3 : Int) : Option (Bool) := (laws_szMeasure.f a1_0 a1_1 a1_2 l1_3 1048576).bind fun t451 => (if t451 < 0 then (some true) else ((laws_toMeasure.f k a1_0 a1_1 a1_2 l1_3).bind fun bt452 => ((spec_AffineImage.f k a0 bt452.1 bt452.2.1 bt452.2.2.1 bt452.2.2.2 a2 a3).bind fun bt458 => ((laws_toMeasure.f k a1_0 a1_1 a1_2 l1_3).bind fun bt466 => ((impl_AffineImage.f k a0 bt466.1 bt466.2.1 bt466.2.2.1 bt466.2.2.2 a2 a3).bind fun bt473 => ((laws_eqMeasure.f k bt473.1 bt473.2.1 bt473.2.2.1 bt473.2.2.2.1 bt458.1 bt458.2.1 bt458.2.2.1 bt458.2.2.2.1).bind fun t481 => (if t481 = true then (if bt473.2.2.2.2 = bt458.2.2.2.2 then ((laws_toMeasure.f k a1_0 a1_1 a1_2 l1_3).bind fun bt482 => ((laws_eqMeasure.f k bt466.1 bt466.2.1 bt466.2.2.1 bt466.2.2.2 bt482.1 bt482.2.1 bt482.2.2.1 bt482.2.2.2).bind fun t488 => (if t488 = true then ((laws_markMeasure.f k bt466.1 bt466.2.1 bt466.2.2.1 bt466.2.2.2 1).bind fun bt489 => (if bt489.1 < 0 then (none) else ((laws_eqMeasure.f k bt473.1 bt473.2.1 bt473.2.2.1 bt473.2.2.2.1 bt458.1 bt458.2.1 bt458.2.2.1 bt458.2.2.2.1).bind fun t491 => (if t491 = true then ((laws_markMeasure.f k bt473.1 bt473.2.1 bt473.2.2.1 bt473.2.2.2.1 1).bind fun bt492 => ((laws_heldMeasure.f k bt473.1 bt473.2.1 bt473.2.2.1 bt492.2 1).bind fun t494 => (if t494 < 0 then (none) else (if t494 = bt492.1 then ((laws_toMeasure.f k a1_0 a1_1 a1_2 l1_3).bind fun bt495 => ((impl_AffineImage.f k a0 bt495.1 bt495.2.1 bt495.2.2.1 bt495.2.2.2 a2 a3).bind fun bt501 => ((laws_eqMeasure.f k bt501.1 bt501.2.1 bt501.2.2.1 bt501.2.2.2.1 bt458.1 bt458.2.1 bt458.2.2.1 bt458.2.2.2.1).bind fun t509 => (if t509 = true then (if bt501.2.2.2.2 = bt458.2.2.2.2 then ((laws_heldMeasure.f k bt473.1 bt473.2.1 bt473.2.2.1 bt492.2 1).bind fun t510 => (if t510 < 0 then (none) else (if t510 = bt492.1 then (some true) else (none)))) else (none)) else (none))))) else (none))))) else (none))))) else (none)))) else (none)) else (none))))))))
set_option maxHeartbeats 8000000 in
set_option maxRecDepth 100000 in
theorem laws_FnExactAffineImage.calls (k : Nat) (a0 : Int) (a1_0 : Int) (a1_1 : Int) (a1_2 : Int) (A1_3 : Option Addr) (c1_3 : Nat) (l1_3 : List (S98)) (a2 : Int) (a3 : Int) (r : Bool) (w : World) (hr1_3 : Kd.C k98 w A1_3 l1_3.length l1_3) (hc1_3 : l1_3.length ≤ c1_3) (h : laws_FnExactAffineImage.f k a0 a1_0 a1_1 a1_2 l1_3 a2 a3 = some r) :
  Calls Try.prog 5 #[.int .i64 a0, .agg #[.int .i64 a1_0, .int .i64 a1_1, .int .i64 a1_2, .slice A1_3 l1_3.length c1_3], .int .i64 a2, .int .i64 a3] w fun e w' => e = .returned (.bool r) ∧ Below w.heap.size w w' := by
 have hu40 := Try.underlying40
 have hu28 := Try.underlying28
 have HR1_3 := Aside0.mk hr1_3
 have HC1_3 := Aside0.mk hc1_3
 clear hr1_3 hc1_3
 have HB := Aside0.mk (Below.refl w.heap.size w)
 have H : ((laws_szMeasure.f a1_0 a1_1 a1_2 l1_3 1048576).bind fun t451 => (if t451 < 0 then (some true) else ((laws_toMeasure.f k a1_0 a1_1 a1_2 l1_3).bind fun bt452 => ((spec_AffineImage.f k a0 bt452.1 bt452.2.1 bt452.2.2.1 bt452.2.2.2 a2 a3).bind fun bt458 => ((laws_toMeasure.f k a1_0 a1_1 a1_2 l1_3).bind fun bt466 => ((impl_AffineImage.f k a0 bt466.1 bt466.2.1 bt466.2.2.1 bt466.2.2.2 a2 a3).bind fun bt473 => ((laws_eqMeasure.f k bt473.1 bt473.2.1 bt473.2.2.1 bt473.2.2.2.1 bt458.1 bt458.2.1 bt458.2.2.1 bt458.2.2.2.1).bind fun t481 => (if t481 = true then (if bt473.2.2.2.2 = bt458.2.2.2.2 then ((laws_toMeasure.f k a1_0 a1_1 a1_2 l1_3).bind fun bt482 => ((laws_eqMeasure.f k bt466.1 bt466.2.1 bt466.2.2.1 bt466.2.2.2 bt482.1 bt482.2.1 bt482.2.2.1 bt482.2.2.2).bind fun t488 => (if t488 = true then ((laws_markMeasure.f k bt466.1 bt466.2.1 bt466.2.2.1 bt466.2.2.2 1).bind fun bt489 => (if bt489.1 < 0 then (none) else ((laws_eqMeasure.f k bt473.1 bt473.2.1 bt473.2.2.1 bt473.2.2.2.1 bt458.1 bt458.2.1 bt458.2.2.1 bt458.2.2.2.1).bind fun t491 => (if t491 = true then ((laws_markMeasure.f k bt473.1 bt473.2.1 bt473.2.2.1 bt473.2.2.2.1 1).bind fun bt492 => ((laws_heldMeasure.f k bt473.1 bt473.2.1 bt473.2.2.1 bt492.2 1).bind fun t494 => (if t494 < 0 then (none) else (if t494 = bt492.1 then ((laws_toMeasure.f k a1_0 a1_1 a1_2 l1_3).bind fun bt495 => ((impl_AffineImage.f k a0 bt495.1 bt495.2.1 bt495.2.2.1 bt495.2.2.2 a2 a3).bind fun bt501 => ((laws_eqMeasure.f k bt501.1 bt501.2.1 bt501.2.2.1 bt501.2.2.2.1 bt458.1 bt458.2.1 bt458.2.2.1 bt458.2.2.2.1).bind fun t509 => (if t509 = true then (if bt501.2.2.2.2 = bt458.2.2.2.2 then ((laws_heldMeasure.f k bt473.1 bt473.2.1 bt473.2.2.1 bt492.2 1).bind fun t510 => (if t510 < 0 then (none) else (if t510 = bt492.1 then (some true) else (none)))) else (none)) else (none))))) else (none))))) else (none))))) else (none)))) else (none)) else (none))))))))) = some r := h
 clear h
 replace H := ob_ H
 obtain ⟨t451, A50, H⟩ := H
 have A5 := Aside0.mk A50
 clear A50
 by_cases c6 : t451 < 0
 ·rw [if_pos c6] at H
  have c6b0 : decide (t451 < 0) = true := decide_eq_true c6
  clear c6
  obtain rfl := si_ H
  go_enter Try.func5, Try.ntmps5
  go_wp2_with (first | (refine bx_ 5 #[.int .i64 a1_0, .int .i64 a1_1, .int .i64 a1_2, .slice A1_3 l1_3.length c1_3] 40 ?_; intro gb450 hg w7 hbox hb; have BK450 := Aside0.mk (hbox); have GW450 := bs_ HB hg; have GE450 := bs_ HB hg; replace HB := bt_ HB hb; clear hb hbox hg; obtain ⟨hcz8_0, hcz8_1, hcz8_2, hcz8_3, hfz8_0, hfz8_1, hfz8_2, hfz8_3⟩ := ch4_ BK450) | (refine ge_ 22 Try.func16 #[.agg #[.int .i64 a1_0, .int .i64 a1_1, .int .i64 a1_2, .slice A1_3 l1_3.length c1_3], .int .i64 1048576] ?_; (with_reducible refine (laws_szMeasure.calls a1_0 a1_1 a1_2 _ _ l1_3 1048576 t451 _ ?side1 ?side2 A5.out).mono ?_); (case side1 => exact ca_ (Kd.C_below HR1_3.out HB.out)); (case side2 => exact HC1_3.out); rintro e w9 ⟨rfl, hb⟩; refine ⟨_, rfl, ?_⟩; replace BK450 := bb_ BK450 hb; replace HB := bt_ HB hb; (try clear hb); (try clear hb2); (try clear hk); (try clear hi)))
  go_ret
  exact ⟨es_, (bw_ HB).out⟩
 ·rw [if_neg c6] at H
  have c6b0 : decide (t451 < 0) = false := decide_eq_false c6
  clear c6
  replace H := ob_ H
  obtain ⟨⟨t452, t453, t454, t455⟩, A100, H⟩ := H
  have A10 := Aside0.mk A100
  clear A100
  replace H := ob_ H
  obtain ⟨⟨t458, t459, t460, t461, t464⟩, A110, H⟩ := H
  have A11 := Aside0.mk A110
  clear A110
  replace H := ob_ H
  obtain ⟨⟨t466, t467, t468, t469⟩, A120, H⟩ := H
  have A12 := Aside0.mk A120
  clear A120
  replace H := ob_ H
  obtain ⟨⟨t473, t474, t475, t476, t479⟩, A130, H⟩ := H
  have A13 := Aside0.mk A130
  clear A130
  replace H := ob_ H
  obtain ⟨t481, A140, H⟩ := H
  have A14 := Aside0.mk A140
  clear A140
  by_cases c15 : t481 = true
  ·subst c15
   have H1 : (if t479 = t464 then ((laws_toMeasure.f k a1_0 a1_1 a1_2 l1_3).bind fun bt482 => ((laws_eqMeasure.f k t466 t467 t468 t469 bt482.1 bt482.2.1 bt482.2.2.1 bt482.2.2.2).bind fun t488 => (if t488 = true then ((laws_markMeasure.f k t466 t467 t468 t469 1).bind fun bt489 => (if bt489.1 < 0 then (none) else ((laws_eqMeasure.f k t473 t474 t475 t476 t458 t459 t460 t461).bind fun t491 => (if t491 = true then ((laws_markMeasure.f k t473 t474 t475 t476 1).bind fun bt492 => ((laws_heldMeasure.f k t473 t474 t475 bt492.2 1).bind fun t494 => (if t494 < 0 then (none) else (if t494 = bt492.1 then ((laws_toMeasure.f k a1_0 a1_1 a1_2 l1_3).bind fun bt495 => ((impl_AffineImage.f k a0 bt495.1 bt495.2.1 bt495.2.2.1 bt495.2.2.2 a2 a3).bind fun bt501 => ((laws_eqMeasure.f k bt501.1 bt501.2.1 bt501.2.2.1 bt501.2.2.2.1 t458 t459 t460 t461).bind fun t509 => (if t509 = true then (if bt501.2.2.2.2 = t464 then ((laws_heldMeasure.f k t473 t474 t475 bt492.2 1).bind fun t510 => (if t510 < 0 then (none) else (if t510 = bt492.1 then (some true) else (none)))) else (none)) else (none))))) else (none))))) else (none))))) else (none)))) else (none)) = some r := by rw [if_pos rfl] at H; exact H
   clear H
   have H := H1
   clear H1
   by_cases c16 : t479 = t464
   ·rw [if_pos c16] at H
    have c16b0 : (t479 == t464) = true := beq_iff_eq.mpr c16
    have c16b1 : (t479 != t464) = false := bne_eq_false_iff_eq.mpr c16
    clear c16
    replace H := ob_ H
    obtain ⟨⟨t482, t483, t484, t485⟩, A170, H⟩ := H
    have A17 := Aside0.mk A170
    clear A170
    replace H := ob_ H
    obtain ⟨t488, A180, H⟩ := H
    have A18 := Aside0.mk A180
    clear A180
    by_cases c19 : t488 = true
    ·subst c19
     have H1 : ((laws_markMeasure.f k t466 t467 t468 t469 1).bind fun bt489 => (if bt489.1 < 0 then (none) else ((laws_eqMeasure.f k t473 t474 t475 t476 t458 t459 t460 t461).bind fun t491 => (if t491 = true then ((laws_markMeasure.f k t473 t474 t475 t476 1).bind fun bt492 => ((laws_heldMeasure.f k t473 t474 t475 bt492.2 1).bind fun t494 => (if t494 < 0 then (none) else (if t494 = bt492.1 then ((laws_toMeasure.f k a1_0 a1_1 a1_2 l1_3).bind fun bt495 => ((impl_AffineImage.f k a0 bt495.1 bt495.2.1 bt495.2.2.1 bt495.2.2.2 a2 a3).bind fun bt501 => ((laws_eqMeasure.f k bt501.1 bt501.2.1 bt501.2.2.1 bt501.2.2.2.1 t458 t459 t460 t461).bind fun t509 => (if t509 = true then (if bt501.2.2.2.2 = t464 then ((laws_heldMeasure.f k t473 t474 t475 bt492.2 1).bind fun t510 => (if t510 < 0 then (none) else (if t510 = bt492.1 then (some true) else (none)))) else (none)) else (none))))) else (none))))) else (none))))) = some r := by rw [if_pos rfl] at H; exact H
     clear H
     have H := H1
     clear H1
     replace H := ob_ H
     obtain ⟨⟨t489, t490⟩, A200, H⟩ := H
     have A20 := Aside0.mk A200
     clear A200
     by_cases c21 : t489 < 0
     ·rw [if_pos c21] at H
      exact absurd H (by simp)
     ·rw [if_neg c21] at H
      have c21b0 : decide (t489 < 0) = false := decide_eq_false c21
      clear c21
      replace H := ob_ H
      obtain ⟨t491, A220, H⟩ := H
      have A22 := Aside0.mk A220
      clear A220
      by_cases c23 : t491 = true
      ·subst c23
       have H1 : ((laws_markMeasure.f k t473 t474 t475 t476 1).bind fun bt492 => ((laws_heldMeasure.f k t473 t474 t475 bt492.2 1).bind fun t494 => (if t494 < 0 then (none) else (if t494 = bt492.1 then ((laws_toMeasure.f k a1_0 a1_1 a1_2 l1_3).bind fun bt495 => ((impl_AffineImage.f k a0 bt495.1 bt495.2.1 bt495.2.2.1 bt495.2.2.2 a2 a3).bind fun bt501 => ((laws_eqMeasure.f k bt501.1 bt501.2.1 bt501.2.2.1 bt501.2.2.2.1 t458 t459 t460 t461).bind fun t509 => (if t509 = true then (if bt501.2.2.2.2 = t464 then ((laws_heldMeasure.f k t473 t474 t475 bt492.2 1).bind fun t510 => (if t510 < 0 then (none) else (if t510 = bt492.1 then (some true) else (none)))) else (none)) else (none))))) else (none))))) = some r := by rw [if_pos rfl] at H; exact H
       clear H
       have H := H1
       clear H1
       replace H := ob_ H
       obtain ⟨⟨t492, t493⟩, A240, H⟩ := H
       have A24 := Aside0.mk A240
       clear A240
       replace H := ob_ H
       obtain ⟨t494, A250, H⟩ := H
       have A25 := Aside0.mk A250
       clear A250
       by_cases c26 : t494 < 0
       ·rw [if_pos c26] at H
        exact absurd H (by simp)
       ·rw [if_neg c26] at H
        have c26b0 : decide (t494 < 0) = false := decide_eq_false c26
        clear c26
        by_cases c27 : t494 = t492
        ·rw [if_pos c27] at H
         have c27b0 : (t494 == t492) = true := beq_iff_eq.mpr c27
         have c27b1 : (t494 != t492) = false := bne_eq_false_iff_eq.mpr c27
         clear c27
         replace H := ob_ H
         obtain ⟨⟨t495, t496, t497, t498⟩, A280, H⟩ := H
         have A28 := Aside0.mk A280
         clear A280
         replace H := ob_ H
         obtain ⟨⟨t501, t502, t503, t504, t507⟩, A290, H⟩ := H
         have A29 := Aside0.mk A290
         clear A290
         replace H := ob_ H
         obtain ⟨t509, A300, H⟩ := H
         have A30 := Aside0.mk A300
         clear A300
         by_cases c31 : t509 = true
         ·subst c31
          have H1 : (if t507 = t464 then ((laws_heldMeasure.f k t473 t474 t475 t493 1).bind fun t510 => (if t510 < 0 then (none) else (if t510 = t492 then (some true) else (none)))) else (none)) = some r := by rw [if_pos rfl] at H; exact H
          clear H
          have H := H1
          clear H1
          by_cases c32 : t507 = t464
          ·rw [if_pos c32] at H
           have c32b0 : (t507 == t464) = true := beq_iff_eq.mpr c32
           have c32b1 : (t507 != t464) = false := bne_eq_false_iff_eq.mpr c32
           clear c32
           replace H := ob_ H
           obtain ⟨t510, A330, H⟩ := H
           have A33 := Aside0.mk A330
           clear A330
           by_cases c34 : t510 < 0
           ·rw [if_pos c34] at H
            exact absurd H (by simp)
           ·rw [if_neg c34] at H
            have c34b0 : decide (t510 < 0) = false := decide_eq_false c34
            clear c34
            by_cases c35 : t510 = t492
            ·rw [if_pos c35] at H
             have c35b0 : (t510 == t492) = true := beq_iff_eq.mpr c35
             have c35b1 : (t510 != t492) = false := bne_eq_false_iff_eq.mpr c35
             clear c35
             obtain rfl := si_ H
             go_enter Try.func5, Try.ntmps5
             try go_wp2_with (first | (refine bx_ 5 #[.int .i64 a1_0, .int .i64 a1_1, .int .i64 a1_2, .slice A1_3 l1_3.length c1_3] 40 ?_; intro gb450 hg w36 hbox hb; have BK450 := Aside0.mk (hbox); have GW450 := bs_ HB hg; have GE450 := bs_ HB hg; replace HB := bt_ HB hb; clear hb hbox hg; obtain ⟨hcz37_0, hcz37_1, hcz37_2, hcz37_3, hfz37_0, hfz37_1, hfz37_2, hfz37_3⟩ := ch4_ BK450) | (refine ge_ 22 Try.func16 #[.agg #[.int .i64 a1_0, .int .i64 a1_1, .int .i64 a1_2, .slice A1_3 l1_3.length c1_3], .int .i64 1048576] ?_; (with_reducible refine (laws_szMeasure.calls a1_0 a1_1 a1_2 _ _ l1_3 1048576 t451 _ ?side1 ?side2 A5.out).mono ?_); (case side1 => exact ca_ (Kd.C_below HR1_3.out HB.out)); (case side2 => exact HC1_3.out); rintro e w38 ⟨rfl, hb⟩; refine ⟨_, rfl, ?_⟩; replace BK450 := bb_ BK450 hb; replace HB := bt_ HB hb; (try clear hb); (try clear hb2); (try clear hk); (try clear hi); obtain ⟨hcz39_0, hcz39_1, hcz39_2, hcz39_3, hfz39_0, hfz39_1, hfz39_2, hfz39_3⟩ := ch4_ BK450) | (refine ge_ 28 Try.func18 #[.agg #[.int .i64 a1_0, .int .i64 a1_1, .int .i64 a1_2, .slice A1_3 l1_3.length c1_3]] ?_; (with_reducible refine (laws_toMeasure.calls k a1_0 a1_1 a1_2 _ _ l1_3 t452 t453 t454 t455 _ ?side1 ?side2 A10.out).mono ?_); (case side1 => exact ca_ (Kd.C_below HR1_3.out HB.out)); (case side2 => exact HC1_3.out); rintro e w40 ⟨v456, rfl, ho0, hb⟩; refine ⟨_, rfl, ?_⟩; have HO457 := Aside0.mk (Kd.R_lower ho0 (below_size (bw_ HB).out)); replace BK450 := bb_ BK450 hb; replace HB := bt_ HB hb; (try clear hb); (try clear hb2); (try clear hk); (try clear hi); (try clear ho0); obtain ⟨Ao41, co41, eo41⟩ := Kd.R_slice HO457.out; subst eo41) | (refine ge_ 31 Try.func20 #[.int .i64 a0, .agg #[.int .i64 t452, .int .i64 t453, .int .i64 t454, .slice Ao41 t455.length co41], .int .i64 a2, .int .i64 a3] ?_; (with_reducible refine (spec_AffineImage.calls k a0 t452 t453 t454 _ _ t455 a2 a3 t458 t459 t460 t461 t464 _ ?side1 ?side2 A11.out).mono ?_); (case side1 => exact ca_ (Kd.R_reads' HO457.out).2.2); (case side2 => exact (Kd.R_reads' HO457.out).2.1); rintro e w42 ⟨v462, rfl, ho0, hb⟩; refine ⟨_, rfl, ?_⟩; have HO463 := Aside0.mk (Kd.R_lower (Kd.R_new' ho0 (Kd.R_lt (ra_ HO457.out))) (below_size (bw_ HB).out)); replace HO457 := Aside0.mk (Kd.R_elder' (ra_ HO457.out) (Kd.R_base ho0) hb); replace BK450 := bb_ BK450 hb; replace HB := bt_ HB hb; (try clear hb); (try clear hb2); (try clear hk); (try clear hi); (try clear ho0)) | (refine bx_ 10 #[.int .i64 0, .int .i64 0, .int .i64 0, .slice none 0 0] 28 ?_; intro gb465 hg w43 hbox hb; have BK465 := Aside0.mk (hbox); have GW465 := bs_ HB hg; have GE465 := bs_ HB hg; have NB450_465 := bm_ BK450 hg; have NB465_450 := bn_ BK450 hg; replace HO457 := Aside0.mk (Kd.R_below (ra_ HO457.out) hb); replace HO463 := Aside0.mk (Kd.R_below (ra_ HO463.out) hb); replace BK450 := bb_ BK450 hb; replace HB := bt_ HB hb; clear hb hbox hg; have hnb44 := NB465_450.out; have hnc44 := NB450_465.out; obtain ⟨hcz45_0, hcz45_1, hcz45_2, hcz45_3, hfz45_0, hfz45_1, hfz45_2, hfz45_3⟩ := ch4_ BK465; obtain ⟨Ao46, co46, eo46⟩ := Kd.R_slice HO463.out; subst eo46; obtain ⟨hcz47_0, hcz47_1, hcz47_2, hcz47_3, hfz47_0, hfz47_1, hfz47_2, hfz47_3⟩ := ch4_ BK450) | (refine ge_ 35 Try.func18 #[.agg #[.int .i64 a1_0, .int .i64 a1_1, .int .i64 a1_2, .slice A1_3 l1_3.length c1_3]] ?_; (with_reducible refine (laws_toMeasure.calls k a1_0 a1_1 a1_2 _ _ l1_3 t466 t467 t468 t469 _ ?side1 ?side2 A12.out).mono ?_); (case side1 => exact Kd.C_below HR1_3.out (bw_ HB).out); (case side2 => exact HC1_3.out); rintro e w48 ⟨v470, rfl, ho0, hb⟩; refine ⟨_, rfl, ?_⟩; have HO471 := Aside0.mk (Kd.R_lower (Kd.R_new' (Kd.R_new' ho0 (Kd.R_lt (ra_ (rs4_ HO457.out BK465.out)))) (Kd.R_lt (ra_ (rs4_ HO463.out BK465.out)))) (below_size (bw_ HB).out)); replace HO457 := Aside0.mk (Kd.R_elder' (ra_ (rs4_ HO457.out BK465.out)) (Kd.R_base ho0) hb); replace HO463 := Aside0.mk (Kd.R_elder' (ra_ (rs4_ HO463.out BK465.out)) (Kd.R_base ho0) hb); replace BK450 := fb_ BK450 NB450_465 hb; replace BK465 := Aside0.mk (blk_below (g := gb465) (o := .cells #[.int .i64 t458, .int .i64 t459, .int .i64 t460, .slice Ao46 t461.length co46] 28 (0, 0)) (bp_ BK465).out hb); replace HB := bt_ HB hb; (try clear hb); (try clear hb2); (try clear hk); (try clear hi); (try clear ho0)) | (refine bx_ 12 #[.int .i64 0, .int .i64 0, .int .i64 0, .slice none 0 0] 28 ?_; intro gb472 hg w49 hbox hb; have BK472 := Aside0.mk (hbox); have GW472 := bs_ HB hg; have GE472 := bs_ HB hg; have NB450_472 := bm_ BK450 hg; have NB472_450 := bn_ BK450 hg; have NB465_472 := bm_ BK465 hg; have NB472_465 := bn_ BK465 hg; replace HO457 := Aside0.mk (Kd.R_below (ra_ HO457.out) hb); replace HO463 := Aside0.mk (Kd.R_below (ra_ HO463.out) hb); replace HO471 := Aside0.mk (Kd.R_below (ra_ HO471.out) hb); replace BK450 := bb_ BK450 hb; replace BK465 := bb_ BK465 hb; replace HB := bt_ HB hb; clear hb hbox hg; have hnb50 := NB472_450.out; have hnc50 := NB450_472.out; have hnb51 := NB472_465.out; have hnc51 := NB465_472.out; obtain ⟨hcz52_0, hcz52_1, hcz52_2, hcz52_3, hfz52_0, hfz52_1, hfz52_2, hfz52_3⟩ := ch4_ BK472; obtain ⟨Ao53, co53, eo53⟩ := Kd.R_slice HO471.out; subst eo53) | (refine ge_ 41 Try.func21 #[.int .i64 a0, .agg #[.int .i64 t466, .int .i64 t467, .int .i64 t468, .slice Ao53 t469.length co53], .int .i64 a2, .int .i64 a3] ?_; (with_reducible refine (impl_AffineImage.calls k a0 t466 t467 t468 _ _ t469 a2 a3 t473 t474 t475 t476 t479 _ ?side1 ?side2 A13.out).mono ?_); (case side1 => refine (Kd.R_reads' (e := 52) (base := w.heap.size) (ok := fun k_ => ((True ∧ some k_ ≠ (.slice Ao41 t455.length co41 : Value).ownBlock) ∧ some k_ ≠ (.slice Ao46 t461.length co46 : Value).ownBlock)) (n := t469.length) (c := co53) ?_).2.2; exact (ra_ (rs4_ HO471.out BK472.out))); (case side2 => exact (Kd.R_reads' HO471.out).2.1); rintro e w54 ⟨v477, rfl, ho0, hb⟩; refine ⟨_, rfl, ?_⟩; have HO478 := Aside0.mk (Kd.R_lower (Kd.R_new' (Kd.R_new' (Kd.R_new' ho0 (Kd.R_lt (ra_ (rs4_ HO457.out BK472.out)))) (Kd.R_lt (ra_ (rs4_ HO463.out BK472.out)))) (Kd.R_lt (ra_ (rs4_ HO471.out BK472.out)))) (below_size (bw_ HB).out)); replace HO457 := Aside0.mk (Kd.R_elder' (ra_ (rs4_ HO457.out BK472.out)) (Kd.R_base ho0) hb); replace HO463 := Aside0.mk (Kd.R_elder' (ra_ (rs4_ HO463.out BK472.out)) (Kd.R_base ho0) hb); replace HO471 := Aside0.mk (Kd.R_elder' (ra_ (rs4_ HO471.out BK472.out)) (Kd.R_base ho0) hb); replace BK450 := fb_ BK450 NB450_472 hb; replace BK465 := fb_ BK465 NB465_472 hb; replace BK472 := Aside0.mk (blk_below (g := gb472) (o := .cells #[.int .i64 t466, .int .i64 t467, .int .i64 t468, .slice Ao53 t469.length co53] 28 (0, 0)) (bp_ BK472).out hb); replace HB := bt_ HB hb; (try clear hb); (try clear hb2); (try clear hk); (try clear hi); (try clear ho0)) | (refine bx_ 13 #[.int .i64 0, .int .i64 0, .int .i64 0, .slice none 0 0] 28 ?_; intro gb480 hg w55 hbox hb; have BK480 := Aside0.mk (hbox); have GW480 := bs_ HB hg; have GE480 := bs_ HB hg; have NB450_480 := bm_ BK450 hg; have NB480_450 := bn_ BK450 hg; have NB465_480 := bm_ BK465 hg; have NB480_465 := bn_ BK465 hg; have NB472_480 := bm_ BK472 hg; have NB480_472 := bn_ BK472 hg; replace HO457 := Aside0.mk (Kd.R_below (ra_ HO457.out) hb); replace HO463 := Aside0.mk (Kd.R_below (ra_ HO463.out) hb); replace HO471 := Aside0.mk (Kd.R_below (ra_ HO471.out) hb); replace HO478 := Aside0.mk (Kd.R_below (ra_ HO478.out) hb); replace BK450 := bb_ BK450 hb; replace BK465 := bb_ BK465 hb; replace BK472 := bb_ BK472 hb; replace HB := bt_ HB hb; clear hb hbox hg; have hnb56 := NB480_450.out; have hnc56 := NB450_480.out; have hnb57 := NB480_465.out; have hnc57 := NB465_480.out; have hnb58 := NB480_472.out; have hnc58 := NB472_480.out; obtain ⟨hcz59_0, hcz59_1, hcz59_2, hcz59_3, hfz59_0, hfz59_1, hfz59_2, hfz59_3⟩ := ch4_ BK480; obtain ⟨Ao60, co60, eo60⟩ := Kd.R_slice HO478.out; subst eo60; obtain ⟨hcz61_0, hcz61_1, hcz61_2, hcz61_3, hfz61_0, hfz61_1, hfz61_2, hfz61_3⟩ := ch4_ BK465) | (refine ge_ 46 Try.func11 #[.agg #[.int .i64 t473, .int .i64 t474, .int .i64 t475, .slice Ao60 t476.length co60], .agg #[.int .i64 t458, .int .i64 t459, .int .i64 t460, .slice Ao46 t461.length co46]] ?_; (with_reducible refine (laws_eqMeasure.calls k t473 t474 t475 _ _ t476 t458 t459 t460 _ _ t461 true _ ?side1 ?side2 ?side3 ?side4 A14.out).mono ?_); (case side1 => refine (Kd.R_reads' (e := 52) (base := w.heap.size) (ok := fun k_ => (((True ∧ some k_ ≠ (.slice Ao41 t455.length co41 : Value).ownBlock) ∧ some k_ ≠ (.slice Ao46 t461.length co46 : Value).ownBlock) ∧ some k_ ≠ (.slice Ao53 t469.length co53 : Value).ownBlock)) (n := t476.length) (c := co60) ?_).2.2; exact (ra_ (rs4_ HO478.out BK480.out))); (case side2 => exact (Kd.R_reads' HO478.out).2.1); (case side3 => refine (Kd.R_reads' (e := 52) (base := w.heap.size) (ok := fun k_ => (((True ∧ some k_ ≠ (.slice Ao41 t455.length co41 : Value).ownBlock) ∧ some k_ ≠ (.slice Ao53 t469.length co53 : Value).ownBlock) ∧ some k_ ≠ (.slice Ao60 t476.length co60 : Value).ownBlock)) (n := t461.length) (c := co46) ?_).2.2; exact (ra_ (rs4_ HO463.out BK480.out))); (case side4 => exact (Kd.R_reads' HO463.out).2.1); rintro e w62 ⟨rfl, hb⟩; refine ⟨_, rfl, ?_⟩; replace HO457 := Aside0.mk (Kd.R_below (ra_ (rs4_ HO457.out BK480.out)) hb); replace HO463 := Aside0.mk (Kd.R_below (ra_ (rs4_ HO463.out BK480.out)) hb); replace HO471 := Aside0.mk (Kd.R_below (ra_ (rs4_ HO471.out BK480.out)) hb); replace HO478 := Aside0.mk (Kd.R_below (ra_ (rs4_ HO478.out BK480.out)) hb); replace BK450 := fb_ BK450 NB450_480 hb; replace BK465 := fb_ BK465 NB465_480 hb; replace BK472 := fb_ BK472 NB472_480 hb; replace BK480 := Aside0.mk (blk_below (g := gb480) (o := .cells #[.int .i64 t473, .int .i64 t474, .int .i64 t475, .slice Ao60 t476.length co60] 28 (0, 0)) (bp_ BK480).out hb); replace HB := bt_ HB hb; (try clear hb); (try clear hb2); (try clear hk); (try clear hi)))
             replace HO457 := Aside0.mk (Kd.R_drew HO457.out)
             replace HO463 := Aside0.mk (Kd.R_drew HO463.out)
             replace HO471 := Aside0.mk (Kd.R_drew HO471.out)
             replace HO478 := Aside0.mk (Kd.R_drew HO478.out)
             replace BK450 := Aside0.mk (blk_drew BK450.out)
             replace BK465 := Aside0.mk (blk_drew BK465.out)
             replace BK472 := Aside0.mk (blk_drew BK472.out)
             replace BK480 := Aside0.mk (blk_drew BK480.out)
             replace HB := Aside0.mk (below_drew1 HB.out)
             refine start_ (n := 5) (S := fun w' => w'.cell? ⟨gb472, 0, none⟩ = some (.int .i64 t466) ∧ w'.cell? ⟨gb472, 1, none⟩ = some (.int .i64 t467) ∧ w'.cell? ⟨gb472, 2, none⟩ = some (.int .i64 t468) ∧ w'.cell? ⟨gb472, 3, none⟩ = some (.slice Ao53 t469.length co53) ∧ w'.cell? ⟨gb450, 0, none⟩ = some (.int .i64 a1_0) ∧ w'.cell? ⟨gb450, 1, none⟩ = some (.int .i64 a1_1) ∧ w'.cell? ⟨gb450, 2, none⟩ = some (.int .i64 a1_2) ∧ w'.cell? ⟨gb450, 3, none⟩ = some (.slice A1_3 l1_3.length c1_3)) (ds := []) (bv_ 5 0) (by kernel_rfl) rfl rfl ⟨cz_ BK472 0, cz_ BK472 1, cz_ BK472 2, cz_ BK472 3, cz_ BK450 0, cz_ BK450 1, cz_ BK450 2, cz_ BK450 3⟩ (fun hHeld => ?_)
             generalize w62.drew = w63 at HO457 HO463 HO471 HO478 BK450 BK465 BK472 BK480 HB hHeld ⊢
             refine take_ (i := 0) (N := some 53) (v := ?_) (a' := ?_) (bv_ 5 1) rfl rfl (by kernel_rfl) (fun _ _ _ h => h) (Or.inl ⟨by rfl, ?_⟩) hHeld ?_ ?_
             rotate_left
             ·rintro w' ⟨s0, s1, s2, s3, s4, s5, s6, s7⟩
              go_simp
              with_reducible rfl
             rotate_left
             ·simp only [Act.put, lstS, lstZ, lstC, i64_w, i32_w]
              rfl
             refine take_ (i := 1) (N := some 54) (v := ?_) (a' := ?_) (bv_ 5 3) rfl rfl (by kernel_rfl) (fun _ _ _ h => h) (Or.inl ⟨by rfl, ?_⟩) hHeld ?_ ?_
             rotate_left
             ·rintro w' ⟨s0, s1, s2, s3, s4, s5, s6, s7⟩
              go_simp
              with_reducible rfl
             rotate_left
             ·simp only [Act.put, lstS, lstZ, lstC, i64_w, i32_w]
              rfl
             refine one_ (i := 2) (N := some 55) (bv_ 5 7) rfl rfl (by kernel_rfl) (by decide) (fun K hK => ?_)
             refine goes_ Try.func18 (by kernel_rfl) rfl #[.agg #[.int .i64 a1_0, .int .i64 a1_1, .int .i64 a1_2, .slice A1_3 l1_3.length c1_3]] (by rfl) rfl rfl (by (try simp only [List.map_toArray, List.map_cons, List.map_nil]); first | done | rfl | (simp only [List.length_drop, List.length_take]; rfl)) ?_
             with_reducible refine (laws_toMeasure.calls k a1_0 a1_1 a1_2 _ _ l1_3 t482 t483 t484 t485 _ ?side1 ?side2 A17.out).mono ?_
             (case side1 => exact ca_ (Kd.C_below HR1_3.out HB.out))
             (case side2 => exact HC1_3.out)
             rintro e w64 ⟨v486, rfl, ho0, hb⟩
             refine ⟨_, rfl, ?_⟩
             have HO487 := Aside0.mk (Kd.R_lower (Kd.R_new' (Kd.R_new' (Kd.R_new' (Kd.R_new' ho0 (Kd.R_lt (ra_ HO457.out))) (Kd.R_lt (ra_ HO463.out))) (Kd.R_lt (ra_ HO471.out))) (Kd.R_lt (ra_ HO478.out))) (below_size (bw_ HB).out))
             replace HO457 := Aside0.mk (Kd.R_elder' (ra_ HO457.out) (Kd.R_base ho0) hb)
             replace HO463 := Aside0.mk (Kd.R_elder' (ra_ HO463.out) (Kd.R_base ho0) hb)
             replace HO471 := Aside0.mk (Kd.R_elder' (ra_ HO471.out) (Kd.R_base ho0) hb)
             replace HO478 := Aside0.mk (Kd.R_elder' (ra_ HO478.out) (Kd.R_base ho0) hb)
             replace BK450 := bb_ BK450 hb
             replace BK465 := bb_ BK465 hb
             replace BK472 := bb_ BK472 hb
             replace BK480 := bb_ BK480 hb
             replace HB := bt_ HB hb
             (try clear hb)
             (try clear hb2)
             (try clear hk)
             (try clear hi)
             (try clear ho0)
             obtain ⟨Ao65, co65, eo65⟩ := Kd.R_slice HO487.out
             (first | subst eo65 | (injection eo65 with f1_ f2_ f3_; have f4_ := f1_.symm; have f5_ := f3_.symm; clear f1_ f2_ f3_; subst f4_; subst f5_))
             refine hK.out _ _ ⟨cz_ BK472 0, cz_ BK472 1, cz_ BK472 2, cz_ BK472 3, cz_ BK450 0, cz_ BK450 1, cz_ BK450 2, cz_ BK450 3⟩ (fun hHeld => ?_)
             clear hK K
             refine norm_ (a' := ?_) ?_ ?_
             rotate_left
             ·show Act.put _ (some 55) _ = _
              simp only [Act.put, lstS, lstZ, lstC, i64_w, i32_w]
              rfl
             refine one_ (i := 3) (N := some 56) (bv_ 5 15) rfl rfl (by kernel_rfl) (by decide) (fun K hK => ?_)
             refine goes_ Try.func11 (by kernel_rfl) rfl #[.agg #[.int .i64 t466, .int .i64 t467, .int .i64 t468, .slice Ao53 t469.length co53], .agg #[.int .i64 t482, .int .i64 t483, .int .i64 t484, .slice Ao65 t485.length co65]] (by rfl) rfl rfl (by (try simp only [List.map_toArray, List.map_cons, List.map_nil]); first | done | rfl | (simp only [List.length_drop, List.length_take]; rfl)) ?_
             with_reducible refine (laws_eqMeasure.calls k t466 t467 t468 _ _ t469 t482 t483 t484 _ _ t485 true _ ?side1 ?side2 ?side3 ?side4 A18.out).mono ?_
             (case side1 => exact ca_ (Kd.R_reads' HO471.out).2.2)
             (case side2 => exact (Kd.R_reads' HO471.out).2.1)
             (case side3 => exact ca_ (Kd.R_reads' HO487.out).2.2)
             (case side4 => exact (Kd.R_reads' HO487.out).2.1)
             rintro e w66 ⟨rfl, hb⟩
             refine ⟨_, rfl, ?_⟩
             replace HO457 := Aside0.mk (Kd.R_below (ra_ HO457.out) hb)
             replace HO463 := Aside0.mk (Kd.R_below (ra_ HO463.out) hb)
             replace HO471 := Aside0.mk (Kd.R_below (ra_ HO471.out) hb)
             replace HO478 := Aside0.mk (Kd.R_below (ra_ HO478.out) hb)
             replace HO487 := Aside0.mk (Kd.R_below (ra_ HO487.out) hb)
             replace BK450 := bb_ BK450 hb
             replace BK465 := bb_ BK465 hb
             replace BK472 := bb_ BK472 hb
             replace BK480 := bb_ BK480 hb
             replace HB := bt_ HB hb
             (try clear hb)
             (try clear hb2)
             (try clear hk)
             (try clear hi)
             refine hK.out _ _ ⟨cz_ BK472 0, cz_ BK472 1, cz_ BK472 2, cz_ BK472 3, cz_ BK450 0, cz_ BK450 1, cz_ BK450 2, cz_ BK450 3⟩ (fun hHeld => ?_)
             clear hK K
             refine norm_ (a' := ?_) ?_ ?_
             rotate_left
             ·show Act.put _ (some 56) _ = _
              simp only [Act.put, lstS, lstZ, lstC, i64_w, i32_w]
              rfl
             refine pure_ (i := 4) (N := some 57) (v := ?_) (a' := ?_) (bv_ 5 31) rfl rfl (by kernel_rfl) (fun _ _ _ h => h) (Or.inl ⟨by rfl, ?_⟩) ?_ ?_
             rotate_left
             ·intro w'
              go_simp
              with_reducible rfl
             rotate_left
             ·simp only [Act.put, lstS, lstZ, lstC, i64_w, i32_w]
              rfl
             refine done_ (by kernel_rfl) ?_
             obtain ⟨hcz67_0, hcz67_1, hcz67_2, hcz67_3, hfz67_0, hfz67_1, hfz67_2, hfz67_3⟩ := ch4_ BK472
             try go_wp2_with (first | (refine ge_ 60 Try.func14 #[.agg #[.int .i64 t466, .int .i64 t467, .int .i64 t468, .slice Ao53 t469.length co53], .int .i64 1] ?_; (with_reducible refine (laws_markMeasure.calls k t466 t467 t468 (fun k_ => some k_ = (.slice Ao53 t469.length co53 : Value).ownBlock) (.slice Ao53 t469.length co53) t469 1 t489 t490 w _ ?side1 ?side2 A20.out).mono ?_); (case side1 => repeat (first | (with_reducible first | exact HB.out | apply below_alloc | apply pw_below_drewN | apply below_drew1 | refine below_set ?_ GE450.out | refine below_set ?_ GE465.out | refine below_set ?_ GE472.out | refine below_set ?_ GE480.out) | exact HB.out)); (case side2 => exact Kd.R_tight rfl HO471.out); rintro e w68 ⟨rfl, hy0, hb, hkp⟩; refine ⟨_, rfl, ?_⟩; replace BK450 := Aside0.mk (blk_kept (bl_ BK450).out hkp (fun hs_ => (fun e_ => (Kd.R_ne HO471.out BK450.out (by decide)) e_) hs_)); replace HO457 := Aside0.mk (Kd.R_mono (ok' := fun k_ => some k_ ≠ (.slice Ao46 t461.length co46 : Value).ownBlock ∧ some k_ ≠ (.slice Ao53 t469.length co53 : Value).ownBlock ∧ some k_ ≠ (.slice Ao60 t476.length co60 : Value).ownBlock ∧ some k_ ≠ (.slice Ao65 t485.length co65 : Value).ownBlock) (Kd.R_keptB (HO457.out) hkp (fun k_ hk_ hs_ => (hk_.1.1.2) hs_)) (fun k_ hk_ => ⟨hk_.1.1.1.1.2, hk_.1.1.1.2, hk_.1.1.2, hk_.1.2⟩)); replace HO463 := Aside0.mk (Kd.R_mono (ok' := fun k_ => some k_ ≠ (.slice Ao41 t455.length co41 : Value).ownBlock ∧ some k_ ≠ (.slice Ao53 t469.length co53 : Value).ownBlock ∧ some k_ ≠ (.slice Ao60 t476.length co60 : Value).ownBlock ∧ some k_ ≠ (.slice Ao65 t485.length co65 : Value).ownBlock) (Kd.R_keptB (HO463.out) hkp (fun k_ hk_ hs_ => (hk_.1.1.2) hs_)) (fun k_ hk_ => ⟨hk_.1.1.1.1.2, hk_.1.1.1.2, hk_.1.1.2, hk_.1.2⟩)); replace BK465 := Aside0.mk (blk_kept (bl_ BK465).out hkp (fun hs_ => (fun e_ => (Kd.R_ne HO471.out BK465.out (by decide)) e_) hs_)); replace BK472 := Aside0.mk (blk_kept (bl_ BK472).out hkp (fun hs_ => (fun e_ => (Kd.R_ne HO471.out BK472.out (by decide)) e_) hs_)); replace HO478 := Aside0.mk (Kd.R_mono (ok' := fun k_ => some k_ ≠ (.slice Ao41 t455.length co41 : Value).ownBlock ∧ some k_ ≠ (.slice Ao46 t461.length co46 : Value).ownBlock ∧ some k_ ≠ (.slice Ao53 t469.length co53 : Value).ownBlock ∧ some k_ ≠ (.slice Ao65 t485.length co65 : Value).ownBlock) (Kd.R_keptB (HO478.out) hkp (fun k_ hk_ hs_ => (hk_.1.2) hs_)) (fun k_ hk_ => ⟨hk_.1.1.1.1.2, hk_.1.1.1.2, hk_.1.1.2, hk_.1.2⟩)); replace BK480 := Aside0.mk (blk_kept (bl_ BK480).out hkp (fun hs_ => (fun e_ => (Kd.R_ne HO471.out BK480.out (by decide)) e_) hs_)); replace HO471 := Aside0.mk (Kd.R_reok rfl hy0 (fun k_ e_ => HO471.out.1 k_ e_)); replace HO487 := Aside0.mk (Kd.R_mono (ok' := fun k_ => some k_ ≠ (.slice Ao41 t455.length co41 : Value).ownBlock ∧ some k_ ≠ (.slice Ao46 t461.length co46 : Value).ownBlock ∧ some k_ ≠ (.slice Ao53 t469.length co53 : Value).ownBlock ∧ some k_ ≠ (.slice Ao60 t476.length co60 : Value).ownBlock) (Kd.R_keptB (HO487.out) hkp (fun k_ hk_ hs_ => (hk_.1.2) hs_)) (fun k_ hk_ => ⟨hk_.1.1.1.1.2, hk_.1.1.1.2, hk_.1.1.2, hk_.1.2⟩)); replace HB := Aside0.mk (hb); (try clear hb); (try clear hkp); (try clear hy0); obtain ⟨hcz69_0, hcz69_1, hcz69_2, hcz69_3, hfz69_0, hfz69_1, hfz69_2, hfz69_3⟩ := ch4_ BK480; obtain ⟨hcz70_0, hcz70_1, hcz70_2, hcz70_3, hfz70_0, hfz70_1, hfz70_2, hfz70_3⟩ := ch4_ BK465) | (go_at_call 11; (with_reducible refine (laws_eqMeasure.calls k t473 t474 t475 _ _ t476 t458 t459 t460 _ _ t461 true _ ?side1 ?side2 ?side3 ?side4 A22.out).mono ?_); (case side1 => exact ca_ (Kd.R_reads' HO478.out).2.2); (case side2 => exact (Kd.R_reads' HO478.out).2.1); (case side3 => exact ca_ (Kd.R_reads' HO463.out).2.2); (case side4 => exact (Kd.R_reads' HO463.out).2.1); rintro e w71 ⟨rfl, hb⟩; replace HO457 := Aside0.mk (Kd.R_below (ra_ HO457.out) hb); replace HO463 := Aside0.mk (Kd.R_below (ra_ HO463.out) hb); replace HO471 := Aside0.mk (Kd.R_below (ra_ HO471.out) hb); replace HO478 := Aside0.mk (Kd.R_below (ra_ HO478.out) hb); replace HO487 := Aside0.mk (Kd.R_below (ra_ HO487.out) hb); replace BK450 := bb_ BK450 hb; replace BK465 := bb_ BK465 hb; replace BK472 := bb_ BK472 hb; replace BK480 := bb_ BK480 hb; replace HB := bt_ HB hb; (try clear hb); (try clear hb2); (try clear hk); (try clear hi); obtain ⟨hcz72_0, hcz72_1, hcz72_2, hcz72_3, hfz72_0, hfz72_1, hfz72_2, hfz72_3⟩ := ch4_ BK480) | (refine ge_ 76 Try.func14 #[.agg #[.int .i64 t473, .int .i64 t474, .int .i64 t475, .slice Ao60 t476.length co60], .int .i64 1] ?_; (with_reducible refine (laws_markMeasure.calls k t473 t474 t475 (fun k_ => some k_ = (.slice Ao60 t476.length co60 : Value).ownBlock) (.slice Ao60 t476.length co60) t476 1 t492 t493 w _ ?side1 ?side2 A24.out).mono ?_); (case side1 => repeat (first | (with_reducible first | exact HB.out | apply below_alloc | apply pw_below_drewN | apply below_drew1 | refine below_set ?_ GE450.out | refine below_set ?_ GE465.out | refine below_set ?_ GE472.out | refine below_set ?_ GE480.out) | exact HB.out)); (case side2 => exact Kd.R_tight rfl HO478.out); rintro e w73 ⟨rfl, hy0, hb, hkp⟩; refine ⟨_, rfl, ?_⟩; replace BK450 := Aside0.mk (blk_kept (bl_ BK450).out hkp (fun hs_ => (fun e_ => (Kd.R_ne HO478.out BK450.out (by decide)) e_) hs_)); replace HO457 := Aside0.mk (Kd.R_mono (ok' := fun k_ => some k_ ≠ (.slice Ao46 t461.length co46 : Value).ownBlock ∧ some k_ ≠ (.slice Ao53 t469.length co53 : Value).ownBlock ∧ some k_ ≠ (.slice Ao60 t476.length co60 : Value).ownBlock ∧ some k_ ≠ (.slice Ao65 t485.length co65 : Value).ownBlock) (Kd.R_keptB (HO457.out) hkp (fun k_ hk_ hs_ => (hk_.2.2.1) hs_)) (fun k_ hk_ => ⟨hk_.1.1, hk_.1.2.1, hk_.1.2.2.1, hk_.1.2.2.2⟩)); replace HO463 := Aside0.mk (Kd.R_mono (ok' := fun k_ => some k_ ≠ (.slice Ao41 t455.length co41 : Value).ownBlock ∧ some k_ ≠ (.slice Ao53 t469.length co53 : Value).ownBlock ∧ some k_ ≠ (.slice Ao60 t476.length co60 : Value).ownBlock ∧ some k_ ≠ (.slice Ao65 t485.length co65 : Value).ownBlock) (Kd.R_keptB (HO463.out) hkp (fun k_ hk_ hs_ => (hk_.2.2.1) hs_)) (fun k_ hk_ => ⟨hk_.1.1, hk_.1.2.1, hk_.1.2.2.1, hk_.1.2.2.2⟩)); replace BK465 := Aside0.mk (blk_kept (bl_ BK465).out hkp (fun hs_ => (fun e_ => (Kd.R_ne HO478.out BK465.out (by decide)) e_) hs_)); replace HO471 := Aside0.mk (Kd.R_mono (ok' := fun k_ => some k_ ≠ (.slice Ao41 t455.length co41 : Value).ownBlock ∧ some k_ ≠ (.slice Ao46 t461.length co46 : Value).ownBlock ∧ some k_ ≠ (.slice Ao60 t476.length co60 : Value).ownBlock ∧ some k_ ≠ (.slice Ao65 t485.length co65 : Value).ownBlock) (Kd.R_keptB (HO471.out) hkp (fun k_ hk_ hs_ => (hk_.1.2) hs_)) (fun k_ hk_ => ⟨hk_.1.1.1.1.2, hk_.1.1.1.2, hk_.1.1.2, hk_.1.2⟩)); replace BK472 := Aside0.mk (blk_kept (bl_ BK472).out hkp (fun hs_ => (fun e_ => (Kd.R_ne HO478.out BK472.out (by decide)) e_) hs_)); replace BK480 := Aside0.mk (blk_kept (bl_ BK480).out hkp (fun hs_ => (fun e_ => (Kd.R_ne HO478.out BK480.out (by decide)) e_) hs_)); replace HO478 := Aside0.mk (Kd.R_reok rfl hy0 (fun k_ e_ => HO478.out.1 k_ e_)); replace HO487 := Aside0.mk (Kd.R_mono (ok' := fun k_ => some k_ ≠ (.slice Ao41 t455.length co41 : Value).ownBlock ∧ some k_ ≠ (.slice Ao46 t461.length co46 : Value).ownBlock ∧ some k_ ≠ (.slice Ao53 t469.length co53 : Value).ownBlock ∧ some k_ ≠ (.slice Ao60 t476.length co60 : Value).ownBlock) (Kd.R_keptB (HO487.out) hkp (fun k_ hk_ hs_ => (hk_.2.2.2) hs_)) (fun k_ hk_ => ⟨hk_.1.1, hk_.1.2.1, hk_.1.2.2.1, hk_.1.2.2.2⟩)); replace HB := Aside0.mk (hb); (try clear hb); (try clear hkp); (try clear hy0); obtain ⟨hcz74_0, hcz74_1, hcz74_2, hcz74_3, hfz74_0, hfz74_1, hfz74_2, hfz74_3⟩ := ch4_ BK480) | ((with_reducible refine gate_callee (f := 15) rfl ?_); refine goesL_ (some 79) rfl rfl Try.func15 (by kernel_rfl) rfl #[.agg #[.int .i64 t473, .int .i64 t474, .int .i64 t475, .slice Ao60 t493.length co60], .int .i64 1] rfl (by (try simp only [List.map_toArray, List.map_cons, List.map_nil]); first | done | (rw [show t493.length = t476.length from (Kd.R_reads' HO478.out).1.symm] <;> rfl) | rfl | (simp only [List.length_drop, List.length_take]; rfl)) ?_; (with_reducible refine (laws_heldMeasure.calls k t473 t474 t475 _ _ t493 1 t494 _ ?side1 ?side2 A25.out).mono ?_); (case side1 => exact ca_ (Kd.R_reads' HO478.out).2.2); (case side2 => rw [show t493.length = t476.length from (Kd.R_reads' HO478.out).1.symm]; exact (Kd.R_reads' HO478.out).2.1); rintro e w75 ⟨rfl, hb⟩; refine ⟨_, rfl, ?_⟩; replace HO457 := Aside0.mk (Kd.R_below (ra_ HO457.out) hb); replace HO463 := Aside0.mk (Kd.R_below (ra_ HO463.out) hb); replace HO471 := Aside0.mk (Kd.R_below (ra_ HO471.out) hb); replace HO478 := Aside0.mk (Kd.R_below (ra_ HO478.out) hb); replace HO487 := Aside0.mk (Kd.R_below (ra_ HO487.out) hb); replace BK450 := bb_ BK450 hb; replace BK465 := bb_ BK465 hb; replace BK472 := bb_ BK472 hb; replace BK480 := bb_ BK480 hb; replace HB := bt_ HB hb; (try clear hb); (try clear hb2); (try clear hk); (try clear hi); obtain ⟨hcz76_0, hcz76_1, hcz76_2, hcz76_3, hfz76_0, hfz76_1, hfz76_2, hfz76_3⟩ := ch4_ BK450) | (refine ge_ 88 Try.func18 #[.agg #[.int .i64 a1_0, .int .i64 a1_1, .int .i64 a1_2, .slice A1_3 l1_3.length c1_3]] ?_; (with_reducible refine (laws_toMeasure.calls k a1_0 a1_1 a1_2 _ _ l1_3 t495 t496 t497 t498 _ ?side1 ?side2 A28.out).mono ?_); (case side1 => exact ca_ (Kd.C_below HR1_3.out HB.out)); (case side2 => exact HC1_3.out); rintro e w77 ⟨v499, rfl, ho0, hb⟩; refine ⟨_, rfl, ?_⟩; have HO500 := Aside0.mk (Kd.R_lower (Kd.R_new' (Kd.R_new' (Kd.R_new' (Kd.R_new' (Kd.R_new' ho0 (Kd.R_lt (ra_ HO457.out))) (Kd.R_lt (ra_ HO463.out))) (Kd.R_lt (ra_ HO471.out))) (Kd.R_lt (ra_ HO478.out))) (Kd.R_lt (ra_ HO487.out))) (below_size (bw_ HB).out)); replace HO457 := Aside0.mk (Kd.R_elder' (ra_ HO457.out) (Kd.R_base ho0) hb); replace HO463 := Aside0.mk (Kd.R_elder' (ra_ HO463.out) (Kd.R_base ho0) hb); replace HO471 := Aside0.mk (Kd.R_elder' (ra_ HO471.out) (Kd.R_base ho0) hb); replace HO478 := Aside0.mk (Kd.R_elder' (ra_ HO478.out) (Kd.R_base ho0) hb); replace HO487 := Aside0.mk (Kd.R_elder' (ra_ HO487.out) (Kd.R_base ho0) hb); replace BK450 := bb_ BK450 hb; replace BK465 := bb_ BK465 hb; replace BK472 := bb_ BK472 hb; replace BK480 := bb_ BK480 hb; replace HB := bt_ HB hb; (try clear hb); (try clear hb2); (try clear hk); (try clear hi); (try clear ho0); obtain ⟨Ao78, co78, eo78⟩ := Kd.R_slice HO500.out; subst eo78) | (refine ge_ 91 Try.func21 #[.int .i64 a0, .agg #[.int .i64 t495, .int .i64 t496, .int .i64 t497, .slice Ao78 t498.length co78], .int .i64 a2, .int .i64 a3] ?_; (with_reducible refine (impl_AffineImage.calls k a0 t495 t496 t497 _ _ t498 a2 a3 t501 t502 t503 t504 t507 _ ?side1 ?side2 A29.out).mono ?_); (case side1 => exact ca_ (Kd.R_reads' HO500.out).2.2); (case side2 => exact (Kd.R_reads' HO500.out).2.1); rintro e w79 ⟨v505, rfl, ho0, hb⟩; refine ⟨_, rfl, ?_⟩; have HO506 := Aside0.mk (Kd.R_lower (Kd.R_new' (Kd.R_new' (Kd.R_new' (Kd.R_new' (Kd.R_new' (Kd.R_new' ho0 (Kd.R_lt (ra_ HO457.out))) (Kd.R_lt (ra_ HO463.out))) (Kd.R_lt (ra_ HO471.out))) (Kd.R_lt (ra_ HO478.out))) (Kd.R_lt (ra_ HO487.out))) (Kd.R_lt (ra_ HO500.out))) (below_size (bw_ HB).out)); replace HO457 := Aside0.mk (Kd.R_elder' (ra_ HO457.out) (Kd.R_base ho0) hb); replace HO463 := Aside0.mk (Kd.R_elder' (ra_ HO463.out) (Kd.R_base ho0) hb); replace HO471 := Aside0.mk (Kd.R_elder' (ra_ HO471.out) (Kd.R_base ho0) hb); replace HO478 := Aside0.mk (Kd.R_elder' (ra_ HO478.out) (Kd.R_base ho0) hb); replace HO487 := Aside0.mk (Kd.R_elder' (ra_ HO487.out) (Kd.R_base ho0) hb); replace HO500 := Aside0.mk (Kd.R_elder' (ra_ HO500.out) (Kd.R_base ho0) hb); replace BK450 := bb_ BK450 hb; replace BK465 := bb_ BK465 hb; replace BK472 := bb_ BK472 hb; replace BK480 := bb_ BK480 hb; replace HB := bt_ HB hb; (try clear hb); (try clear hb2); (try clear hk); (try clear hi); (try clear ho0)) | (refine bx_ 18 #[.int .i64 0, .int .i64 0, .int .i64 0, .slice none 0 0] 28 ?_; intro gb508 hg w80 hbox hb; have BK508 := Aside0.mk (hbox); have GW508 := bs_ HB hg; have GE508 := bs_ HB hg; have NB450_508 := bm_ BK450 hg; have NB508_450 := bn_ BK450 hg; have NB465_508 := bm_ BK465 hg; have NB508_465 := bn_ BK465 hg; have NB472_508 := bm_ BK472 hg; have NB508_472 := bn_ BK472 hg; have NB480_508 := bm_ BK480 hg; have NB508_480 := bn_ BK480 hg; replace HO457 := Aside0.mk (Kd.R_below (ra_ HO457.out) hb); replace HO463 := Aside0.mk (Kd.R_below (ra_ HO463.out) hb); replace HO471 := Aside0.mk (Kd.R_below (ra_ HO471.out) hb); replace HO478 := Aside0.mk (Kd.R_below (ra_ HO478.out) hb); replace HO487 := Aside0.mk (Kd.R_below (ra_ HO487.out) hb); replace HO500 := Aside0.mk (Kd.R_below (ra_ HO500.out) hb); replace HO506 := Aside0.mk (Kd.R_below (ra_ HO506.out) hb); replace BK450 := bb_ BK450 hb; replace BK465 := bb_ BK465 hb; replace BK472 := bb_ BK472 hb; replace BK480 := bb_ BK480 hb; replace HB := bt_ HB hb; clear hb hbox hg; have hnb81 := NB508_450.out; have hnc81 := NB450_508.out; have hnb82 := NB508_465.out; have hnc82 := NB465_508.out; have hnb83 := NB508_472.out; have hnc83 := NB472_508.out; have hnb84 := NB508_480.out; have hnc84 := NB480_508.out; obtain ⟨hcz85_0, hcz85_1, hcz85_2, hcz85_3, hfz85_0, hfz85_1, hfz85_2, hfz85_3⟩ := ch4_ BK508; obtain ⟨Ao86, co86, eo86⟩ := Kd.R_slice HO506.out; subst eo86; obtain ⟨hcz87_0, hcz87_1, hcz87_2, hcz87_3, hfz87_0, hfz87_1, hfz87_2, hfz87_3⟩ := ch4_ BK465) | (refine ge_ 96 Try.func11 #[.agg #[.int .i64 t501, .int .i64 t502, .int .i64 t503, .slice Ao86 t504.length co86], .agg #[.int .i64 t458, .int .i64 t459, .int .i64 t460, .slice Ao46 t461.length co46]] ?_; (with_reducible refine (laws_eqMeasure.calls k t501 t502 t503 _ _ t504 t458 t459 t460 _ _ t461 true _ ?side1 ?side2 ?side3 ?side4 A30.out).mono ?_); (case side1 => refine (Kd.R_reads' (e := 52) (base := w.heap.size) (ok := fun k_ => ((((((True ∧ some k_ ≠ (.slice Ao41 t455.length co41 : Value).ownBlock) ∧ some k_ ≠ (.slice Ao46 t461.length co46 : Value).ownBlock) ∧ some k_ ≠ (.slice Ao53 t469.length co53 : Value).ownBlock) ∧ some k_ ≠ (.slice Ao60 t476.length co60 : Value).ownBlock) ∧ some k_ ≠ (.slice Ao65 t485.length co65 : Value).ownBlock) ∧ some k_ ≠ (.slice Ao78 t498.length co78 : Value).ownBlock)) (n := t504.length) (c := co86) ?_).2.2; exact (ra_ (rs4_ HO506.out BK508.out))); (case side2 => exact (Kd.R_reads' HO506.out).2.1); (case side3 => refine (Kd.R_reads' (e := 52) (base := w.heap.size) (ok := fun k_ => (((some k_ ≠ (.slice Ao41 t455.length co41 : Value).ownBlock ∧ (some k_ ≠ (.slice Ao53 t469.length co53 : Value).ownBlock ∧ (some k_ ≠ (.slice Ao60 t476.length co60 : Value).ownBlock ∧ some k_ ≠ (.slice Ao65 t485.length co65 : Value).ownBlock))) ∧ some k_ ≠ (.slice Ao78 t498.length co78 : Value).ownBlock) ∧ some k_ ≠ (.slice Ao86 t504.length co86 : Value).ownBlock)) (n := t461.length) (c := co46) ?_).2.2; exact (ra_ (rs4_ HO463.out BK508.out))); (case side4 => exact (Kd.R_reads' HO463.out).2.1); rintro e w88 ⟨rfl, hb⟩; refine ⟨_, rfl, ?_⟩; replace HO457 := Aside0.mk (Kd.R_below (ra_ (rs4_ HO457.out BK508.out)) hb); replace HO463 := Aside0.mk (Kd.R_below (ra_ (rs4_ HO463.out BK508.out)) hb); replace HO471 := Aside0.mk (Kd.R_below (ra_ (rs4_ HO471.out BK508.out)) hb); replace HO478 := Aside0.mk (Kd.R_below (ra_ (rs4_ HO478.out BK508.out)) hb); replace HO487 := Aside0.mk (Kd.R_below (ra_ (rs4_ HO487.out BK508.out)) hb); replace HO500 := Aside0.mk (Kd.R_below (ra_ (rs4_ HO500.out BK508.out)) hb); replace HO506 := Aside0.mk (Kd.R_below (ra_ (rs4_ HO506.out BK508.out)) hb); replace BK450 := fb_ BK450 NB450_508 hb; replace BK465 := fb_ BK465 NB465_508 hb; replace BK472 := fb_ BK472 NB472_508 hb; replace BK480 := fb_ BK480 NB480_508 hb; replace BK508 := Aside0.mk (blk_below (g := gb508) (o := .cells #[.int .i64 t501, .int .i64 t502, .int .i64 t503, .slice Ao86 t504.length co86] 28 (0, 0)) (bp_ BK508).out hb); replace HB := bt_ HB hb; (try clear hb); (try clear hb2); (try clear hk); (try clear hi); obtain ⟨hcz89_0, hcz89_1, hcz89_2, hcz89_3, hfz89_0, hfz89_1, hfz89_2, hfz89_3⟩ := ch4_ BK480) | ((with_reducible refine gate_callee (f := 15) rfl ?_); refine goesL_ (some 105) rfl rfl Try.func15 (by kernel_rfl) rfl #[.agg #[.int .i64 t473, .int .i64 t474, .int .i64 t475, .slice Ao60 t493.length co60], .int .i64 1] rfl (by (try simp only [List.map_toArray, List.map_cons, List.map_nil]); first | done | (rw [show t493.length = t476.length from (Kd.R_reads' HO478.out).1.symm] <;> rfl) | rfl | (simp only [List.length_drop, List.length_take]; rfl)) ?_; (with_reducible refine (laws_heldMeasure.calls k t473 t474 t475 _ _ t493 1 t510 _ ?side1 ?side2 A33.out).mono ?_); (case side1 => exact ca_ (Kd.R_reads' HO478.out).2.2); (case side2 => rw [show t493.length = t476.length from (Kd.R_reads' HO478.out).1.symm]; exact (Kd.R_reads' HO478.out).2.1); rintro e w90 ⟨rfl, hb⟩; refine ⟨_, rfl, ?_⟩; replace HO457 := Aside0.mk (Kd.R_below (ra_ HO457.out) hb); replace HO463 := Aside0.mk (Kd.R_below (ra_ HO463.out) hb); replace HO471 := Aside0.mk (Kd.R_below (ra_ HO471.out) hb); replace HO478 := Aside0.mk (Kd.R_below (ra_ HO478.out) hb); replace HO487 := Aside0.mk (Kd.R_below (ra_ HO487.out) hb); replace HO500 := Aside0.mk (Kd.R_below (ra_ HO500.out) hb); replace HO506 := Aside0.mk (Kd.R_below (ra_ HO506.out) hb); replace BK450 := bb_ BK450 hb; replace BK465 := bb_ BK465 hb; replace BK472 := bb_ BK472 hb; replace BK480 := bb_ BK480 hb; replace BK508 := bb_ BK508 hb; replace HB := bt_ HB hb; (try clear hb); (try clear hb2); (try clear hk); (try clear hi)))
             go_ret
             exact ⟨es_, (bw_ HB).out⟩
            ·rw [if_neg c35] at H
             exact absurd H (by simp)
          ·rw [if_neg c32] at H
           exact absurd H (by simp)
         ·replace c31 := Bool.eq_false_iff.mpr c31
          subst c31
          have H1 : (none) = some r := by rw [if_neg (show ¬ (false = true) by decide)] at H; exact H
          clear H
          have H := H1
          clear H1
          exact absurd H (by simp)
        ·rw [if_neg c27] at H
         exact absurd H (by simp)
      ·replace c23 := Bool.eq_false_iff.mpr c23
       subst c23
       have H1 : (none) = some r := by rw [if_neg (show ¬ (false = true) by decide)] at H; exact H
       clear H
       have H := H1
       clear H1
       exact absurd H (by simp)
    ·replace c19 := Bool.eq_false_iff.mpr c19
     subst c19
     have H1 : (none) = some r := by rw [if_neg (show ¬ (false = true) by decide)] at H; exact H
     clear H
     have H := H1
     clear H1
     exact absurd H (by simp)
   ·rw [if_neg c16] at H
    exact absurd H (by simp)
  ·replace c15 := Bool.eq_false_iff.mpr c15
   subst c15
   have H1 : (none) = some r := by rw [if_neg (show ¬ (false = true) by decide)] at H; exact H
   clear H
   have H := H1
   clear H1
   exact absurd H (by simp)
def laws_FnExactAffineImage.Pure : Prop := ∀ (a0 : Int) (a1_0 : Int) (a1_1 : Int) (a1_2 : Int) (l1_3 : List (S98)) (a2 : Int) (a3 : Int), (Lit.int .i64 a0).wf = true → (Lit.int .i64 a1_0).wf = true → (Lit.int .i64 a1_1).wf = true → (Lit.int .i64 a1_2).wf = true → l1_3.length ≤ maxLen → (∀ z ∈ l1_3, wfS98 z) → (Lit.int .i64 a2).wf = true → (Lit.int .i64 a3).wf = true → ∃ k, laws_FnExactAffineImage.f k a0 a1_0 a1_1 a1_2 l1_3 a2 a3 = some true
end Go.Proofs.Ytbldceikdajdlaa.QD
