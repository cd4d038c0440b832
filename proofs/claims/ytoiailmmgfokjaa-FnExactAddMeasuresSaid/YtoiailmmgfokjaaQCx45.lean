-- Written by a program of this session out of Lean's own print of the loaded program; Lean checks it.
import Derived.Test.YtoiailmmgfokjaaQCx6
import Derived.Test.YtoiailmmgfokjaaQCx9
import Derived.Test.YtoiailmmgfokjaaQCx12
import Derived.Test.YtoiailmmgfokjaaQCx27
import Derived.Test.YtoiailmmgfokjaaQCx40
import Derived.Test.YtoiailmmgfokjaaQCx43
import Derived.Test.YtoiailmmgfokjaaQCx44
namespace Go.Proofs.Ytoiailmmgfokjaa.QC
open Go.RowKit Go.Proofs.YtoiailmmgfokjaaW.PrintWords Go.Proofs.YtoiailmmgfokjaaW.PrintLast Go.Proofs.YtoiailmmgfokjaaW.PrintMore
attribute [local go_sem] isSome_setCell max2_int min2_int max_two min_two max_three min_three max_four min_four   -- for this text's walks alone
set_option linter.unusedVariables false
set_option linter.unusedSimpArgs false

/-! ### laws_FnExactAddMeasures: function 4 -/
def laws_FnExactAddMeasures.f (k : Nat) (a0 : Int) (a1_0 : Int) (a1_1 : Int) (a1_2 : Int) (l1_3 : List (S95)) (a2_0 : Int) (a2_1 : Int) (a2_2 : Int) (l2_3 : List (S95)) : Option (Bool) := (laws_szMeasure.f a1_0 a1_1 a1_2 l1_3 1048576).bind fun t354 => (if t354 < 0 then (some true) else ((laws_szMeasure.f a2_0 a2_1 a2_2 l2_3 t354).bind fun t355 => (if t355 < 0 then (some true) else ((laws_toMeasure.f k a1_0 a1_1 a1_2 l1_3).bind fun bt356 => ((laws_toMeasure.f k a2_0 a2_1 a2_2 l2_3).bind fun bt362 => ((spec_AddMeasures.f k a0 bt356.1 bt356.2.1 bt356.2.2.1 bt356.2.2.2 bt362.1 bt362.2.1 bt362.2.2.1 bt362.2.2.2).bind fun bt368 => ((laws_toMeasure.f k a1_0 a1_1 a1_2 l1_3).bind fun bt376 => ((laws_toMeasure.f k a2_0 a2_1 a2_2 l2_3).bind fun bt383 => ((impl_AddMeasures.f k a0 bt376.1 bt376.2.1 bt376.2.2.1 bt376.2.2.2 bt383.1 bt383.2.1 bt383.2.2.1 bt383.2.2.2).bind fun bt390 => ((laws_eqMeasure.f k bt390.1 bt390.2.1 bt390.2.2.1 bt390.2.2.2.1 bt368.1 bt368.2.1 bt368.2.2.1 bt368.2.2.2.1).bind fun t398 => (if t398 = true then (if bt390.2.2.2.2 = bt368.2.2.2.2 then ((laws_toMeasure.f k a1_0 a1_1 a1_2 l1_3).bind fun bt399 => ((laws_eqMeasure.f k bt376.1 bt376.2.1 bt376.2.2.1 bt376.2.2.2 bt399.1 bt399.2.1 bt399.2.2.1 bt399.2.2.2).bind fun t405 => (if t405 = true then ((laws_toMeasure.f k a2_0 a2_1 a2_2 l2_3).bind fun bt406 => ((laws_eqMeasure.f k bt383.1 bt383.2.1 bt383.2.2.1 bt383.2.2.2 bt406.1 bt406.2.1 bt406.2.2.1 bt406.2.2.2).bind fun t412 => (if t412 = true then ((laws_markMeasure.f k bt376.1 bt376.2.1 bt376.2.2.1 bt376.2.2.2 1).bind fun bt413 => ((laws_markMeasure.f k bt383.1 bt383.2.1 bt383.2.2.1 bt383.2.2.2 bt413.1).bind fun bt415 => (if bt415.1 < 0 then (none) else ((laws_eqMeasure.f k bt390.1 bt390.2.1 bt390.2.2.1 bt390.2.2.2.1 bt368.1 bt368.2.1 bt368.2.2.1 bt368.2.2.2.1).bind fun t417 => (if t417 = true then ((laws_markMeasure.f k bt390.1 bt390.2.1 bt390.2.2.1 bt390.2.2.2.1 1).bind fun bt418 => ((laws_heldMeasure.f k bt390.1 bt390.2.1 bt390.2.2.1 bt418.2 1).bind fun t420 => (if t420 < 0 then (none) else (if t420 = bt418.1 then ((laws_toMeasure.f k a1_0 a1_1 a1_2 l1_3).bind fun bt421 => ((laws_toMeasure.f k a2_0 a2_1 a2_2 l2_3).bind fun bt427 => ((impl_AddMeasures.f k a0 bt421.1 bt421.2.1 bt421.2.2.1 bt421.2.2.2 bt427.1 bt427.2.1 bt427.2.2.1 bt427.2.2.2).bind fun bt433 => ((laws_eqMeasure.f k bt433.1 bt433.2.1 bt433.2.2.1 bt433.2.2.2.1 bt368.1 bt368.2.1 bt368.2.2.1 bt368.2.2.2.1).bind fun t441 => (if t441 = true then (if bt433.2.2.2.2 = bt368.2.2.2.2 then ((laws_heldMeasure.f k bt390.1 bt390.2.1 bt390.2.2.1 bt418.2 1).bind fun t442 => (if t442 < 0 then (none) else (if t442 = bt418.1 then (some true) else (none)))) else (none)) else (none)))))) else (none))))) else (none)))))) else (none)))) else (none)))) else (none)) else (none))))))))))))
def laws_FnExactAddMeasures.T8 : Bool × List (List Nat × List Nat) := (true, [([], []), ([], []), ([1], [1]), ([], []), ([3, 2], [3]), ([0, 2, 4, 4], [0, 2, 4]), ([5], [5]), ([6], [6]), ([6], [6]), ([], []), ([9, 7, 5, 0, 1, 2, 3, 4, 5, 6, 7, 9], [7, 9]), ([8, 10, 0, 1, 2, 3, 4, 5, 6, 7, 8, 9, 10], [8])])
def laws_FnExactAddMeasures.B8 : List Nat := [0, 0, 2, 0, 14, 31, 63, 127, 127, 0, 767, 2047]
theorem laws_FnExactAddMeasures.tab8 : rtab .any (opsOf Try.f4 8) = laws_FnExactAddMeasures.T8 := by kernel_rfl
theorem laws_FnExactAddMeasures.bits8 : waitsOk laws_FnExactAddMeasures.T8.2 laws_FnExactAddMeasures.B8 = true := by kernel_rfl
def laws_FnExactAddMeasures.T31 : Bool × List (List Nat × List Nat) := (true, [([], []), ([], []), ([1], [1]), ([], []), ([3, 2], [3]), ([0, 2, 4, 4], [0, 2, 4]), ([5], [5]), ([6], [6]), ([6], [6]), ([], []), ([9, 7, 5, 0, 1, 2, 3, 4, 5, 6, 7, 9], [7, 9]), ([8, 10, 0, 1, 2, 3, 4, 5, 6, 7, 8, 9, 10], [8])])
def laws_FnExactAddMeasures.B31 : List Nat := [0, 0, 2, 0, 14, 31, 63, 127, 127, 0, 767, 2047]
theorem laws_FnExactAddMeasures.tab31 : rtab .any (opsOf Try.f4 31) = laws_FnExactAddMeasures.T31 := by kernel_rfl
theorem laws_FnExactAddMeasures.bits31 : waitsOk laws_FnExactAddMeasures.T31.2 laws_FnExactAddMeasures.B31 = true := by kernel_rfl
set_option maxHeartbeats 8000000 in
set_option maxRecDepth 100000 in
theorem laws_FnExactAddMeasures.calls (k : Nat) (a0 : Int) (a1_0 : Int) (a1_1 : Int) (a1_2 : Int) (A1_3 : Option Addr) (c1_3 : Nat) (l1_3 : List (S95)) (a2_0 : Int) (a2_1 : Int) (a2_2 : Int) (A2_3 : Option Addr) (c2_3 : Nat) (l2_3 : List (S95)) (r : Bool) (w : World) (hr1_3 : Kd.C k95 w A1_3 l1_3.length l1_3) (hc1_3 : l1_3.length ≤ c1_3) (hr2_3 : Kd.C k95 w A2_3 l2_3.length l2_3) (hc2_3 : l2_3.length ≤ c2_3) (h : laws_FnExactAddMeasures.f k a0 a1_0 a1_1 a1_2 l1_3 a2_0 a2_1 a2_2 l2_3 = some r) :
  Calls Try.prog 4 #[.int .i64 a0, .agg #[.int .i64 a1_0, .int .i64 a1_1, .int .i64 a1_2, .slice A1_3 l1_3.length c1_3], .agg #[.int .i64 a2_0, .int .i64 a2_1, .int .i64 a2_2, .slice A2_3 l2_3.length c2_3]] w fun e w' => e = .returned (.bool r) ∧ Below w.heap.size w w' := by
 have hu26 := Try.underlying26
 have hu33 := Try.underlying33
 have HR1_3 := Aside0.mk hr1_3
 have HC1_3 := Aside0.mk hc1_3
 clear hr1_3 hc1_3
 have HR2_3 := Aside0.mk hr2_3
 have HC2_3 := Aside0.mk hc2_3
 clear hr2_3 hc2_3
 have HB := Aside0.mk (Below.refl w.heap.size w)
 have H : ((laws_szMeasure.f a1_0 a1_1 a1_2 l1_3 1048576).bind fun t354 => (if t354 < 0 then (some true) else ((laws_szMeasure.f a2_0 a2_1 a2_2 l2_3 t354).bind fun t355 => (if t355 < 0 then (some true) else ((laws_toMeasure.f k a1_0 a1_1 a1_2 l1_3).bind fun bt356 => ((laws_toMeasure.f k a2_0 a2_1 a2_2 l2_3).bind fun bt362 => ((spec_AddMeasures.f k a0 bt356.1 bt356.2.1 bt356.2.2.1 bt356.2.2.2 bt362.1 bt362.2.1 bt362.2.2.1 bt362.2.2.2).bind fun bt368 => ((laws_toMeasure.f k a1_0 a1_1 a1_2 l1_3).bind fun bt376 => ((laws_toMeasure.f k a2_0 a2_1 a2_2 l2_3).bind fun bt383 => ((impl_AddMeasures.f k a0 bt376.1 bt376.2.1 bt376.2.2.1 bt376.2.2.2 bt383.1 bt383.2.1 bt383.2.2.1 bt383.2.2.2).bind fun bt390 => ((laws_eqMeasure.f k bt390.1 bt390.2.1 bt390.2.2.1 bt390.2.2.2.1 bt368.1 bt368.2.1 bt368.2.2.1 bt368.2.2.2.1).bind fun t398 => (if t398 = true then (if bt390.2.2.2.2 = bt368.2.2.2.2 then ((laws_toMeasure.f k a1_0 a1_1 a1_2 l1_3).bind fun bt399 => ((laws_eqMeasure.f k bt376.1 bt376.2.1 bt376.2.2.1 bt376.2.2.2 bt399.1 bt399.2.1 bt399.2.2.1 bt399.2.2.2).bind fun t405 => (if t405 = true then ((laws_toMeasure.f k a2_0 a2_1 a2_2 l2_3).bind fun bt406 => ((laws_eqMeasure.f k bt383.1 bt383.2.1 bt383.2.2.1 bt383.2.2.2 bt406.1 bt406.2.1 bt406.2.2.1 bt406.2.2.2).bind fun t412 => (if t412 = true then ((laws_markMeasure.f k bt376.1 bt376.2.1 bt376.2.2.1 bt376.2.2.2 1).bind fun bt413 => ((laws_markMeasure.f k bt383.1 bt383.2.1 bt383.2.2.1 bt383.2.2.2 bt413.1).bind fun bt415 => (if bt415.1 < 0 then (none) else ((laws_eqMeasure.f k bt390.1 bt390.2.1 bt390.2.2.1 bt390.2.2.2.1 bt368.1 bt368.2.1 bt368.2.2.1 bt368.2.2.2.1).bind fun t417 => (if t417 = true then ((laws_markMeasure.f k bt390.1 bt390.2.1 bt390.2.2.1 bt390.2.2.2.1 1).bind fun bt418 => ((laws_heldMeasure.f k bt390.1 bt390.2.1 bt390.2.2.1 bt418.2 1).bind fun t420 => (if t420 < 0 then (none) else (if t420 = bt418.1 then ((laws_toMeasure.f k a1_0 a1_1 a1_2 l1_3).bind fun bt421 => ((laws_toMeasure.f k a2_0 a2_1 a2_2 l2_3).bind fun bt427 => ((impl_AddMeasures.f k a0 bt421.1 bt421.2.1 bt421.2.2.1 bt421.2.2.2 bt427.1 bt427.2.1 bt427.2.2.1 bt427.2.2.2).bind fun bt433 => ((laws_eqMeasure.f k bt433.1 bt433.2.1 bt433.2.2.1 bt433.2.2.2.1 bt368.1 bt368.2.1 bt368.2.2.1 bt368.2.2.2.1).bind fun t441 => (if t441 = true then (if bt433.2.2.2.2 = bt368.2.2.2.2 then ((laws_heldMeasure.f k bt390.1 bt390.2.1 bt390.2.2.1 bt418.2 1).bind fun t442 => (if t442 < 0 then (none) else (if t442 = bt418.1 then (some true) else (none)))) else (none)) else (none)))))) else (none))))) else (none)))))) else (none)))) else (none)))) else (none)) else (none))))))))))))) = some r := h
 clear h
 replace H := Option.bind_eq_some_iff.mp H
 obtain ⟨t354, A40, H⟩ := H
 have A4 := Aside0.mk A40
 clear A40
 by_cases c5 : t354 < 0
 ·rw [if_pos c5] at H
  have c5b0 : decide (t354 < 0) = true := decide_eq_true c5
  clear c5
  obtain rfl := Option.some.inj H
  go_enter Try.func4, Try.ntmps4
  go_wp2_with (first | ((with_reducible refine gate_dst (N := 4) rfl ?_); refine bx_ 4 #[.int .i64 a1_0, .int .i64 a1_1, .int .i64 a1_2, .slice A1_3 l1_3.length c1_3] 26 ?_; intro gb352 hg w6 hbox hb; have BK352 := Aside0.mk (hbox); have GW352 := bs_ HB hg; have GE352 := bs_ HB hg; replace HB := bt_ HB hb; clear hb hbox hg) | ((with_reducible refine gate_dst (N := 5) rfl ?_); refine bx_ 5 #[.int .i64 a2_0, .int .i64 a2_1, .int .i64 a2_2, .slice A2_3 l2_3.length c2_3] 26 ?_; intro gb353 hg w7 hbox hb; have BK353 := Aside0.mk (hbox); have GW353 := bs_ HB hg; have GE353 := bs_ HB hg; have NB352_353 := bm_ BK352 hg; have NB353_352 := bn_ BK352 hg; replace BK352 := bb_ BK352 hb; replace HB := bt_ HB hb; clear hb hbox hg; have hnb8 := NB352_353.out; have hnc8 := NB353_352.out; have hcz9_0 : w7.cell? ⟨gb352, 0, none⟩ = some (.int .i64 a1_0) := cz_ BK352 0; have hcz9_1 : w7.cell? ⟨gb352, 1, none⟩ = some (.int .i64 a1_1) := cz_ BK352 1; have hcz9_2 : w7.cell? ⟨gb352, 2, none⟩ = some (.int .i64 a1_2) := cz_ BK352 2; have hcz9_3 : w7.cell? ⟨gb352, 3, none⟩ = some (.slice A1_3 l1_3.length c1_3) := cz_ BK352 3; have hfz9_0 := fz_ BK352 0; have hfz9_1 := fz_ BK352 1; have hfz9_2 := fz_ BK352 2; have hfz9_3 := fz_ BK352 3) | ((with_reducible refine gate_callee (f := 7) rfl ?_); refine ge_ 21 Try.func7 #[.agg #[.int .i64 a1_0, .int .i64 a1_1, .int .i64 a1_2, .slice A1_3 l1_3.length c1_3], .int .i64 1048576] ?_; (with_reducible refine (laws_szMeasure.calls a1_0 a1_1 a1_2 _ _ l1_3 1048576 t354 _ ?side1 ?side2 A4.out).mono ?_); (case side1 => repeat (first | exact (Kd.C_below HR1_3.out HB.out) | (with_reducible refine Kd.C_alloc ?_ _) | (with_reducible refine Kd.C_drewN ?_ _) | (with_reducible refine Kd.C_drew ?_))); (case side2 => exact HC1_3.out); rintro e w10 ⟨rfl, hb⟩; refine ⟨_, rfl, ?_⟩; replace BK352 := bb_ BK352 hb; replace BK353 := bb_ BK353 hb; replace HB := bt_ HB hb; (try clear hb); (try clear hb2); (try clear hk); (try clear hi)))
  go_ret
  exact ⟨by first | rfl | (simp [errW_none, errW_some] <;> rfl) | (simp [*, errW_none, errW_some] <;> rfl), by repeat (first | (with_reducible first | exact HB.out | apply below_alloc | apply pw_below_drewN | apply below_drew1 | refine below_set ?_ GE352.out | refine below_set ?_ GE353.out) | exact HB.out)⟩
 ·rw [if_neg c5] at H
  have c5b0 : decide (t354 < 0) = false := decide_eq_false c5
  clear c5
  replace H := Option.bind_eq_some_iff.mp H
  obtain ⟨t355, A110, H⟩ := H
  have A11 := Aside0.mk A110
  clear A110
  by_cases c12 : t355 < 0
  ·rw [if_pos c12] at H
   have c12b0 : decide (t355 < 0) = true := decide_eq_true c12
   clear c12
   obtain rfl := Option.some.inj H
   go_enter Try.func4, Try.ntmps4
   go_wp2_with (first | ((with_reducible refine gate_dst (N := 4) rfl ?_); refine bx_ 4 #[.int .i64 a1_0, .int .i64 a1_1, .int .i64 a1_2, .slice A1_3 l1_3.length c1_3] 26 ?_; intro gb352 hg w13 hbox hb; have BK352 := Aside0.mk (hbox); have GW352 := bs_ HB hg; have GE352 := bs_ HB hg; replace HB := bt_ HB hb; clear hb hbox hg) | ((with_reducible refine gate_dst (N := 5) rfl ?_); refine bx_ 5 #[.int .i64 a2_0, .int .i64 a2_1, .int .i64 a2_2, .slice A2_3 l2_3.length c2_3] 26 ?_; intro gb353 hg w14 hbox hb; have BK353 := Aside0.mk (hbox); have GW353 := bs_ HB hg; have GE353 := bs_ HB hg; have NB352_353 := bm_ BK352 hg; have NB353_352 := bn_ BK352 hg; replace BK352 := bb_ BK352 hb; replace HB := bt_ HB hb; clear hb hbox hg; have hnb15 := NB352_353.out; have hnc15 := NB353_352.out; have hcz16_0 : w14.cell? ⟨gb352, 0, none⟩ = some (.int .i64 a1_0) := cz_ BK352 0; have hcz16_1 : w14.cell? ⟨gb352, 1, none⟩ = some (.int .i64 a1_1) := cz_ BK352 1; have hcz16_2 : w14.cell? ⟨gb352, 2, none⟩ = some (.int .i64 a1_2) := cz_ BK352 2; have hcz16_3 : w14.cell? ⟨gb352, 3, none⟩ = some (.slice A1_3 l1_3.length c1_3) := cz_ BK352 3; have hfz16_0 := fz_ BK352 0; have hfz16_1 := fz_ BK352 1; have hfz16_2 := fz_ BK352 2; have hfz16_3 := fz_ BK352 3) | ((with_reducible refine gate_callee (f := 7) rfl ?_); refine ge_ 21 Try.func7 #[.agg #[.int .i64 a1_0, .int .i64 a1_1, .int .i64 a1_2, .slice A1_3 l1_3.length c1_3], .int .i64 1048576] ?_; (with_reducible refine (laws_szMeasure.calls a1_0 a1_1 a1_2 _ _ l1_3 1048576 t354 _ ?side1 ?side2 A4.out).mono ?_); (case side1 => repeat (first | exact (Kd.C_below HR1_3.out HB.out) | (with_reducible refine Kd.C_alloc ?_ _) | (with_reducible refine Kd.C_drewN ?_ _) | (with_reducible refine Kd.C_drew ?_))); (case side2 => exact HC1_3.out); rintro e w17 ⟨rfl, hb⟩; refine ⟨_, rfl, ?_⟩; replace BK352 := bb_ BK352 hb; replace BK353 := bb_ BK353 hb; replace HB := bt_ HB hb; (try clear hb); (try clear hb2); (try clear hk); (try clear hi); have hcz18_0 : w17.cell? ⟨gb353, 0, none⟩ = some (.int .i64 a2_0) := cz_ BK353 0; have hcz18_1 : w17.cell? ⟨gb353, 1, none⟩ = some (.int .i64 a2_1) := cz_ BK353 1; have hcz18_2 : w17.cell? ⟨gb353, 2, none⟩ = some (.int .i64 a2_2) := cz_ BK353 2; have hcz18_3 : w17.cell? ⟨gb353, 3, none⟩ = some (.slice A2_3 l2_3.length c2_3) := cz_ BK353 3; have hfz18_0 := fz_ BK353 0; have hfz18_1 := fz_ BK353 1; have hfz18_2 := fz_ BK353 2; have hfz18_3 := fz_ BK353 3) | ((with_reducible refine gate_callee (f := 7) rfl ?_); refine ge_ 26 Try.func7 #[.agg #[.int .i64 a2_0, .int .i64 a2_1, .int .i64 a2_2, .slice A2_3 l2_3.length c2_3], .int .i64 t354] ?_; (with_reducible refine (laws_szMeasure.calls a2_0 a2_1 a2_2 _ _ l2_3 t354 t355 _ ?side1 ?side2 A11.out).mono ?_); (case side1 => repeat (first | exact (Kd.C_below HR2_3.out HB.out) | (with_reducible refine Kd.C_alloc ?_ _) | (with_reducible refine Kd.C_drewN ?_ _) | (with_reducible refine Kd.C_drew ?_))); (case side2 => exact HC2_3.out); rintro e w19 ⟨rfl, hb⟩; refine ⟨_, rfl, ?_⟩; replace BK352 := bb_ BK352 hb; replace BK353 := bb_ BK353 hb; replace HB := bt_ HB hb; (try clear hb); (try clear hb2); (try clear hk); (try clear hi)))
   go_ret
   exact ⟨by first | rfl | (simp [errW_none, errW_some] <;> rfl) | (simp [*, errW_none, errW_some] <;> rfl), by repeat (first | (with_reducible first | exact HB.out | apply below_alloc | apply pw_below_drewN | apply below_drew1 | refine below_set ?_ GE352.out | refine below_set ?_ GE353.out) | exact HB.out)⟩
  ·rw [if_neg c12] at H
   have c12b0 : decide (t355 < 0) = false := decide_eq_false c12
   clear c12
   replace H := Option.bind_eq_some_iff.mp H
   obtain ⟨⟨t356, t357, t358, t359⟩, A200, H⟩ := H
   have A20 := Aside0.mk A200
   clear A200
   replace H := Option.bind_eq_some_iff.mp H
   obtain ⟨⟨t362, t363, t364, t365⟩, A210, H⟩ := H
   have A21 := Aside0.mk A210
   clear A210
   replace H := Option.bind_eq_some_iff.mp H
   obtain ⟨⟨t368, t369, t370, t371, t374⟩, A220, H⟩ := H
   have A22 := Aside0.mk A220
   clear A220
   replace H := Option.bind_eq_some_iff.mp H
   obtain ⟨⟨t376, t377, t378, t379⟩, A230, H⟩ := H
   have A23 := Aside0.mk A230
   clear A230
   replace H := Option.bind_eq_some_iff.mp H
   obtain ⟨⟨t383, t384, t385, t386⟩, A240, H⟩ := H
   have A24 := Aside0.mk A240
   clear A240
   replace H := Option.bind_eq_some_iff.mp H
   obtain ⟨⟨t390, t391, t392, t393, t396⟩, A250, H⟩ := H
   have A25 := Aside0.mk A250
   clear A250
   replace H := Option.bind_eq_some_iff.mp H
   obtain ⟨t398, A260, H⟩ := H
   have A26 := Aside0.mk A260
   clear A260
   by_cases c27 : t398 = true
   ·subst c27
    have H1 : (if t396 = t374 then ((laws_toMeasure.f k a1_0 a1_1 a1_2 l1_3).bind fun bt399 => ((laws_eqMeasure.f k t376 t377 t378 t379 bt399.1 bt399.2.1 bt399.2.2.1 bt399.2.2.2).bind fun t405 => (if t405 = true then ((laws_toMeasure.f k a2_0 a2_1 a2_2 l2_3).bind fun bt406 => ((laws_eqMeasure.f k t383 t384 t385 t386 bt406.1 bt406.2.1 bt406.2.2.1 bt406.2.2.2).bind fun t412 => (if t412 = true then ((laws_markMeasure.f k t376 t377 t378 t379 1).bind fun bt413 => ((laws_markMeasure.f k t383 t384 t385 t386 bt413.1).bind fun bt415 => (if bt415.1 < 0 then (none) else ((laws_eqMeasure.f k t390 t391 t392 t393 t368 t369 t370 t371).bind fun t417 => (if t417 = true then ((laws_markMeasure.f k t390 t391 t392 t393 1).bind fun bt418 => ((laws_heldMeasure.f k t390 t391 t392 bt418.2 1).bind fun t420 => (if t420 < 0 then (none) else (if t420 = bt418.1 then ((laws_toMeasure.f k a1_0 a1_1 a1_2 l1_3).bind fun bt421 => ((laws_toMeasure.f k a2_0 a2_1 a2_2 l2_3).bind fun bt427 => ((impl_AddMeasures.f k a0 bt421.1 bt421.2.1 bt421.2.2.1 bt421.2.2.2 bt427.1 bt427.2.1 bt427.2.2.1 bt427.2.2.2).bind fun bt433 => ((laws_eqMeasure.f k bt433.1 bt433.2.1 bt433.2.2.1 bt433.2.2.2.1 t368 t369 t370 t371).bind fun t441 => (if t441 = true then (if bt433.2.2.2.2 = t374 then ((laws_heldMeasure.f k t390 t391 t392 bt418.2 1).bind fun t442 => (if t442 < 0 then (none) else (if t442 = bt418.1 then (some true) else (none)))) else (none)) else (none)))))) else (none))))) else (none)))))) else (none)))) else (none)))) else (none)) = some r := by rw [if_pos rfl] at H; exact H
    clear H
    have H := H1
    clear H1
    by_cases c28 : t396 = t374
    ·rw [if_pos c28] at H
     have c28b0 : (t396 == t374) = true := beq_iff_eq.mpr c28
     have c28b1 : (t396 != t374) = false := bne_eq_false_iff_eq.mpr c28
     clear c28
     replace H := Option.bind_eq_some_iff.mp H
     obtain ⟨⟨t399, t400, t401, t402⟩, A290, H⟩ := H
     have A29 := Aside0.mk A290
     clear A290
     replace H := Option.bind_eq_some_iff.mp H
     obtain ⟨t405, A300, H⟩ := H
     have A30 := Aside0.mk A300
     clear A300
     by_cases c31 : t405 = true
     ·subst c31
      have H1 : ((laws_toMeasure.f k a2_0 a2_1 a2_2 l2_3).bind fun bt406 => ((laws_eqMeasure.f k t383 t384 t385 t386 bt406.1 bt406.2.1 bt406.2.2.1 bt406.2.2.2).bind fun t412 => (if t412 = true then ((laws_markMeasure.f k t376 t377 t378 t379 1).bind fun bt413 => ((laws_markMeasure.f k t383 t384 t385 t386 bt413.1).bind fun bt415 => (if bt415.1 < 0 then (none) else ((laws_eqMeasure.f k t390 t391 t392 t393 t368 t369 t370 t371).bind fun t417 => (if t417 = true then ((laws_markMeasure.f k t390 t391 t392 t393 1).bind fun bt418 => ((laws_heldMeasure.f k t390 t391 t392 bt418.2 1).bind fun t420 => (if t420 < 0 then (none) else (if t420 = bt418.1 then ((laws_toMeasure.f k a1_0 a1_1 a1_2 l1_3).bind fun bt421 => ((laws_toMeasure.f k a2_0 a2_1 a2_2 l2_3).bind fun bt427 => ((impl_AddMeasures.f k a0 bt421.1 bt421.2.1 bt421.2.2.1 bt421.2.2.2 bt427.1 bt427.2.1 bt427.2.2.1 bt427.2.2.2).bind fun bt433 => ((laws_eqMeasure.f k bt433.1 bt433.2.1 bt433.2.2.1 bt433.2.2.2.1 t368 t369 t370 t371).bind fun t441 => (if t441 = true then (if bt433.2.2.2.2 = t374 then ((laws_heldMeasure.f k t390 t391 t392 bt418.2 1).bind fun t442 => (if t442 < 0 then (none) else (if t442 = bt418.1 then (some true) else (none)))) else (none)) else (none)))))) else (none))))) else (none)))))) else (none)))) = some r := by rw [if_pos rfl] at H; exact H
      clear H
      have H := H1
      clear H1
      replace H := Option.bind_eq_some_iff.mp H
      obtain ⟨⟨t406, t407, t408, t409⟩, A320, H⟩ := H
      have A32 := Aside0.mk A320
      clear A320
      replace H := Option.bind_eq_some_iff.mp H
      obtain ⟨t412, A330, H⟩ := H
      have A33 := Aside0.mk A330
      clear A330
      by_cases c34 : t412 = true
      ·subst c34
       have H1 : ((laws_markMeasure.f k t376 t377 t378 t379 1).bind fun bt413 => ((laws_markMeasure.f k t383 t384 t385 t386 bt413.1).bind fun bt415 => (if bt415.1 < 0 then (none) else ((laws_eqMeasure.f k t390 t391 t392 t393 t368 t369 t370 t371).bind fun t417 => (if t417 = true then ((laws_markMeasure.f k t390 t391 t392 t393 1).bind fun bt418 => ((laws_heldMeasure.f k t390 t391 t392 bt418.2 1).bind fun t420 => (if t420 < 0 then (none) else (if t420 = bt418.1 then ((laws_toMeasure.f k a1_0 a1_1 a1_2 l1_3).bind fun bt421 => ((laws_toMeasure.f k a2_0 a2_1 a2_2 l2_3).bind fun bt427 => ((impl_AddMeasures.f k a0 bt421.1 bt421.2.1 bt421.2.2.1 bt421.2.2.2 bt427.1 bt427.2.1 bt427.2.2.1 bt427.2.2.2).bind fun bt433 => ((laws_eqMeasure.f k bt433.1 bt433.2.1 bt433.2.2.1 bt433.2.2.2.1 t368 t369 t370 t371).bind fun t441 => (if t441 = true then (if bt433.2.2.2.2 = t374 then ((laws_heldMeasure.f k t390 t391 t392 bt418.2 1).bind fun t442 => (if t442 < 0 then (none) else (if t442 = bt418.1 then (some true) else (none)))) else (none)) else (none)))))) else (none))))) else (none)))))) = some r := by rw [if_pos rfl] at H; exact H
       clear H
       have H := H1
       clear H1
       replace H := Option.bind_eq_some_iff.mp H
       obtain ⟨⟨t413, t414⟩, A350, H⟩ := H
       have A35 := Aside0.mk A350
       clear A350
       replace H := Option.bind_eq_some_iff.mp H
       obtain ⟨⟨t415, t416⟩, A360, H⟩ := H
       have A36 := Aside0.mk A360
       clear A360
       by_cases c37 : t415 < 0
       ·rw [if_pos c37] at H
        exact absurd H (by simp)
       ·rw [if_neg c37] at H
        have c37b0 : decide (t415 < 0) = false := decide_eq_false c37
        clear c37
        replace H := Option.bind_eq_some_iff.mp H
        obtain ⟨t417, A380, H⟩ := H
        have A38 := Aside0.mk A380
        clear A380
        by_cases c39 : t417 = true
        ·subst c39
         have H1 : ((laws_markMeasure.f k t390 t391 t392 t393 1).bind fun bt418 => ((laws_heldMeasure.f k t390 t391 t392 bt418.2 1).bind fun t420 => (if t420 < 0 then (none) else (if t420 = bt418.1 then ((laws_toMeasure.f k a1_0 a1_1 a1_2 l1_3).bind fun bt421 => ((laws_toMeasure.f k a2_0 a2_1 a2_2 l2_3).bind fun bt427 => ((impl_AddMeasures.f k a0 bt421.1 bt421.2.1 bt421.2.2.1 bt421.2.2.2 bt427.1 bt427.2.1 bt427.2.2.1 bt427.2.2.2).bind fun bt433 => ((laws_eqMeasure.f k bt433.1 bt433.2.1 bt433.2.2.1 bt433.2.2.2.1 t368 t369 t370 t371).bind fun t441 => (if t441 = true then (if bt433.2.2.2.2 = t374 then ((laws_heldMeasure.f k t390 t391 t392 bt418.2 1).bind fun t442 => (if t442 < 0 then (none) else (if t442 = bt418.1 then (some true) else (none)))) else (none)) else (none)))))) else (none))))) = some r := by rw [if_pos rfl] at H; exact H
         clear H
         have H := H1
         clear H1
         replace H := Option.bind_eq_some_iff.mp H
         obtain ⟨⟨t418, t419⟩, A400, H⟩ := H
         have A40 := Aside0.mk A400
         clear A400
         replace H := Option.bind_eq_some_iff.mp H
         obtain ⟨t420, A410, H⟩ := H
         have A41 := Aside0.mk A410
         clear A410
         by_cases c42 : t420 < 0
         ·rw [if_pos c42] at H
          exact absurd H (by simp)
         ·rw [if_neg c42] at H
          have c42b0 : decide (t420 < 0) = false := decide_eq_false c42
          clear c42
          by_cases c43 : t420 = t418
          ·rw [if_pos c43] at H
           have c43b0 : (t420 == t418) = true := beq_iff_eq.mpr c43
           have c43b1 : (t420 != t418) = false := bne_eq_false_iff_eq.mpr c43
           clear c43
           replace H := Option.bind_eq_some_iff.mp H
           obtain ⟨⟨t421, t422, t423, t424⟩, A440, H⟩ := H
           have A44 := Aside0.mk A440
           clear A440
           replace H := Option.bind_eq_some_iff.mp H
           obtain ⟨⟨t427, t428, t429, t430⟩, A450, H⟩ := H
           have A45 := Aside0.mk A450
           clear A450
           replace H := Option.bind_eq_some_iff.mp H
           obtain ⟨⟨t433, t434, t435, t436, t439⟩, A460, H⟩ := H
           have A46 := Aside0.mk A460
           clear A460
           replace H := Option.bind_eq_some_iff.mp H
           obtain ⟨t441, A470, H⟩ := H
           have A47 := Aside0.mk A470
           clear A470
           by_cases c48 : t441 = true
           ·subst c48
            have H1 : (if t439 = t374 then ((laws_heldMeasure.f k t390 t391 t392 t419 1).bind fun t442 => (if t442 < 0 then (none) else (if t442 = t418 then (some true) else (none)))) else (none)) = some r := by rw [if_pos rfl] at H; exact H
            clear H
            have H := H1
            clear H1
            by_cases c49 : t439 = t374
            ·rw [if_pos c49] at H
             have c49b0 : (t439 == t374) = true := beq_iff_eq.mpr c49
             have c49b1 : (t439 != t374) = false := bne_eq_false_iff_eq.mpr c49
             clear c49
             replace H := Option.bind_eq_some_iff.mp H
             obtain ⟨t442, A500, H⟩ := H
             have A50 := Aside0.mk A500
             clear A500
             by_cases c51 : t442 < 0
             ·rw [if_pos c51] at H
              exact absurd H (by simp)
             ·rw [if_neg c51] at H
              have c51b0 : decide (t442 < 0) = false := decide_eq_false c51
              clear c51
              by_cases c52 : t442 = t418
              ·rw [if_pos c52] at H
               have c52b0 : (t442 == t418) = true := beq_iff_eq.mpr c52
               have c52b1 : (t442 != t418) = false := bne_eq_false_iff_eq.mpr c52
               clear c52
               obtain rfl := Option.some.inj H
               go_enter Try.func4, Try.ntmps4
               try go_wp2_with (first | ((with_reducible refine gate_dst (N := 4) rfl ?_); refine bx_ 4 #[.int .i64 a1_0, .int .i64 a1_1, .int .i64 a1_2, .slice A1_3 l1_3.length c1_3] 26 ?_; intro gb352 hg w53 hbox hb; have BK352 := Aside0.mk (hbox); have GW352 := bs_ HB hg; have GE352 := bs_ HB hg; replace HB := bt_ HB hb; clear hb hbox hg) | ((with_reducible refine gate_dst (N := 5) rfl ?_); refine bx_ 5 #[.int .i64 a2_0, .int .i64 a2_1, .int .i64 a2_2, .slice A2_3 l2_3.length c2_3] 26 ?_; intro gb353 hg w54 hbox hb; have BK353 := Aside0.mk (hbox); have GW353 := bs_ HB hg; have GE353 := bs_ HB hg; have NB352_353 := bm_ BK352 hg; have NB353_352 := bn_ BK352 hg; replace BK352 := bb_ BK352 hb; replace HB := bt_ HB hb; clear hb hbox hg; have hnb55 := NB352_353.out; have hnc55 := NB353_352.out; have hcz56_0 : w54.cell? ⟨gb352, 0, none⟩ = some (.int .i64 a1_0) := cz_ BK352 0; have hcz56_1 : w54.cell? ⟨gb352, 1, none⟩ = some (.int .i64 a1_1) := cz_ BK352 1; have hcz56_2 : w54.cell? ⟨gb352, 2, none⟩ = some (.int .i64 a1_2) := cz_ BK352 2; have hcz56_3 : w54.cell? ⟨gb352, 3, none⟩ = some (.slice A1_3 l1_3.length c1_3) := cz_ BK352 3; have hfz56_0 := fz_ BK352 0; have hfz56_1 := fz_ BK352 1; have hfz56_2 := fz_ BK352 2; have hfz56_3 := fz_ BK352 3) | ((with_reducible refine gate_callee (f := 7) rfl ?_); refine ge_ 21 Try.func7 #[.agg #[.int .i64 a1_0, .int .i64 a1_1, .int .i64 a1_2, .slice A1_3 l1_3.length c1_3], .int .i64 1048576] ?_; (with_reducible refine (laws_szMeasure.calls a1_0 a1_1 a1_2 _ _ l1_3 1048576 t354 _ ?side1 ?side2 A4.out).mono ?_); (case side1 => repeat (first | exact (Kd.C_below HR1_3.out HB.out) | (with_reducible refine Kd.C_alloc ?_ _) | (with_reducible refine Kd.C_drewN ?_ _) | (with_reducible refine Kd.C_drew ?_))); (case side2 => exact HC1_3.out); rintro e w57 ⟨rfl, hb⟩; refine ⟨_, rfl, ?_⟩; replace BK352 := bb_ BK352 hb; replace BK353 := bb_ BK353 hb; replace HB := bt_ HB hb; (try clear hb); (try clear hb2); (try clear hk); (try clear hi); have hcz58_0 : w57.cell? ⟨gb353, 0, none⟩ = some (.int .i64 a2_0) := cz_ BK353 0; have hcz58_1 : w57.cell? ⟨gb353, 1, none⟩ = some (.int .i64 a2_1) := cz_ BK353 1; have hcz58_2 : w57.cell? ⟨gb353, 2, none⟩ = some (.int .i64 a2_2) := cz_ BK353 2; have hcz58_3 : w57.cell? ⟨gb353, 3, none⟩ = some (.slice A2_3 l2_3.length c2_3) := cz_ BK353 3; have hfz58_0 := fz_ BK353 0; have hfz58_1 := fz_ BK353 1; have hfz58_2 := fz_ BK353 2; have hfz58_3 := fz_ BK353 3) | ((with_reducible refine gate_callee (f := 7) rfl ?_); refine ge_ 26 Try.func7 #[.agg #[.int .i64 a2_0, .int .i64 a2_1, .int .i64 a2_2, .slice A2_3 l2_3.length c2_3], .int .i64 t354] ?_; (with_reducible refine (laws_szMeasure.calls a2_0 a2_1 a2_2 _ _ l2_3 t354 t355 _ ?side1 ?side2 A11.out).mono ?_); (case side1 => repeat (first | exact (Kd.C_below HR2_3.out HB.out) | (with_reducible refine Kd.C_alloc ?_ _) | (with_reducible refine Kd.C_drewN ?_ _) | (with_reducible refine Kd.C_drew ?_))); (case side2 => exact HC2_3.out); rintro e w59 ⟨rfl, hb⟩; refine ⟨_, rfl, ?_⟩; replace BK352 := bb_ BK352 hb; replace BK353 := bb_ BK353 hb; replace HB := bt_ HB hb; (try clear hb); (try clear hb2); (try clear hk); (try clear hi)))
               replace BK352 := Aside0.mk (blk_drew BK352.out)
               replace BK353 := Aside0.mk (blk_drew BK353.out)
               replace HB := Aside0.mk (below_drew1 HB.out)
               refine start_ (n := 12) (S := fun w' => w'.cell? ⟨gb352, 0, none⟩ = some (.int .i64 a1_0) ∧ w'.cell? ⟨gb352, 1, none⟩ = some (.int .i64 a1_1) ∧ w'.cell? ⟨gb352, 2, none⟩ = some (.int .i64 a1_2) ∧ w'.cell? ⟨gb352, 3, none⟩ = some (.slice A1_3 l1_3.length c1_3) ∧ w'.cell? ⟨gb353, 0, none⟩ = some (.int .i64 a2_0) ∧ w'.cell? ⟨gb353, 1, none⟩ = some (.int .i64 a2_1) ∧ w'.cell? ⟨gb353, 2, none⟩ = some (.int .i64 a2_2) ∧ w'.cell? ⟨gb353, 3, none⟩ = some (.slice A2_3 l2_3.length c2_3)) (ds := []) (bv_ 12 0) (by kernel_rfl) rfl rfl ⟨(blk_cell BK352.out 0).trans rfl, (blk_cell BK352.out 1).trans rfl, (blk_cell BK352.out 2).trans rfl, (blk_cell BK352.out 3).trans rfl, (blk_cell BK353.out 0).trans rfl, (blk_cell BK353.out 1).trans rfl, (blk_cell BK353.out 2).trans rfl, (blk_cell BK353.out 3).trans rfl⟩ (fun hHeld => ?_); refine with_tabW laws_FnExactAddMeasures.tab8 laws_FnExactAddMeasures.bits8 (fun HT_ HW_ => ?_)
               generalize w59.drew = w60 at BK352 BK353 HB hHeld ⊢
               refine pu_ HT_ 0 (some 30) (bv_ 12 1) ?_
               refine ta_ HT_ HW_ 1 (some 31) (bv_ 12 3) hHeld ?_ (hy := by rintro w' ⟨s0, s1, s2, s3, s4, s5, s6, s7⟩; go_simp; with_reducible rfl)
               refine ta_ HT_ HW_ 3 (some 33) (bv_ 12 11) hHeld ?_ (hy := by rintro w' ⟨s0, s1, s2, s3, s4, s5, s6, s7⟩; go_simp; with_reducible rfl)
               refine join_ (σ := Value × Value × Value × Nat) 2 (bv_ 12 1023) (fun s_ => [(32, .agg #[.int .i64 t356, .int .i64 t357, .int .i64 t358, s_.1]), (34, .agg #[.int .i64 t362, .int .i64 t363, .int .i64 t364, s_.2.1]), (35, .tuple #[.agg #[.int .i64 t368, .int .i64 t369, .int .i64 t370, s_.2.2.1], .int .i64 t374]), (8, .pointer (some ⟨s_.2.2.2, 0, none⟩)), (29, .tuple #[.agg #[.int .i64 t368, .int .i64 t369, .int .i64 t370, s_.2.2.1], .int .i64 t374]), (36, .agg #[.int .i64 t368, .int .i64 t369, .int .i64 t370, s_.2.2.1]), (37, .int .i64 t374)]) (fun s_ w' => (w'.cell? ⟨gb352, 0, none⟩ = some (.int .i64 a1_0) ∧ w'.cell? ⟨gb352, 1, none⟩ = some (.int .i64 a1_1) ∧ w'.cell? ⟨gb352, 2, none⟩ = some (.int .i64 a1_2) ∧ w'.cell? ⟨gb352, 3, none⟩ = some (.slice A1_3 l1_3.length c1_3) ∧ w'.cell? ⟨gb353, 0, none⟩ = some (.int .i64 a2_0) ∧ w'.cell? ⟨gb353, 1, none⟩ = some (.int .i64 a2_1) ∧ w'.cell? ⟨gb353, 2, none⟩ = some (.int .i64 a2_2) ∧ w'.cell? ⟨gb353, 3, none⟩ = some (.slice A2_3 l2_3.length c2_3)) ∧ (Kd.R k63 63 w' w.heap.size (fun k_ => some k_ ≠ (s_.2.1 : Value).ownBlock ∧ some k_ ≠ (s_.2.2.1 : Value).ownBlock) s_.1 t359) ∧ (Kd.R k63 63 w' w.heap.size (fun k_ => some k_ ≠ (s_.1 : Value).ownBlock ∧ some k_ ≠ (s_.2.2.1 : Value).ownBlock) s_.2.1 t365) ∧ (Kd.R k63 63 w' w.heap.size (fun k_ => some k_ ≠ (s_.1 : Value).ownBlock ∧ some k_ ≠ (s_.2.1 : Value).ownBlock) s_.2.2.1 t371) ∧ (w'.heap[gb352]? = some (.cells #[.int .i64 a1_0, .int .i64 a1_1, .int .i64 a1_2, .slice A1_3 l1_3.length c1_3] 26 (0, 0))) ∧ (w'.heap[gb353]? = some (.cells #[.int .i64 a2_0, .int .i64 a2_1, .int .i64 a2_2, .slice A2_3 l2_3.length c2_3] 26 (0, 0))) ∧ (w'.heap[s_.2.2.2]? = some (.cells #[.int .i64 0, .int .i64 0, .int .i64 0, .slice none 0 0] 33 (0, 0))) ∧ (w.heap.size ≤ s_.2.2.2) ∧ (w.heap.size ≤ s_.2.2.2) ∧ (gb352 ≠ s_.2.2.2) ∧ (s_.2.2.2 ≠ gb352) ∧ (gb353 ≠ s_.2.2.2) ∧ (s_.2.2.2 ≠ gb353) ∧ (Below w.heap.size w w')) ?_ ?_
               rotate_left
               ·intro hCont
                refine two_ (i := 2) (j := 9) (Ni := some 32) (Nj := some 8) (bv_ 12 15) (bv_ 12 523) rfl rfl rfl rfl (two_of HT_.out (by kernel_rfl)) (by decide) (by decide) (fun K hK => ?_) (fun K hK => ?_)
                ·skip
                 refine goes_ Try.func9 (by kernel_rfl) rfl #[.agg #[.int .i64 a1_0, .int .i64 a1_1, .int .i64 a1_2, .slice A1_3 l1_3.length c1_3]] (by rfl) rfl rfl (by (try simp only [List.map_toArray, List.map_cons, List.map_nil]); first | done | rfl | (simp only [List.length_drop, List.length_take]; rfl)) ?_
                 with_reducible refine (laws_toMeasure.calls k a1_0 a1_1 a1_2 _ _ l1_3 t356 t357 t358 t359 _ ?side1 ?side2 A20.out).mono ?_
                 (case side1 => repeat (first | exact (Kd.C_below HR1_3.out HB.out) | (with_reducible refine Kd.C_alloc ?_ _) | (with_reducible refine Kd.C_drewN ?_ _) | (with_reducible refine Kd.C_drew ?_)))
                 (case side2 => exact HC1_3.out)
                 rintro e w61 ⟨v360, rfl, ho0, hb⟩
                 refine ⟨_, rfl, ?_⟩
                 have HO361 := Aside0.mk (Kd.R_lower ho0 (below_size (bw_ HB).out))
                 replace BK352 := bb_ BK352 hb
                 replace BK353 := bb_ BK353 hb
                 replace HB := bt_ HB hb
                 (try clear hb)
                 (try clear hb2)
                 (try clear hk)
                 (try clear hi)
                 (try clear ho0)
                 refine hK.out _ _ ⟨(blk_cell BK352.out 0).trans rfl, (blk_cell BK352.out 1).trans rfl, (blk_cell BK352.out 2).trans rfl, (blk_cell BK352.out 3).trans rfl, (blk_cell BK353.out 0).trans rfl, (blk_cell BK353.out 1).trans rfl, (blk_cell BK353.out 2).trans rfl, (blk_cell BK353.out 3).trans rfl⟩ (fun hHeld => ?_)
                 clear hK K
                 refine norm_ (a' := ?_) ?_ ?_
                 rotate_left
                 ·show Act.put _ (some 32) _ = _
                  simp only [Act.put, lstS, lstZ, lstC, i64_w, i32_w]
                  rfl
                 refine two_ (i := 4) (j := 9) (Ni := some 34) (Nj := some 8) (bv_ 12 31) (bv_ 12 527) rfl rfl rfl rfl (two_of HT_.out (by kernel_rfl)) (by decide) (by decide) (fun K hK => ?_) (fun K hK => ?_)
                 ·skip
                  refine goes_ Try.func9 (by kernel_rfl) rfl #[.agg #[.int .i64 a2_0, .int .i64 a2_1, .int .i64 a2_2, .slice A2_3 l2_3.length c2_3]] (by rfl) rfl rfl (by (try simp only [List.map_toArray, List.map_cons, List.map_nil]); first | done | rfl | (simp only [List.length_drop, List.length_take]; rfl)) ?_
                  with_reducible refine (laws_toMeasure.calls k a2_0 a2_1 a2_2 _ _ l2_3 t362 t363 t364 t365 _ ?side1 ?side2 A21.out).mono ?_
                  (case side1 => repeat (first | exact (Kd.C_below HR2_3.out HB.out) | (with_reducible refine Kd.C_alloc ?_ _) | (with_reducible refine Kd.C_drewN ?_ _) | (with_reducible refine Kd.C_drew ?_)))
                  (case side2 => exact HC2_3.out)
                  rintro e w62 ⟨v366, rfl, ho0, hb⟩
                  refine ⟨_, rfl, ?_⟩
                  have HO367 := Aside0.mk (Kd.R_lower (Kd.R_new' ho0 (Kd.R_lt (ra_ HO361.out))) (below_size (bw_ HB).out))
                  replace HO361 := Aside0.mk (Kd.R_elder' (ra_ HO361.out) (Kd.R_base ho0) hb)
                  replace BK352 := bb_ BK352 hb
                  replace BK353 := bb_ BK353 hb
                  replace HB := bt_ HB hb
                  (try clear hb)
                  (try clear hb2)
                  (try clear hk)
                  (try clear hi)
                  (try clear ho0)
                  obtain ⟨Ao63, co63, eo63⟩ := Kd.R_slice HO361.out
                  (first | subst eo63 | (injection eo63 with f1_ f2_ f3_; have f4_ := f1_.symm; have f5_ := f3_.symm; clear f1_ f2_ f3_; subst f4_; subst f5_))
                  obtain ⟨Ao64, co64, eo64⟩ := Kd.R_slice HO367.out
                  (first | subst eo64 | (injection eo64 with f1_ f2_ f3_; have f4_ := f1_.symm; have f5_ := f3_.symm; clear f1_ f2_ f3_; subst f4_; subst f5_))
                  refine hK.out _ _ ⟨(blk_cell BK352.out 0).trans rfl, (blk_cell BK352.out 1).trans rfl, (blk_cell BK352.out 2).trans rfl, (blk_cell BK352.out 3).trans rfl, (blk_cell BK353.out 0).trans rfl, (blk_cell BK353.out 1).trans rfl, (blk_cell BK353.out 2).trans rfl, (blk_cell BK353.out 3).trans rfl⟩ (fun hHeld => ?_)
                  clear hK K
                  refine norm_ (a' := ?_) ?_ ?_
                  rotate_left
                  ·show Act.put _ (some 34) _ = _
                   simp only [Act.put, lstS, lstZ, lstC, i64_w, i32_w]
                   rfl
                  refine two_ (i := 5) (j := 9) (Ni := some 35) (Nj := some 8) (bv_ 12 63) (bv_ 12 543) rfl rfl rfl rfl (two_of HT_.out (by kernel_rfl)) (by decide) (by decide) (fun K hK => ?_) (fun K hK => ?_)
                  ·skip
                   refine goes_ Try.func13 (by kernel_rfl) rfl #[.int .i64 a0, .agg #[.int .i64 t356, .int .i64 t357, .int .i64 t358, .slice Ao63 t359.length co63], .agg #[.int .i64 t362, .int .i64 t363, .int .i64 t364, .slice Ao64 t365.length co64]] (by rfl) rfl rfl (by (try simp only [List.map_toArray, List.map_cons, List.map_nil]); first | done | rfl | (simp only [List.length_drop, List.length_take]; rfl)) ?_
                   with_reducible refine (spec_AddMeasures.calls k a0 t356 t357 t358 _ _ t359 t362 t363 t364 _ _ t365 t368 t369 t370 t371 t374 _ ?side1 ?side2 ?side3 ?side4 A22.out).mono ?_
                   (case side1 => repeat (first | exact (Kd.R_reads' HO361.out).2.2 | (with_reducible refine Kd.C_alloc ?_ _) | (with_reducible refine Kd.C_drewN ?_ _) | (with_reducible refine Kd.C_drew ?_)))
                   (case side2 => exact (Kd.R_reads' HO361.out).2.1)
                   (case side3 => repeat (first | exact (Kd.R_reads' HO367.out).2.2 | (with_reducible refine Kd.C_alloc ?_ _) | (with_reducible refine Kd.C_drewN ?_ _) | (with_reducible refine Kd.C_drew ?_)))
                   (case side4 => exact (Kd.R_reads' HO367.out).2.1)
                   rintro e w65 ⟨v372, rfl, ho0, hb⟩
                   refine ⟨_, rfl, ?_⟩
                   have HO373 := Aside0.mk (Kd.R_lower (Kd.R_new' (Kd.R_new' ho0 (Kd.R_lt (ra_ HO361.out))) (Kd.R_lt (ra_ HO367.out))) (below_size (bw_ HB).out))
                   replace HO361 := Aside0.mk (Kd.R_elder' (ra_ HO361.out) (Kd.R_base ho0) hb)
                   replace HO367 := Aside0.mk (Kd.R_elder' (ra_ HO367.out) (Kd.R_base ho0) hb)
                   replace BK352 := bb_ BK352 hb
                   replace BK353 := bb_ BK353 hb
                   replace HB := bt_ HB hb
                   (try clear hb)
                   (try clear hb2)
                   (try clear hk)
                   (try clear hi)
                   (try clear ho0)
                   refine hK.out _ _ ⟨(blk_cell BK352.out 0).trans rfl, (blk_cell BK352.out 1).trans rfl, (blk_cell BK352.out 2).trans rfl, (blk_cell BK352.out 3).trans rfl, (blk_cell BK353.out 0).trans rfl, (blk_cell BK353.out 1).trans rfl, (blk_cell BK353.out 2).trans rfl, (blk_cell BK353.out 3).trans rfl⟩ (fun hHeld => ?_)
                   clear hK K
                   refine norm_ (a' := ?_) ?_ ?_
                   rotate_left
                   ·show Act.put _ (some 35) _ = _
                    simp only [Act.put, lstS, lstZ, lstC, i64_w, i32_w]
                    rfl
                   refine pu_ HT_ 6 (some 29) (bv_ 12 127) ?_
                   refine pu_ HT_ 7 (some 36) (bv_ 12 255) ?_
                   refine pu_ HT_ 8 (some 37) (bv_ 12 511) ?_
                   refine one_ (i := 9) (N := some 8) (bv_ 12 1023) rfl rfl (one_of HT_.out (by kernel_rfl)) (by decide) (fun K hK => ?_)
                   refine box_step ?hg (N := 8) ?hd (cs := #[.int .i64 0, .int .i64 0, .int .i64 0, .slice none 0 0]) (t := 33) ?hr ?_; (case hd => rfl); (case hg => rfl); (case hr => first | (go_simp; done) | (go_simp; rfl))
                   intro gb375 hg w66 hbox hb
                   have BK375 := Aside0.mk (hbox)
                   have GW375 := bs_ HB hg
                   have GE375 := bs_ HB hg
                   have NB352_375 := bm_ BK352 hg
                   have NB375_352 := bn_ BK352 hg
                   have NB353_375 := bm_ BK353 hg
                   have NB375_353 := bn_ BK353 hg
                   replace HO361 := Aside0.mk (Kd.R_below (ra_ HO361.out) hb)
                   replace HO367 := Aside0.mk (Kd.R_below (ra_ HO367.out) hb)
                   replace HO373 := Aside0.mk (Kd.R_below (ra_ HO373.out) hb)
                   replace BK352 := bb_ BK352 hb
                   replace BK353 := bb_ BK353 hb
                   replace HB := bt_ HB hb
                   clear hb hbox hg
                   refine hK.out _ _ ⟨(blk_cell BK352.out 0).trans rfl, (blk_cell BK352.out 1).trans rfl, (blk_cell BK352.out 2).trans rfl, (blk_cell BK352.out 3).trans rfl, (blk_cell BK353.out 0).trans rfl, (blk_cell BK353.out 1).trans rfl, (blk_cell BK353.out 2).trans rfl, (blk_cell BK353.out 3).trans rfl⟩ (fun hHeld => ?_)
                   clear hK K
                   refine norm_ (a' := ?_) ?_ ?_
                   rotate_left
                   ·show Act.put _ (some 8) _ = _
                    simp only [Act.put, lstS, lstZ, lstC, i64_w, i32_w]
                    rfl
                   exact norm_ (by simp only [putAll, Act.put, lstS, lstZ, lstC]) (hCont (.slice Ao63 t359.length co63, .slice Ao64 t365.length co64, v372, gb375) _ ⟨hHeld, (by (with_reducible repeat (first | apply Kd.R_alloc | apply Kd.R_drewN | apply Kd.R_drew)); exact Kd.R_mono HO361.out (fun _ hk => ⟨hk.1.2, hk.2⟩)), (by (with_reducible repeat (first | apply Kd.R_alloc | apply Kd.R_drewN | apply Kd.R_drew)); exact Kd.R_mono HO367.out (fun _ hk => ⟨hk.1.2, hk.2⟩)), (by (with_reducible repeat (first | apply Kd.R_alloc | apply Kd.R_drewN | apply Kd.R_drew)); exact Kd.R_mono HO373.out (fun _ hk => ⟨hk.1.2, hk.2⟩)), (bl_ BK352).out, (bl_ BK353).out, (bl_ BK375).out, GW375.out, GE375.out, NB352_375.out, NB375_352.out, NB353_375.out, NB375_353.out, (bw_ HB).out⟩)
                  ·skip
                   refine box_step ?hg (N := 8) ?hd (cs := #[.int .i64 0, .int .i64 0, .int .i64 0, .slice none 0 0]) (t := 33) ?hr ?_; (case hd => rfl); (case hg => rfl); (case hr => first | (go_simp; done) | (go_simp; rfl))
                   intro gb375 hg w63 hbox hb
                   have BK375 := Aside0.mk (hbox)
                   have GW375 := bs_ HB hg
                   have GE375 := bs_ HB hg
                   have NB352_375 := bm_ BK352 hg
                   have NB375_352 := bn_ BK352 hg
                   have NB353_375 := bm_ BK353 hg
                   have NB375_353 := bn_ BK353 hg
                   replace HO361 := Aside0.mk (Kd.R_below (ra_ HO361.out) hb)
                   replace HO367 := Aside0.mk (Kd.R_below (ra_ HO367.out) hb)
                   replace BK352 := bb_ BK352 hb
                   replace BK353 := bb_ BK353 hb
                   replace HB := bt_ HB hb
                   clear hb hbox hg
                   obtain ⟨Ao64, co64, eo64⟩ := Kd.R_slice HO361.out
                   (first | subst eo64 | (injection eo64 with f1_ f2_ f3_; have f4_ := f1_.symm; have f5_ := f3_.symm; clear f1_ f2_ f3_; subst f4_; subst f5_))
                   obtain ⟨Ao65, co65, eo65⟩ := Kd.R_slice HO367.out
                   (first | subst eo65 | (injection eo65 with f1_ f2_ f3_; have f4_ := f1_.symm; have f5_ := f3_.symm; clear f1_ f2_ f3_; subst f4_; subst f5_))
                   refine hK.out _ _ ⟨(blk_cell BK352.out 0).trans rfl, (blk_cell BK352.out 1).trans rfl, (blk_cell BK352.out 2).trans rfl, (blk_cell BK352.out 3).trans rfl, (blk_cell BK353.out 0).trans rfl, (blk_cell BK353.out 1).trans rfl, (blk_cell BK353.out 2).trans rfl, (blk_cell BK353.out 3).trans rfl⟩ (fun hHeld => ?_)
                   clear hK K
                   refine norm_ (a' := ?_) ?_ ?_
                   rotate_left
                   ·show Act.put _ (some 8) _ = _
                    simp only [Act.put, lstS, lstZ, lstC, i64_w, i32_w]
                    rfl
                   refine one_ (i := 5) (N := some 35) (bv_ 12 575) rfl rfl (one_of HT_.out (by kernel_rfl)) (by decide) (fun K hK => ?_)
                   refine goes_ Try.func13 (by kernel_rfl) rfl #[.int .i64 a0, .agg #[.int .i64 t356, .int .i64 t357, .int .i64 t358, .slice Ao64 t359.length co64], .agg #[.int .i64 t362, .int .i64 t363, .int .i64 t364, .slice Ao65 t365.length co65]] (by rfl) rfl rfl (by (try simp only [List.map_toArray, List.map_cons, List.map_nil]); first | done | rfl | (simp only [List.length_drop, List.length_take]; rfl)) ?_
                   with_reducible refine (spec_AddMeasures.calls k a0 t356 t357 t358 _ _ t359 t362 t363 t364 _ _ t365 t368 t369 t370 t371 t374 _ ?side1 ?side2 ?side3 ?side4 A22.out).mono ?_
                   (case side1 => repeat (first | exact (Kd.R_reads' HO361.out).2.2 | (with_reducible refine Kd.C_alloc ?_ _) | (with_reducible refine Kd.C_drewN ?_ _) | (with_reducible refine Kd.C_drew ?_)))
                   (case side2 => exact (Kd.R_reads' HO361.out).2.1)
                   (case side3 => repeat (first | exact (Kd.R_reads' HO367.out).2.2 | (with_reducible refine Kd.C_alloc ?_ _) | (with_reducible refine Kd.C_drewN ?_ _) | (with_reducible refine Kd.C_drew ?_)))
                   (case side4 => exact (Kd.R_reads' HO367.out).2.1)
                   rintro e w66 ⟨v372, rfl, ho0, hb⟩
                   refine ⟨_, rfl, ?_⟩
                   have HO373 := Aside0.mk (Kd.R_lower (Kd.R_new' (Kd.R_new' ho0 (Kd.R_lt (ra_ HO361.out))) (Kd.R_lt (ra_ HO367.out))) (below_size (bw_ HB).out))
                   replace HO361 := Aside0.mk (Kd.R_elder' (ra_ HO361.out) (Kd.R_base ho0) hb)
                   replace HO367 := Aside0.mk (Kd.R_elder' (ra_ HO367.out) (Kd.R_base ho0) hb)
                   replace BK352 := bb_ BK352 hb
                   replace BK353 := bb_ BK353 hb
                   replace BK375 := bb_ BK375 hb
                   replace HB := bt_ HB hb
                   (try clear hb)
                   (try clear hb2)
                   (try clear hk)
                   (try clear hi)
                   (try clear ho0)
                   refine hK.out _ _ ⟨(blk_cell BK352.out 0).trans rfl, (blk_cell BK352.out 1).trans rfl, (blk_cell BK352.out 2).trans rfl, (blk_cell BK352.out 3).trans rfl, (blk_cell BK353.out 0).trans rfl, (blk_cell BK353.out 1).trans rfl, (blk_cell BK353.out 2).trans rfl, (blk_cell BK353.out 3).trans rfl⟩ (fun hHeld => ?_)
                   clear hK K
                   refine norm_ (a' := ?_) ?_ ?_
                   rotate_left
                   ·show Act.put _ (some 35) _ = _
                    simp only [Act.put, lstS, lstZ, lstC, i64_w, i32_w]
                    rfl
                   refine pu_ HT_ 6 (some 29) (bv_ 12 639) ?_
                   refine pu_ HT_ 7 (some 36) (bv_ 12 767) ?_
                   refine pu_ HT_ 8 (some 37) (bv_ 12 1023) ?_
                   exact norm_ (by simp only [putAll, Act.put, lstS, lstZ, lstC]) (hCont (.slice Ao64 t359.length co64, .slice Ao65 t365.length co65, v372, gb375) _ ⟨hHeld, (by (with_reducible repeat (first | apply Kd.R_alloc | apply Kd.R_drewN | apply Kd.R_drew)); exact Kd.R_mono HO361.out (fun _ hk => ⟨hk.1.2, hk.2⟩)), (by (with_reducible repeat (first | apply Kd.R_alloc | apply Kd.R_drewN | apply Kd.R_drew)); exact Kd.R_mono HO367.out (fun _ hk => ⟨hk.1.2, hk.2⟩)), (by (with_reducible repeat (first | apply Kd.R_alloc | apply Kd.R_drewN | apply Kd.R_drew)); exact Kd.R_mono HO373.out (fun _ hk => ⟨hk.1.2, hk.2⟩)), (bl_ BK352).out, (bl_ BK353).out, (bl_ BK375).out, GW375.out, GE375.out, NB352_375.out, NB375_352.out, NB353_375.out, NB375_353.out, (bw_ HB).out⟩)
                 ·skip
                  refine box_step ?hg (N := 8) ?hd (cs := #[.int .i64 0, .int .i64 0, .int .i64 0, .slice none 0 0]) (t := 33) ?hr ?_; (case hd => rfl); (case hg => rfl); (case hr => first | (go_simp; done) | (go_simp; rfl))
                  intro gb375 hg w62 hbox hb
                  have BK375 := Aside0.mk (hbox)
                  have GW375 := bs_ HB hg
                  have GE375 := bs_ HB hg
                  have NB352_375 := bm_ BK352 hg
                  have NB375_352 := bn_ BK352 hg
                  have NB353_375 := bm_ BK353 hg
                  have NB375_353 := bn_ BK353 hg
                  replace HO361 := Aside0.mk (Kd.R_below (ra_ HO361.out) hb)
                  replace BK352 := bb_ BK352 hb
                  replace BK353 := bb_ BK353 hb
                  replace HB := bt_ HB hb
                  clear hb hbox hg
                  refine hK.out _ _ ⟨(blk_cell BK352.out 0).trans rfl, (blk_cell BK352.out 1).trans rfl, (blk_cell BK352.out 2).trans rfl, (blk_cell BK352.out 3).trans rfl, (blk_cell BK353.out 0).trans rfl, (blk_cell BK353.out 1).trans rfl, (blk_cell BK353.out 2).trans rfl, (blk_cell BK353.out 3).trans rfl⟩ (fun hHeld => ?_)
                  clear hK K
                  refine norm_ (a' := ?_) ?_ ?_
                  rotate_left
                  ·show Act.put _ (some 8) _ = _
                   simp only [Act.put, lstS, lstZ, lstC, i64_w, i32_w]
                   rfl
                  refine one_ (i := 4) (N := some 34) (bv_ 12 543) rfl rfl (one_of HT_.out (by kernel_rfl)) (by decide) (fun K hK => ?_)
                  refine goes_ Try.func9 (by kernel_rfl) rfl #[.agg #[.int .i64 a2_0, .int .i64 a2_1, .int .i64 a2_2, .slice A2_3 l2_3.length c2_3]] (by rfl) rfl rfl (by (try simp only [List.map_toArray, List.map_cons, List.map_nil]); first | done | rfl | (simp only [List.length_drop, List.length_take]; rfl)) ?_
                  with_reducible refine (laws_toMeasure.calls k a2_0 a2_1 a2_2 _ _ l2_3 t362 t363 t364 t365 _ ?side1 ?side2 A21.out).mono ?_
                  (case side1 => repeat (first | exact (Kd.C_below HR2_3.out HB.out) | (with_reducible refine Kd.C_alloc ?_ _) | (with_reducible refine Kd.C_drewN ?_ _) | (with_reducible refine Kd.C_drew ?_)))
                  (case side2 => exact HC2_3.out)
                  rintro e w63 ⟨v366, rfl, ho0, hb⟩
                  refine ⟨_, rfl, ?_⟩
                  have HO367 := Aside0.mk (Kd.R_lower (Kd.R_new' ho0 (Kd.R_lt (ra_ HO361.out))) (below_size (bw_ HB).out))
                  replace HO361 := Aside0.mk (Kd.R_elder' (ra_ HO361.out) (Kd.R_base ho0) hb)
                  replace BK352 := bb_ BK352 hb
                  replace BK353 := bb_ BK353 hb
                  replace BK375 := bb_ BK375 hb
                  replace HB := bt_ HB hb
                  (try clear hb)
                  (try clear hb2)
                  (try clear hk)
                  (try clear hi)
                  (try clear ho0)
                  obtain ⟨Ao64, co64, eo64⟩ := Kd.R_slice HO361.out
                  (first | subst eo64 | (injection eo64 with f1_ f2_ f3_; have f4_ := f1_.symm; have f5_ := f3_.symm; clear f1_ f2_ f3_; subst f4_; subst f5_))
                  obtain ⟨Ao65, co65, eo65⟩ := Kd.R_slice HO367.out
                  (first | subst eo65 | (injection eo65 with f1_ f2_ f3_; have f4_ := f1_.symm; have f5_ := f3_.symm; clear f1_ f2_ f3_; subst f4_; subst f5_))
                  refine hK.out _ _ ⟨(blk_cell BK352.out 0).trans rfl, (blk_cell BK352.out 1).trans rfl, (blk_cell BK352.out 2).trans rfl, (blk_cell BK352.out 3).trans rfl, (blk_cell BK353.out 0).trans rfl, (blk_cell BK353.out 1).trans rfl, (blk_cell BK353.out 2).trans rfl, (blk_cell BK353.out 3).trans rfl⟩ (fun hHeld => ?_)
                  clear hK K
                  refine norm_ (a' := ?_) ?_ ?_
                  rotate_left
                  ·show Act.put _ (some 34) _ = _
                   simp only [Act.put, lstS, lstZ, lstC, i64_w, i32_w]
                   rfl
                  refine one_ (i := 5) (N := some 35) (bv_ 12 575) rfl rfl (one_of HT_.out (by kernel_rfl)) (by decide) (fun K hK => ?_)
                  refine goes_ Try.func13 (by kernel_rfl) rfl #[.int .i64 a0, .agg #[.int .i64 t356, .int .i64 t357, .int .i64 t358, .slice Ao64 t359.length co64], .agg #[.int .i64 t362, .int .i64 t363, .int .i64 t364, .slice Ao65 t365.length co65]] (by rfl) rfl rfl (by (try simp only [List.map_toArray, List.map_cons, List.map_nil]); first | done | rfl | (simp only [List.length_drop, List.length_take]; rfl)) ?_
                  with_reducible refine (spec_AddMeasures.calls k a0 t356 t357 t358 _ _ t359 t362 t363 t364 _ _ t365 t368 t369 t370 t371 t374 _ ?side1 ?side2 ?side3 ?side4 A22.out).mono ?_
                  (case side1 => repeat (first | exact (Kd.R_reads' HO361.out).2.2 | (with_reducible refine Kd.C_alloc ?_ _) | (with_reducible refine Kd.C_drewN ?_ _) | (with_reducible refine Kd.C_drew ?_)))
                  (case side2 => exact (Kd.R_reads' HO361.out).2.1)
                  (case side3 => repeat (first | exact (Kd.R_reads' HO367.out).2.2 | (with_reducible refine Kd.C_alloc ?_ _) | (with_reducible refine Kd.C_drewN ?_ _) | (with_reducible refine Kd.C_drew ?_)))
                  (case side4 => exact (Kd.R_reads' HO367.out).2.1)
                  rintro e w66 ⟨v372, rfl, ho0, hb⟩
                  refine ⟨_, rfl, ?_⟩
                  have HO373 := Aside0.mk (Kd.R_lower (Kd.R_new' (Kd.R_new' ho0 (Kd.R_lt (ra_ HO361.out))) (Kd.R_lt (ra_ HO367.out))) (below_size (bw_ HB).out))
                  replace HO361 := Aside0.mk (Kd.R_elder' (ra_ HO361.out) (Kd.R_base ho0) hb)
                  replace HO367 := Aside0.mk (Kd.R_elder' (ra_ HO367.out) (Kd.R_base ho0) hb)
                  replace BK352 := bb_ BK352 hb
                  replace BK353 := bb_ BK353 hb
                  replace BK375 := bb_ BK375 hb
                  replace HB := bt_ HB hb
                  (try clear hb)
                  (try clear hb2)
                  (try clear hk)
                  (try clear hi)
                  (try clear ho0)
                  refine hK.out _ _ ⟨(blk_cell BK352.out 0).trans rfl, (blk_cell BK352.out 1).trans rfl, (blk_cell BK352.out 2).trans rfl, (blk_cell BK352.out 3).trans rfl, (blk_cell BK353.out 0).trans rfl, (blk_cell BK353.out 1).trans rfl, (blk_cell BK353.out 2).trans rfl, (blk_cell BK353.out 3).trans rfl⟩ (fun hHeld => ?_)
                  clear hK K
                  refine norm_ (a' := ?_) ?_ ?_
                  rotate_left
                  ·show Act.put _ (some 35) _ = _
                   simp only [Act.put, lstS, lstZ, lstC, i64_w, i32_w]
                   rfl
                  refine pu_ HT_ 6 (some 29) (bv_ 12 639) ?_
                  refine pu_ HT_ 7 (some 36) (bv_ 12 767) ?_
                  refine pu_ HT_ 8 (some 37) (bv_ 12 1023) ?_
                  exact norm_ (by simp only [putAll, Act.put, lstS, lstZ, lstC]) (hCont (.slice Ao64 t359.length co64, .slice Ao65 t365.length co65, v372, gb375) _ ⟨hHeld, (by (with_reducible repeat (first | apply Kd.R_alloc | apply Kd.R_drewN | apply Kd.R_drew)); exact Kd.R_mono HO361.out (fun _ hk => ⟨hk.1.2, hk.2⟩)), (by (with_reducible repeat (first | apply Kd.R_alloc | apply Kd.R_drewN | apply Kd.R_drew)); exact Kd.R_mono HO367.out (fun _ hk => ⟨hk.1.2, hk.2⟩)), (by (with_reducible repeat (first | apply Kd.R_alloc | apply Kd.R_drewN | apply Kd.R_drew)); exact Kd.R_mono HO373.out (fun _ hk => ⟨hk.1.2, hk.2⟩)), (bl_ BK352).out, (bl_ BK353).out, (bl_ BK375).out, GW375.out, GE375.out, NB352_375.out, NB375_352.out, NB353_375.out, NB375_353.out, (bw_ HB).out⟩)
                ·skip
                 refine box_step ?hg (N := 8) ?hd (cs := #[.int .i64 0, .int .i64 0, .int .i64 0, .slice none 0 0]) (t := 33) ?hr ?_; (case hd => rfl); (case hg => rfl); (case hr => first | (go_simp; done) | (go_simp; rfl))
                 intro gb375 hg w61 hbox hb
                 have BK375 := Aside0.mk (hbox)
                 have GW375 := bs_ HB hg
                 have GE375 := bs_ HB hg
                 have NB352_375 := bm_ BK352 hg
                 have NB375_352 := bn_ BK352 hg
                 have NB353_375 := bm_ BK353 hg
                 have NB375_353 := bn_ BK353 hg
                 replace BK352 := bb_ BK352 hb
                 replace BK353 := bb_ BK353 hb
                 replace HB := bt_ HB hb
                 clear hb hbox hg
                 refine hK.out _ _ ⟨(blk_cell BK352.out 0).trans rfl, (blk_cell BK352.out 1).trans rfl, (blk_cell BK352.out 2).trans rfl, (blk_cell BK352.out 3).trans rfl, (blk_cell BK353.out 0).trans rfl, (blk_cell BK353.out 1).trans rfl, (blk_cell BK353.out 2).trans rfl, (blk_cell BK353.out 3).trans rfl⟩ (fun hHeld => ?_)
                 clear hK K
                 refine norm_ (a' := ?_) ?_ ?_
                 rotate_left
                 ·show Act.put _ (some 8) _ = _
                  simp only [Act.put, lstS, lstZ, lstC, i64_w, i32_w]
                  rfl
                 refine one_ (i := 2) (N := some 32) (bv_ 12 527) rfl rfl (one_of HT_.out (by kernel_rfl)) (by decide) (fun K hK => ?_)
                 refine goes_ Try.func9 (by kernel_rfl) rfl #[.agg #[.int .i64 a1_0, .int .i64 a1_1, .int .i64 a1_2, .slice A1_3 l1_3.length c1_3]] (by rfl) rfl rfl (by (try simp only [List.map_toArray, List.map_cons, List.map_nil]); first | done | rfl | (simp only [List.length_drop, List.length_take]; rfl)) ?_
                 with_reducible refine (laws_toMeasure.calls k a1_0 a1_1 a1_2 _ _ l1_3 t356 t357 t358 t359 _ ?side1 ?side2 A20.out).mono ?_
                 (case side1 => repeat (first | exact (Kd.C_below HR1_3.out HB.out) | (with_reducible refine Kd.C_alloc ?_ _) | (with_reducible refine Kd.C_drewN ?_ _) | (with_reducible refine Kd.C_drew ?_)))
                 (case side2 => exact HC1_3.out)
                 rintro e w62 ⟨v360, rfl, ho0, hb⟩
                 refine ⟨_, rfl, ?_⟩
                 have HO361 := Aside0.mk (Kd.R_lower ho0 (below_size (bw_ HB).out))
                 replace BK352 := bb_ BK352 hb
                 replace BK353 := bb_ BK353 hb
                 replace BK375 := bb_ BK375 hb
                 replace HB := bt_ HB hb
                 (try clear hb)
                 (try clear hb2)
                 (try clear hk)
                 (try clear hi)
                 (try clear ho0)
                 refine hK.out _ _ ⟨(blk_cell BK352.out 0).trans rfl, (blk_cell BK352.out 1).trans rfl, (blk_cell BK352.out 2).trans rfl, (blk_cell BK352.out 3).trans rfl, (blk_cell BK353.out 0).trans rfl, (blk_cell BK353.out 1).trans rfl, (blk_cell BK353.out 2).trans rfl, (blk_cell BK353.out 3).trans rfl⟩ (fun hHeld => ?_)
                 clear hK K
                 refine norm_ (a' := ?_) ?_ ?_
                 rotate_left
                 ·show Act.put _ (some 32) _ = _
                  simp only [Act.put, lstS, lstZ, lstC, i64_w, i32_w]
                  rfl
                 refine one_ (i := 4) (N := some 34) (bv_ 12 543) rfl rfl (one_of HT_.out (by kernel_rfl)) (by decide) (fun K hK => ?_)
                 refine goes_ Try.func9 (by kernel_rfl) rfl #[.agg #[.int .i64 a2_0, .int .i64 a2_1, .int .i64 a2_2, .slice A2_3 l2_3.length c2_3]] (by rfl) rfl rfl (by (try simp only [List.map_toArray, List.map_cons, List.map_nil]); first | done | rfl | (simp only [List.length_drop, List.length_take]; rfl)) ?_
                 with_reducible refine (laws_toMeasure.calls k a2_0 a2_1 a2_2 _ _ l2_3 t362 t363 t364 t365 _ ?side1 ?side2 A21.out).mono ?_
                 (case side1 => repeat (first | exact (Kd.C_below HR2_3.out HB.out) | (with_reducible refine Kd.C_alloc ?_ _) | (with_reducible refine Kd.C_drewN ?_ _) | (with_reducible refine Kd.C_drew ?_)))
                 (case side2 => exact HC2_3.out)
                 rintro e w63 ⟨v366, rfl, ho0, hb⟩
                 refine ⟨_, rfl, ?_⟩
                 have HO367 := Aside0.mk (Kd.R_lower (Kd.R_new' ho0 (Kd.R_lt (ra_ HO361.out))) (below_size (bw_ HB).out))
                 replace HO361 := Aside0.mk (Kd.R_elder' (ra_ HO361.out) (Kd.R_base ho0) hb)
                 replace BK352 := bb_ BK352 hb
                 replace BK353 := bb_ BK353 hb
                 replace BK375 := bb_ BK375 hb
                 replace HB := bt_ HB hb
                 (try clear hb)
                 (try clear hb2)
                 (try clear hk)
                 (try clear hi)
                 (try clear ho0)
                 obtain ⟨Ao64, co64, eo64⟩ := Kd.R_slice HO361.out
                 (first | subst eo64 | (injection eo64 with f1_ f2_ f3_; have f4_ := f1_.symm; have f5_ := f3_.symm; clear f1_ f2_ f3_; subst f4_; subst f5_))
                 obtain ⟨Ao65, co65, eo65⟩ := Kd.R_slice HO367.out
                 (first | subst eo65 | (injection eo65 with f1_ f2_ f3_; have f4_ := f1_.symm; have f5_ := f3_.symm; clear f1_ f2_ f3_; subst f4_; subst f5_))
                 refine hK.out _ _ ⟨(blk_cell BK352.out 0).trans rfl, (blk_cell BK352.out 1).trans rfl, (blk_cell BK352.out 2).trans rfl, (blk_cell BK352.out 3).trans rfl, (blk_cell BK353.out 0).trans rfl, (blk_cell BK353.out 1).trans rfl, (blk_cell BK353.out 2).trans rfl, (blk_cell BK353.out 3).trans rfl⟩ (fun hHeld => ?_)
                 clear hK K
                 refine norm_ (a' := ?_) ?_ ?_
                 rotate_left
                 ·show Act.put _ (some 34) _ = _
                  simp only [Act.put, lstS, lstZ, lstC, i64_w, i32_w]
                  rfl
                 refine one_ (i := 5) (N := some 35) (bv_ 12 575) rfl rfl (one_of HT_.out (by kernel_rfl)) (by decide) (fun K hK => ?_)
                 refine goes_ Try.func13 (by kernel_rfl) rfl #[.int .i64 a0, .agg #[.int .i64 t356, .int .i64 t357, .int .i64 t358, .slice Ao64 t359.length co64], .agg #[.int .i64 t362, .int .i64 t363, .int .i64 t364, .slice Ao65 t365.length co65]] (by rfl) rfl rfl (by (try simp only [List.map_toArray, List.map_cons, List.map_nil]); first | done | rfl | (simp only [List.length_drop, List.length_take]; rfl)) ?_
                 with_reducible refine (spec_AddMeasures.calls k a0 t356 t357 t358 _ _ t359 t362 t363 t364 _ _ t365 t368 t369 t370 t371 t374 _ ?side1 ?side2 ?side3 ?side4 A22.out).mono ?_
                 (case side1 => repeat (first | exact (Kd.R_reads' HO361.out).2.2 | (with_reducible refine Kd.C_alloc ?_ _) | (with_reducible refine Kd.C_drewN ?_ _) | (with_reducible refine Kd.C_drew ?_)))
                 (case side2 => exact (Kd.R_reads' HO361.out).2.1)
                 (case side3 => repeat (first | exact (Kd.R_reads' HO367.out).2.2 | (with_reducible refine Kd.C_alloc ?_ _) | (with_reducible refine Kd.C_drewN ?_ _) | (with_reducible refine Kd.C_drew ?_)))
                 (case side4 => exact (Kd.R_reads' HO367.out).2.1)
                 rintro e w66 ⟨v372, rfl, ho0, hb⟩
                 refine ⟨_, rfl, ?_⟩
                 have HO373 := Aside0.mk (Kd.R_lower (Kd.R_new' (Kd.R_new' ho0 (Kd.R_lt (ra_ HO361.out))) (Kd.R_lt (ra_ HO367.out))) (below_size (bw_ HB).out))
                 replace HO361 := Aside0.mk (Kd.R_elder' (ra_ HO361.out) (Kd.R_base ho0) hb)
                 replace HO367 := Aside0.mk (Kd.R_elder' (ra_ HO367.out) (Kd.R_base ho0) hb)
                 replace BK352 := bb_ BK352 hb
                 replace BK353 := bb_ BK353 hb
                 replace BK375 := bb_ BK375 hb
                 replace HB := bt_ HB hb
                 (try clear hb)
                 (try clear hb2)
                 (try clear hk)
                 (try clear hi)
                 (try clear ho0)
                 refine hK.out _ _ ⟨(blk_cell BK352.out 0).trans rfl, (blk_cell BK352.out 1).trans rfl, (blk_cell BK352.out 2).trans rfl, (blk_cell BK352.out 3).trans rfl, (blk_cell BK353.out 0).trans rfl, (blk_cell BK353.out 1).trans rfl, (blk_cell BK353.out 2).trans rfl, (blk_cell BK353.out 3).trans rfl⟩ (fun hHeld => ?_)
                 clear hK K
                 refine norm_ (a' := ?_) ?_ ?_
                 rotate_left
                 ·show Act.put _ (some 35) _ = _
                  simp only [Act.put, lstS, lstZ, lstC, i64_w, i32_w]
                  rfl
                 refine pu_ HT_ 6 (some 29) (bv_ 12 639) ?_
                 refine pu_ HT_ 7 (some 36) (bv_ 12 767) ?_
                 refine pu_ HT_ 8 (some 37) (bv_ 12 1023) ?_
                 exact norm_ (by simp only [putAll, Act.put, lstS, lstZ, lstC]) (hCont (.slice Ao64 t359.length co64, .slice Ao65 t365.length co65, v372, gb375) _ ⟨hHeld, (by (with_reducible repeat (first | apply Kd.R_alloc | apply Kd.R_drewN | apply Kd.R_drew)); exact Kd.R_mono HO361.out (fun _ hk => ⟨hk.1.2, hk.2⟩)), (by (with_reducible repeat (first | apply Kd.R_alloc | apply Kd.R_drewN | apply Kd.R_drew)); exact Kd.R_mono HO367.out (fun _ hk => ⟨hk.1.2, hk.2⟩)), (by (with_reducible repeat (first | apply Kd.R_alloc | apply Kd.R_drewN | apply Kd.R_drew)); exact Kd.R_mono HO373.out (fun _ hk => ⟨hk.1.2, hk.2⟩)), (bl_ BK352).out, (bl_ BK353).out, (bl_ BK375).out, GW375.out, GE375.out, NB352_375.out, NB375_352.out, NB353_375.out, NB375_353.out, (bw_ HB).out⟩)
               rintro ⟨v360, v366, v372, gb375⟩ w67 ⟨hS_, h0_, h1_, h2_, h3_, h4_, h5_, h6_, h7_, h8_, h9_, h10_, h11_, h12_⟩
               have n0_ : Aside0 (Kd.R k63 63 w67 w.heap.size (fun k_ => some k_ ≠ (v366 : Value).ownBlock ∧ some k_ ≠ (v372 : Value).ownBlock) v360 t359) := ⟨h0_⟩
               have n1_ : Aside0 (Kd.R k63 63 w67 w.heap.size (fun k_ => some k_ ≠ (v360 : Value).ownBlock ∧ some k_ ≠ (v372 : Value).ownBlock) v366 t365) := ⟨h1_⟩
               have n2_ : Aside0 (Kd.R k63 63 w67 w.heap.size (fun k_ => some k_ ≠ (v360 : Value).ownBlock ∧ some k_ ≠ (v366 : Value).ownBlock) v372 t371) := ⟨h2_⟩
               have n3_ : Aside0 (w67.heap[gb352]? = some (.cells #[.int .i64 a1_0, .int .i64 a1_1, .int .i64 a1_2, .slice A1_3 l1_3.length c1_3] 26 (0, 0))) := ⟨h3_⟩
               have n4_ : Aside0 (w67.heap[gb353]? = some (.cells #[.int .i64 a2_0, .int .i64 a2_1, .int .i64 a2_2, .slice A2_3 l2_3.length c2_3] 26 (0, 0))) := ⟨h4_⟩
               have n5_ : Aside0 (w67.heap[gb375]? = some (.cells #[.int .i64 0, .int .i64 0, .int .i64 0, .slice none 0 0] 33 (0, 0))) := ⟨h5_⟩
               have n6_ : Aside0 (w.heap.size ≤ gb375) := ⟨h6_⟩
               have n7_ : Aside0 (w.heap.size ≤ gb375) := ⟨h7_⟩
               have n8_ : Aside0 (gb352 ≠ gb375) := ⟨h8_⟩
               have n9_ : Aside0 (gb375 ≠ gb352) := ⟨h9_⟩
               have n10_ : Aside0 (gb353 ≠ gb375) := ⟨h10_⟩
               have n11_ : Aside0 (gb375 ≠ gb353) := ⟨h11_⟩
               have n12_ : Aside0 (Below w.heap.size w w67) := ⟨h12_⟩
               clear BK352
               clear BK353
               clear HB
               clear h0_ h1_ h2_ h3_ h4_ h5_ h6_ h7_ h8_ h9_ h10_ h11_ h12_
               have HO361 := n0_
               have HO367 := n1_
               have HO373 := n2_
               have BK352 := n3_
               have BK353 := n4_
               have BK375 := n5_
               have GW375 := n6_
               have GE375 := n7_
               have NB352_375 := n8_
               have NB375_352 := n9_
               have NB353_375 := n10_
               have NB375_353 := n11_
               have HB := n12_
               clear n0_ n1_ n2_ n3_ n4_ n5_ n6_ n7_ n8_ n9_ n10_ n11_ n12_
               have hHeld : w67.cell? ⟨gb352, 0, none⟩ = some (.int .i64 a1_0) ∧ w67.cell? ⟨gb352, 1, none⟩ = some (.int .i64 a1_1) ∧ w67.cell? ⟨gb352, 2, none⟩ = some (.int .i64 a1_2) ∧ w67.cell? ⟨gb352, 3, none⟩ = some (.slice A1_3 l1_3.length c1_3) ∧ w67.cell? ⟨gb353, 0, none⟩ = some (.int .i64 a2_0) ∧ w67.cell? ⟨gb353, 1, none⟩ = some (.int .i64 a2_1) ∧ w67.cell? ⟨gb353, 2, none⟩ = some (.int .i64 a2_2) ∧ w67.cell? ⟨gb353, 3, none⟩ = some (.slice A2_3 l2_3.length c2_3) := hS_
               obtain ⟨Ao71, co71, eo71⟩ := Kd.R_slice HO373.out
               (first | subst eo71 | (injection eo71 with f1_ f2_ f3_; have f4_ := f1_.symm; have f5_ := f3_.symm; clear f1_ f2_ f3_; subst f4_; subst f5_))
               refine norm_ (a' := ?_) ?_ ?_
               rotate_left
               ·simp only [putAll, Act.put, lstS, lstZ, lstC]
                rfl
               refine one_ (i := 10) (N := none) (bv_ 12 2047) rfl rfl (one_of HT_.out (by kernel_rfl)) (by decide) (fun K hK => ?_)
               have hs68 : w67.cell? ⟨gb375, 0, none⟩ = some (.int .i64 0) := (blk_cell BK375.out 0).trans rfl
               have hfs68 := blk_frozen BK375.out 0
               have hns68_0 := NB352_375.out
               have hns68_1 := NB353_375.out
               have hms68_0 := NB375_352.out
               have hms68_1 := NB375_353.out
               have hs69 : w67.cell? ⟨gb375, 1, none⟩ = some (.int .i64 0) := (blk_cell BK375.out 1).trans rfl
               have hfs69 := blk_frozen BK375.out 1
               have hns69_0 := NB352_375.out
               have hns69_1 := NB353_375.out
               have hms69_0 := NB375_352.out
               have hms69_1 := NB375_353.out
               have hs70 : w67.cell? ⟨gb375, 2, none⟩ = some (.int .i64 0) := (blk_cell BK375.out 2).trans rfl
               have hfs70 := blk_frozen BK375.out 2
               have hns70_0 := NB352_375.out
               have hns70_1 := NB353_375.out
               have hms70_0 := NB375_352.out
               have hms70_1 := NB375_353.out
               have hs72 : w67.cell? ⟨gb375, 3, none⟩ = some (.slice none 0 0) := (blk_cell BK375.out 3).trans rfl
               have hfs72 := blk_frozen BK375.out 3
               have hns72_0 := NB352_375.out
               have hns72_1 := NB353_375.out
               have hms72_0 := NB375_352.out
               have hms72_1 := NB375_353.out
               refine skip_ (w1 := ?_) (by rfl) rfl ?_ ?_
               rotate_left
               ·go_simp
                rfl
               refine hK.out _ _ ⟨((cell_far (p := ⟨gb375, _, none⟩) NB352_375.out _).trans (((cell_far (p := ⟨gb375, _, none⟩) NB352_375.out _).trans (((cell_far (p := ⟨gb375, _, none⟩) NB352_375.out _).trans (((cell_far (p := ⟨gb375, _, none⟩) NB352_375.out _).trans (hHeld.1)))))))), ((cell_far (p := ⟨gb375, _, none⟩) NB352_375.out _).trans (((cell_far (p := ⟨gb375, _, none⟩) NB352_375.out _).trans (((cell_far (p := ⟨gb375, _, none⟩) NB352_375.out _).trans (((cell_far (p := ⟨gb375, _, none⟩) NB352_375.out _).trans (hHeld.2.1)))))))), ((cell_far (p := ⟨gb375, _, none⟩) NB352_375.out _).trans (((cell_far (p := ⟨gb375, _, none⟩) NB352_375.out _).trans (((cell_far (p := ⟨gb375, _, none⟩) NB352_375.out _).trans (((cell_far (p := ⟨gb375, _, none⟩) NB352_375.out _).trans (hHeld.2.2.1)))))))), ((cell_far (p := ⟨gb375, _, none⟩) NB352_375.out _).trans (((cell_far (p := ⟨gb375, _, none⟩) NB352_375.out _).trans (((cell_far (p := ⟨gb375, _, none⟩) NB352_375.out _).trans (((cell_far (p := ⟨gb375, _, none⟩) NB352_375.out _).trans (hHeld.2.2.2.1)))))))), ((cell_far (p := ⟨gb375, _, none⟩) NB353_375.out _).trans (((cell_far (p := ⟨gb375, _, none⟩) NB353_375.out _).trans (((cell_far (p := ⟨gb375, _, none⟩) NB353_375.out _).trans (((cell_far (p := ⟨gb375, _, none⟩) NB353_375.out _).trans (hHeld.2.2.2.2.1)))))))), ((cell_far (p := ⟨gb375, _, none⟩) NB353_375.out _).trans (((cell_far (p := ⟨gb375, _, none⟩) NB353_375.out _).trans (((cell_far (p := ⟨gb375, _, none⟩) NB353_375.out _).trans (((cell_far (p := ⟨gb375, _, none⟩) NB353_375.out _).trans (hHeld.2.2.2.2.2.1)))))))), ((cell_far (p := ⟨gb375, _, none⟩) NB353_375.out _).trans (((cell_far (p := ⟨gb375, _, none⟩) NB353_375.out _).trans (((cell_far (p := ⟨gb375, _, none⟩) NB353_375.out _).trans (((cell_far (p := ⟨gb375, _, none⟩) NB353_375.out _).trans (hHeld.2.2.2.2.2.2.1)))))))), ((cell_far (p := ⟨gb375, _, none⟩) NB353_375.out _).trans (((cell_far (p := ⟨gb375, _, none⟩) NB353_375.out _).trans (((cell_far (p := ⟨gb375, _, none⟩) NB353_375.out _).trans (((cell_far (p := ⟨gb375, _, none⟩) NB353_375.out _).trans (hHeld.2.2.2.2.2.2.2))))))))⟩ (fun hHeld => ?_)
               clear hK K
               refine pu_ HT_ 11 (some 9) (bv_ 12 4095) ?_
               refine done_ (done_of HT_.out (by kernel_rfl)) ?_
               have hnb73 := NB352_375.out
               have hnc73 := NB375_352.out
               have hcz74_0 : w67.cell? ⟨gb352, 0, none⟩ = some (.int .i64 a1_0) := cz_ BK352 0
               have hcz74_1 : w67.cell? ⟨gb352, 1, none⟩ = some (.int .i64 a1_1) := cz_ BK352 1
               have hcz74_2 : w67.cell? ⟨gb352, 2, none⟩ = some (.int .i64 a1_2) := cz_ BK352 2
               have hcz74_3 : w67.cell? ⟨gb352, 3, none⟩ = some (.slice A1_3 l1_3.length c1_3) := cz_ BK352 3
               have hfz74_0 := fz_ BK352 0
               have hfz74_1 := fz_ BK352 1
               have hfz74_2 := fz_ BK352 2
               have hfz74_3 := fz_ BK352 3
               try go_wp2_with (first | ((with_reducible refine gate_callee (f := 9) rfl ?_); refine ge_ 39 Try.func9 #[.agg #[.int .i64 a1_0, .int .i64 a1_1, .int .i64 a1_2, .slice A1_3 l1_3.length c1_3]] ?_; (with_reducible refine (laws_toMeasure.calls k a1_0 a1_1 a1_2 _ _ l1_3 t376 t377 t378 t379 _ ?side1 ?side2 A23.out).mono ?_); (case side1 => exact Kd.C_below HR1_3.out (bw_ HB).out); (case side2 => exact HC1_3.out); rintro e w75 ⟨v380, rfl, ho0, hb⟩; refine ⟨_, rfl, ?_⟩; have HO381 := Aside0.mk (Kd.R_lower (Kd.R_new' (Kd.R_new' (Kd.R_new' ho0 (Kd.R_lt (ra_ (rs4_ HO361.out BK375.out)))) (Kd.R_lt (ra_ (rs4_ HO367.out BK375.out)))) (Kd.R_lt (ra_ (rs4_ HO373.out BK375.out)))) (below_size (bw_ HB).out)); replace HO361 := Aside0.mk (Kd.R_elder' (ra_ (rs4_ HO361.out BK375.out)) (Kd.R_base ho0) hb); replace HO367 := Aside0.mk (Kd.R_elder' (ra_ (rs4_ HO367.out BK375.out)) (Kd.R_base ho0) hb); replace HO373 := Aside0.mk (Kd.R_elder' (ra_ (rs4_ HO373.out BK375.out)) (Kd.R_base ho0) hb); replace BK352 := fb_ BK352 NB352_375 hb; replace BK353 := fb_ BK353 NB353_375 hb; replace BK375 := Aside0.mk (blk_below (g := gb375) (o := .cells #[.int .i64 t368, .int .i64 t369, .int .i64 t370, .slice Ao71 t371.length co71] 33 (0, 0)) (by (with_reducible repeat first | apply blk_drewN | apply blk_drew | apply blk_alloc); refine blk_put (cs := #[.int .i64 t368, .int .i64 t369, .int .i64 t370, .slice none 0 0]) ?_ 3 _ rfl; (with_reducible repeat first | apply blk_drewN | apply blk_drew | apply blk_alloc); refine blk_put (cs := #[.int .i64 t368, .int .i64 t369, .int .i64 0, .slice none 0 0]) ?_ 2 _ rfl; (with_reducible repeat first | apply blk_drewN | apply blk_drew | apply blk_alloc); refine blk_put (cs := #[.int .i64 t368, .int .i64 0, .int .i64 0, .slice none 0 0]) ?_ 1 _ rfl; (with_reducible repeat first | apply blk_drewN | apply blk_drew | apply blk_alloc); refine blk_put (cs := #[.int .i64 0, .int .i64 0, .int .i64 0, .slice none 0 0]) ?_ 0 _ rfl; (with_reducible repeat first | apply blk_drewN | apply blk_drew | apply blk_alloc); exact BK375.out) hb); replace HB := bt_ HB hb; (try clear hb); (try clear hb2); (try clear hk); (try clear hi); (try clear ho0)) | ((with_reducible refine gate_dst (N := 10) rfl ?_); refine bx_ 10 #[.int .i64 0, .int .i64 0, .int .i64 0, .slice none 0 0] 33 ?_; intro gb382 hg w76 hbox hb; have BK382 := Aside0.mk (hbox); have GW382 := bs_ HB hg; have GE382 := bs_ HB hg; have NB352_382 := bm_ BK352 hg; have NB382_352 := bn_ BK352 hg; have NB353_382 := bm_ BK353 hg; have NB382_353 := bn_ BK353 hg; have NB375_382 := bm_ BK375 hg; have NB382_375 := bn_ BK375 hg; replace HO361 := Aside0.mk (Kd.R_below (ra_ HO361.out) hb); replace HO367 := Aside0.mk (Kd.R_below (ra_ HO367.out) hb); replace HO373 := Aside0.mk (Kd.R_below (ra_ HO373.out) hb); replace HO381 := Aside0.mk (Kd.R_below (ra_ HO381.out) hb); replace BK352 := bb_ BK352 hb; replace BK353 := bb_ BK353 hb; replace BK375 := bb_ BK375 hb; replace HB := bt_ HB hb; clear hb hbox hg; have hnb77 := NB382_352.out; have hnc77 := NB352_382.out; have hnb78 := NB382_353.out; have hnc78 := NB353_382.out; have hnb79 := NB382_375.out; have hnc79 := NB375_382.out; have hcz80_0 : w76.cell? ⟨gb382, 0, none⟩ = some (.int .i64 0) := cz_ BK382 0; have hcz80_1 : w76.cell? ⟨gb382, 1, none⟩ = some (.int .i64 0) := cz_ BK382 1; have hcz80_2 : w76.cell? ⟨gb382, 2, none⟩ = some (.int .i64 0) := cz_ BK382 2; have hcz80_3 : w76.cell? ⟨gb382, 3, none⟩ = some (.slice none 0 0) := cz_ BK382 3; have hfz80_0 := fz_ BK382 0; have hfz80_1 := fz_ BK382 1; have hfz80_2 := fz_ BK382 2; have hfz80_3 := fz_ BK382 3; obtain ⟨Ao81, co81, eo81⟩ := Kd.R_slice HO381.out; subst eo81; have hnb82 := NB353_375.out; have hnc82 := NB375_353.out; have hcz83_0 : w76.cell? ⟨gb353, 0, none⟩ = some (.int .i64 a2_0) := cz_ BK353 0; have hcz83_1 : w76.cell? ⟨gb353, 1, none⟩ = some (.int .i64 a2_1) := cz_ BK353 1; have hcz83_2 : w76.cell? ⟨gb353, 2, none⟩ = some (.int .i64 a2_2) := cz_ BK353 2; have hcz83_3 : w76.cell? ⟨gb353, 3, none⟩ = some (.slice A2_3 l2_3.length c2_3) := cz_ BK353 3; have hfz83_0 := fz_ BK353 0; have hfz83_1 := fz_ BK353 1; have hfz83_2 := fz_ BK353 2; have hfz83_3 := fz_ BK353 3) | ((with_reducible refine gate_callee (f := 9) rfl ?_); refine ge_ 41 Try.func9 #[.agg #[.int .i64 a2_0, .int .i64 a2_1, .int .i64 a2_2, .slice A2_3 l2_3.length c2_3]] ?_; (with_reducible refine (laws_toMeasure.calls k a2_0 a2_1 a2_2 _ _ l2_3 t383 t384 t385 t386 _ ?side1 ?side2 A24.out).mono ?_); (case side1 => exact Kd.C_below HR2_3.out (bw_ HB).out); (case side2 => exact HC2_3.out); rintro e w84 ⟨v387, rfl, ho0, hb⟩; refine ⟨_, rfl, ?_⟩; have HO388 := Aside0.mk (Kd.R_lower (Kd.R_new' (Kd.R_new' (Kd.R_new' (Kd.R_new' ho0 (Kd.R_lt (ra_ (rs4_ HO361.out BK382.out)))) (Kd.R_lt (ra_ (rs4_ HO367.out BK382.out)))) (Kd.R_lt (ra_ (rs4_ HO373.out BK382.out)))) (Kd.R_lt (ra_ (rs4_ HO381.out BK382.out)))) (below_size (bw_ HB).out)); replace HO361 := Aside0.mk (Kd.R_elder' (ra_ (rs4_ HO361.out BK382.out)) (Kd.R_base ho0) hb); replace HO367 := Aside0.mk (Kd.R_elder' (ra_ (rs4_ HO367.out BK382.out)) (Kd.R_base ho0) hb); replace HO373 := Aside0.mk (Kd.R_elder' (ra_ (rs4_ HO373.out BK382.out)) (Kd.R_base ho0) hb); replace HO381 := Aside0.mk (Kd.R_elder' (ra_ (rs4_ HO381.out BK382.out)) (Kd.R_base ho0) hb); replace BK352 := fb_ BK352 NB352_382 hb; replace BK353 := fb_ BK353 NB353_382 hb; replace BK375 := fb_ BK375 NB375_382 hb; replace BK382 := Aside0.mk (blk_below (g := gb382) (o := .cells #[.int .i64 t376, .int .i64 t377, .int .i64 t378, .slice Ao81 t379.length co81] 33 (0, 0)) (by (with_reducible repeat first | apply blk_drewN | apply blk_drew | apply blk_alloc); refine blk_put (cs := #[.int .i64 t376, .int .i64 t377, .int .i64 t378, .slice none 0 0]) ?_ 3 _ rfl; (with_reducible repeat first | apply blk_drewN | apply blk_drew | apply blk_alloc); refine blk_put (cs := #[.int .i64 t376, .int .i64 t377, .int .i64 0, .slice none 0 0]) ?_ 2 _ rfl; (with_reducible repeat first | apply blk_drewN | apply blk_drew | apply blk_alloc); refine blk_put (cs := #[.int .i64 t376, .int .i64 0, .int .i64 0, .slice none 0 0]) ?_ 1 _ rfl; (with_reducible repeat first | apply blk_drewN | apply blk_drew | apply blk_alloc); refine blk_put (cs := #[.int .i64 0, .int .i64 0, .int .i64 0, .slice none 0 0]) ?_ 0 _ rfl; (with_reducible repeat first | apply blk_drewN | apply blk_drew | apply blk_alloc); exact BK382.out) hb); replace HB := bt_ HB hb; (try clear hb); (try clear hb2); (try clear hk); (try clear hi); (try clear ho0)) | ((with_reducible refine gate_dst (N := 11) rfl ?_); refine bx_ 11 #[.int .i64 0, .int .i64 0, .int .i64 0, .slice none 0 0] 33 ?_; intro gb389 hg w85 hbox hb; have BK389 := Aside0.mk (hbox); have GW389 := bs_ HB hg; have GE389 := bs_ HB hg; have NB352_389 := bm_ BK352 hg; have NB389_352 := bn_ BK352 hg; have NB353_389 := bm_ BK353 hg; have NB389_353 := bn_ BK353 hg; have NB375_389 := bm_ BK375 hg; have NB389_375 := bn_ BK375 hg; have NB382_389 := bm_ BK382 hg; have NB389_382 := bn_ BK382 hg; replace HO361 := Aside0.mk (Kd.R_below (ra_ HO361.out) hb); replace HO367 := Aside0.mk (Kd.R_below (ra_ HO367.out) hb); replace HO373 := Aside0.mk (Kd.R_below (ra_ HO373.out) hb); replace HO381 := Aside0.mk (Kd.R_below (ra_ HO381.out) hb); replace HO388 := Aside0.mk (Kd.R_below (ra_ HO388.out) hb); replace BK352 := bb_ BK352 hb; replace BK353 := bb_ BK353 hb; replace BK375 := bb_ BK375 hb; replace BK382 := bb_ BK382 hb; replace HB := bt_ HB hb; clear hb hbox hg; have hnb86 := NB389_352.out; have hnc86 := NB352_389.out; have hnb87 := NB389_353.out; have hnc87 := NB353_389.out; have hnb88 := NB389_375.out; have hnc88 := NB375_389.out; have hnb89 := NB389_382.out; have hnc89 := NB382_389.out; have hcz90_0 : w85.cell? ⟨gb389, 0, none⟩ = some (.int .i64 0) := cz_ BK389 0; have hcz90_1 : w85.cell? ⟨gb389, 1, none⟩ = some (.int .i64 0) := cz_ BK389 1; have hcz90_2 : w85.cell? ⟨gb389, 2, none⟩ = some (.int .i64 0) := cz_ BK389 2; have hcz90_3 : w85.cell? ⟨gb389, 3, none⟩ = some (.slice none 0 0) := cz_ BK389 3; have hfz90_0 := fz_ BK389 0; have hfz90_1 := fz_ BK389 1; have hfz90_2 := fz_ BK389 2; have hfz90_3 := fz_ BK389 3; obtain ⟨Ao91, co91, eo91⟩ := Kd.R_slice HO388.out; subst eo91; have hcz92_0 : w85.cell? ⟨gb382, 0, none⟩ = some (.int .i64 t376) := cz_ BK382 0; have hcz92_1 : w85.cell? ⟨gb382, 1, none⟩ = some (.int .i64 t377) := cz_ BK382 1; have hcz92_2 : w85.cell? ⟨gb382, 2, none⟩ = some (.int .i64 t378) := cz_ BK382 2; have hcz92_3 : w85.cell? ⟨gb382, 3, none⟩ = some (.slice Ao81 t379.length co81) := cz_ BK382 3; have hfz92_0 := fz_ BK382 0; have hfz92_1 := fz_ BK382 1; have hfz92_2 := fz_ BK382 2; have hfz92_3 := fz_ BK382 3) | ((with_reducible refine gate_callee (f := 14) rfl ?_); refine ge_ 46 Try.func14 #[.int .i64 a0, .agg #[.int .i64 t376, .int .i64 t377, .int .i64 t378, .slice Ao81 t379.length co81], .agg #[.int .i64 t383, .int .i64 t384, .int .i64 t385, .slice Ao91 t386.length co91]] ?_; (with_reducible refine (impl_AddMeasures.calls k a0 t376 t377 t378 _ _ t379 t383 t384 t385 _ _ t386 t390 t391 t392 t393 t396 _ ?side1 ?side2 ?side3 ?side4 A25.out).mono ?_); (case side1 => refine (Kd.R_reads' (e := 63) (base := w.heap.size) (ok := fun k_ => ((((True ∧ some k_ ≠ (v360 : Value).ownBlock) ∧ some k_ ≠ (v366 : Value).ownBlock) ∧ some k_ ≠ (.slice Ao71 t371.length co71 : Value).ownBlock) ∧ some k_ ≠ (.slice Ao91 t386.length co91 : Value).ownBlock)) (n := t379.length) (c := co81) ?_).2.2; exact (ra_ (rs4_ HO381.out BK389.out))); (case side2 => exact (Kd.R_reads' HO381.out).2.1); (case side3 => refine (Kd.R_reads' (e := 63) (base := w.heap.size) (ok := fun k_ => ((((True ∧ some k_ ≠ (v360 : Value).ownBlock) ∧ some k_ ≠ (v366 : Value).ownBlock) ∧ some k_ ≠ (.slice Ao71 t371.length co71 : Value).ownBlock) ∧ some k_ ≠ (.slice Ao81 t379.length co81 : Value).ownBlock)) (n := t386.length) (c := co91) ?_).2.2; exact (ra_ (rs4_ HO388.out BK389.out))); (case side4 => exact (Kd.R_reads' HO388.out).2.1); rintro e w93 ⟨v394, rfl, ho0, hb⟩; refine ⟨_, rfl, ?_⟩; have HO395 := Aside0.mk (Kd.R_lower (Kd.R_new' (Kd.R_new' (Kd.R_new' (Kd.R_new' (Kd.R_new' ho0 (Kd.R_lt (ra_ (rs4_ HO361.out BK389.out)))) (Kd.R_lt (ra_ (rs4_ HO367.out BK389.out)))) (Kd.R_lt (ra_ (rs4_ HO373.out BK389.out)))) (Kd.R_lt (ra_ (rs4_ HO381.out BK389.out)))) (Kd.R_lt (ra_ (rs4_ HO388.out BK389.out)))) (below_size (bw_ HB).out)); replace HO361 := Aside0.mk (Kd.R_elder' (ra_ (rs4_ HO361.out BK389.out)) (Kd.R_base ho0) hb); replace HO367 := Aside0.mk (Kd.R_elder' (ra_ (rs4_ HO367.out BK389.out)) (Kd.R_base ho0) hb); replace HO373 := Aside0.mk (Kd.R_elder' (ra_ (rs4_ HO373.out BK389.out)) (Kd.R_base ho0) hb); replace HO381 := Aside0.mk (Kd.R_elder' (ra_ (rs4_ HO381.out BK389.out)) (Kd.R_base ho0) hb); replace HO388 := Aside0.mk (Kd.R_elder' (ra_ (rs4_ HO388.out BK389.out)) (Kd.R_base ho0) hb); replace BK352 := fb_ BK352 NB352_389 hb; replace BK353 := fb_ BK353 NB353_389 hb; replace BK375 := fb_ BK375 NB375_389 hb; replace BK382 := fb_ BK382 NB382_389 hb; replace BK389 := Aside0.mk (blk_below (g := gb389) (o := .cells #[.int .i64 t383, .int .i64 t384, .int .i64 t385, .slice Ao91 t386.length co91] 33 (0, 0)) (by (with_reducible repeat first | apply blk_drewN | apply blk_drew | apply blk_alloc); refine blk_put (cs := #[.int .i64 t383, .int .i64 t384, .int .i64 t385, .slice none 0 0]) ?_ 3 _ rfl; (with_reducible repeat first | apply blk_drewN | apply blk_drew | apply blk_alloc); refine blk_put (cs := #[.int .i64 t383, .int .i64 t384, .int .i64 0, .slice none 0 0]) ?_ 2 _ rfl; (with_reducible repeat first | apply blk_drewN | apply blk_drew | apply blk_alloc); refine blk_put (cs := #[.int .i64 t383, .int .i64 0, .int .i64 0, .slice none 0 0]) ?_ 1 _ rfl; (with_reducible repeat first | apply blk_drewN | apply blk_drew | apply blk_alloc); refine blk_put (cs := #[.int .i64 0, .int .i64 0, .int .i64 0, .slice none 0 0]) ?_ 0 _ rfl; (with_reducible repeat first | apply blk_drewN | apply blk_drew | apply blk_alloc); exact BK389.out) hb); replace HB := bt_ HB hb; (try clear hb); (try clear hb2); (try clear hk); (try clear hi); (try clear ho0)) | ((with_reducible refine gate_dst (N := 12) rfl ?_); refine bx_ 12 #[.int .i64 0, .int .i64 0, .int .i64 0, .slice none 0 0] 33 ?_; intro gb397 hg w94 hbox hb; have BK397 := Aside0.mk (hbox); have GW397 := bs_ HB hg; have GE397 := bs_ HB hg; have NB352_397 := bm_ BK352 hg; have NB397_352 := bn_ BK352 hg; have NB353_397 := bm_ BK353 hg; have NB397_353 := bn_ BK353 hg; have NB375_397 := bm_ BK375 hg; have NB397_375 := bn_ BK375 hg; have NB382_397 := bm_ BK382 hg; have NB397_382 := bn_ BK382 hg; have NB389_397 := bm_ BK389 hg; have NB397_389 := bn_ BK389 hg; replace HO361 := Aside0.mk (Kd.R_below (ra_ HO361.out) hb); replace HO367 := Aside0.mk (Kd.R_below (ra_ HO367.out) hb); replace HO373 := Aside0.mk (Kd.R_below (ra_ HO373.out) hb); replace HO381 := Aside0.mk (Kd.R_below (ra_ HO381.out) hb); replace HO388 := Aside0.mk (Kd.R_below (ra_ HO388.out) hb); replace HO395 := Aside0.mk (Kd.R_below (ra_ HO395.out) hb); replace BK352 := bb_ BK352 hb; replace BK353 := bb_ BK353 hb; replace BK375 := bb_ BK375 hb; replace BK382 := bb_ BK382 hb; replace BK389 := bb_ BK389 hb; replace HB := bt_ HB hb; clear hb hbox hg; have hnb95 := NB397_352.out; have hnc95 := NB352_397.out; have hnb96 := NB397_353.out; have hnc96 := NB353_397.out; have hnb97 := NB397_375.out; have hnc97 := NB375_397.out; have hnb98 := NB397_382.out; have hnc98 := NB382_397.out; have hnb99 := NB397_389.out; have hnc99 := NB389_397.out; have hcz100_0 : w94.cell? ⟨gb397, 0, none⟩ = some (.int .i64 0) := cz_ BK397 0; have hcz100_1 : w94.cell? ⟨gb397, 1, none⟩ = some (.int .i64 0) := cz_ BK397 1; have hcz100_2 : w94.cell? ⟨gb397, 2, none⟩ = some (.int .i64 0) := cz_ BK397 2; have hcz100_3 : w94.cell? ⟨gb397, 3, none⟩ = some (.slice none 0 0) := cz_ BK397 3; have hfz100_0 := fz_ BK397 0; have hfz100_1 := fz_ BK397 1; have hfz100_2 := fz_ BK397 2; have hfz100_3 := fz_ BK397 3; obtain ⟨Ao101, co101, eo101⟩ := Kd.R_slice HO395.out; subst eo101; have hcz102_0 : w94.cell? ⟨gb375, 0, none⟩ = some (.int .i64 t368) := cz_ BK375 0; have hcz102_1 : w94.cell? ⟨gb375, 1, none⟩ = some (.int .i64 t369) := cz_ BK375 1; have hcz102_2 : w94.cell? ⟨gb375, 2, none⟩ = some (.int .i64 t370) := cz_ BK375 2; have hcz102_3 : w94.cell? ⟨gb375, 3, none⟩ = some (.slice Ao71 t371.length co71) := cz_ BK375 3; have hfz102_0 := fz_ BK375 0; have hfz102_1 := fz_ BK375 1; have hfz102_2 := fz_ BK375 2; have hfz102_3 := fz_ BK375 3) | ((with_reducible refine gate_callee (f := 12) rfl ?_); refine ge_ 51 Try.func12 #[.agg #[.int .i64 t390, .int .i64 t391, .int .i64 t392, .slice Ao101 t393.length co101], .agg #[.int .i64 t368, .int .i64 t369, .int .i64 t370, .slice Ao71 t371.length co71]] ?_; (with_reducible refine (laws_eqMeasure.calls k t390 t391 t392 _ _ t393 t368 t369 t370 _ _ t371 true _ ?side1 ?side2 ?side3 ?side4 A26.out).mono ?_); (case side1 => refine (Kd.R_reads' (e := 63) (base := w.heap.size) (ok := fun k_ => (((((True ∧ some k_ ≠ (v360 : Value).ownBlock) ∧ some k_ ≠ (v366 : Value).ownBlock) ∧ some k_ ≠ (.slice Ao71 t371.length co71 : Value).ownBlock) ∧ some k_ ≠ (.slice Ao81 t379.length co81 : Value).ownBlock) ∧ some k_ ≠ (.slice Ao91 t386.length co91 : Value).ownBlock)) (n := t393.length) (c := co101) ?_).2.2; exact (ra_ (rs4_ HO395.out BK397.out))); (case side2 => exact (Kd.R_reads' HO395.out).2.1); (case side3 => refine (Kd.R_reads' (e := 63) (base := w.heap.size) (ok := fun k_ => ((((some k_ ≠ (v360 : Value).ownBlock ∧ some k_ ≠ (v366 : Value).ownBlock) ∧ some k_ ≠ (.slice Ao81 t379.length co81 : Value).ownBlock) ∧ some k_ ≠ (.slice Ao91 t386.length co91 : Value).ownBlock) ∧ some k_ ≠ (.slice Ao101 t393.length co101 : Value).ownBlock)) (n := t371.length) (c := co71) ?_).2.2; exact (ra_ (rs4_ HO373.out BK397.out))); (case side4 => exact (Kd.R_reads' HO373.out).2.1); rintro e w103 ⟨rfl, hb⟩; refine ⟨_, rfl, ?_⟩; replace HO361 := Aside0.mk (Kd.R_below (ra_ (rs4_ HO361.out BK397.out)) hb); replace HO367 := Aside0.mk (Kd.R_below (ra_ (rs4_ HO367.out BK397.out)) hb); replace HO373 := Aside0.mk (Kd.R_below (ra_ (rs4_ HO373.out BK397.out)) hb); replace HO381 := Aside0.mk (Kd.R_below (ra_ (rs4_ HO381.out BK397.out)) hb); replace HO388 := Aside0.mk (Kd.R_below (ra_ (rs4_ HO388.out BK397.out)) hb); replace HO395 := Aside0.mk (Kd.R_below (ra_ (rs4_ HO395.out BK397.out)) hb); replace BK352 := fb_ BK352 NB352_397 hb; replace BK353 := fb_ BK353 NB353_397 hb; replace BK375 := fb_ BK375 NB375_397 hb; replace BK382 := fb_ BK382 NB382_397 hb; replace BK389 := fb_ BK389 NB389_397 hb; replace BK397 := Aside0.mk (blk_below (g := gb397) (o := .cells #[.int .i64 t390, .int .i64 t391, .int .i64 t392, .slice Ao101 t393.length co101] 33 (0, 0)) (by (with_reducible repeat first | apply blk_drewN | apply blk_drew | apply blk_alloc); refine blk_put (cs := #[.int .i64 t390, .int .i64 t391, .int .i64 t392, .slice none 0 0]) ?_ 3 _ rfl; (with_reducible repeat first | apply blk_drewN | apply blk_drew | apply blk_alloc); refine blk_put (cs := #[.int .i64 t390, .int .i64 t391, .int .i64 0, .slice none 0 0]) ?_ 2 _ rfl; (with_reducible repeat first | apply blk_drewN | apply blk_drew | apply blk_alloc); refine blk_put (cs := #[.int .i64 t390, .int .i64 0, .int .i64 0, .slice none 0 0]) ?_ 1 _ rfl; (with_reducible repeat first | apply blk_drewN | apply blk_drew | apply blk_alloc); refine blk_put (cs := #[.int .i64 0, .int .i64 0, .int .i64 0, .slice none 0 0]) ?_ 0 _ rfl; (with_reducible repeat first | apply blk_drewN | apply blk_drew | apply blk_alloc); exact BK397.out) hb); replace HB := bt_ HB hb; (try clear hb); (try clear hb2); (try clear hk); (try clear hi)))
               replace HO361 := Aside0.mk (Kd.R_drew HO361.out)
               replace HO367 := Aside0.mk (Kd.R_drew HO367.out)
               replace HO373 := Aside0.mk (Kd.R_drew HO373.out)
               replace HO381 := Aside0.mk (Kd.R_drew HO381.out)
               replace HO388 := Aside0.mk (Kd.R_drew HO388.out)
               replace HO395 := Aside0.mk (Kd.R_drew HO395.out)
               replace BK352 := Aside0.mk (blk_drew BK352.out)
               replace BK353 := Aside0.mk (blk_drew BK353.out)
               replace BK375 := Aside0.mk (blk_drew BK375.out)
               replace BK382 := Aside0.mk (blk_drew BK382.out)
               replace BK389 := Aside0.mk (blk_drew BK389.out)
               replace BK397 := Aside0.mk (blk_drew BK397.out)
               replace HB := Aside0.mk (below_drew1 HB.out)
               refine start_ (n := 5) (S := fun w' => w'.cell? ⟨gb382, 0, none⟩ = some (.int .i64 t376) ∧ w'.cell? ⟨gb382, 1, none⟩ = some (.int .i64 t377) ∧ w'.cell? ⟨gb382, 2, none⟩ = some (.int .i64 t378) ∧ w'.cell? ⟨gb382, 3, none⟩ = some (.slice Ao81 t379.length co81) ∧ w'.cell? ⟨gb352, 0, none⟩ = some (.int .i64 a1_0) ∧ w'.cell? ⟨gb352, 1, none⟩ = some (.int .i64 a1_1) ∧ w'.cell? ⟨gb352, 2, none⟩ = some (.int .i64 a1_2) ∧ w'.cell? ⟨gb352, 3, none⟩ = some (.slice A1_3 l1_3.length c1_3)) (ds := []) (bv_ 5 0) (by kernel_rfl) rfl rfl ⟨(blk_cell BK382.out 0).trans rfl, (blk_cell BK382.out 1).trans rfl, (blk_cell BK382.out 2).trans rfl, (blk_cell BK382.out 3).trans rfl, (blk_cell BK352.out 0).trans rfl, (blk_cell BK352.out 1).trans rfl, (blk_cell BK352.out 2).trans rfl, (blk_cell BK352.out 3).trans rfl⟩ (fun hHeld => ?_)
               generalize w103.drew = w104 at HO361 HO367 HO373 HO381 HO388 HO395 BK352 BK353 BK375 BK382 BK389 BK397 HB hHeld ⊢
               refine take_ (i := 0) (N := some 58) (v := ?_) (a' := ?_) (bv_ 5 1) rfl rfl (by kernel_rfl) (fun _ _ _ h => h) (Or.inl ⟨by rfl, ?_⟩) hHeld ?_ ?_
               rotate_left
               ·rintro w' ⟨s0, s1, s2, s3, s4, s5, s6, s7⟩
                go_simp
                with_reducible rfl
               rotate_left
               ·simp only [Act.put, lstS, lstZ, lstC, i64_w, i32_w]
                rfl
               refine take_ (i := 1) (N := some 59) (v := ?_) (a' := ?_) (bv_ 5 3) rfl rfl (by kernel_rfl) (fun _ _ _ h => h) (Or.inl ⟨by rfl, ?_⟩) hHeld ?_ ?_
               rotate_left
               ·rintro w' ⟨s0, s1, s2, s3, s4, s5, s6, s7⟩
                go_simp
                with_reducible rfl
               rotate_left
               ·simp only [Act.put, lstS, lstZ, lstC, i64_w, i32_w]
                rfl
               refine one_ (i := 2) (N := some 60) (bv_ 5 7) rfl rfl (by kernel_rfl) (by decide) (fun K hK => ?_)
               refine goes_ Try.func9 (by kernel_rfl) rfl #[.agg #[.int .i64 a1_0, .int .i64 a1_1, .int .i64 a1_2, .slice A1_3 l1_3.length c1_3]] (by rfl) rfl rfl (by (try simp only [List.map_toArray, List.map_cons, List.map_nil]); first | done | rfl | (simp only [List.length_drop, List.length_take]; rfl)) ?_
               with_reducible refine (laws_toMeasure.calls k a1_0 a1_1 a1_2 _ _ l1_3 t399 t400 t401 t402 _ ?side1 ?side2 A29.out).mono ?_
               (case side1 => repeat (first | exact (Kd.C_below HR1_3.out HB.out) | (with_reducible refine Kd.C_alloc ?_ _) | (with_reducible refine Kd.C_drewN ?_ _) | (with_reducible refine Kd.C_drew ?_)))
               (case side2 => exact HC1_3.out)
               rintro e w105 ⟨v403, rfl, ho0, hb⟩
               refine ⟨_, rfl, ?_⟩
               have HO404 := Aside0.mk (Kd.R_lower (Kd.R_new' (Kd.R_new' (Kd.R_new' (Kd.R_new' (Kd.R_new' (Kd.R_new' ho0 (Kd.R_lt (ra_ HO361.out))) (Kd.R_lt (ra_ HO367.out))) (Kd.R_lt (ra_ HO373.out))) (Kd.R_lt (ra_ HO381.out))) (Kd.R_lt (ra_ HO388.out))) (Kd.R_lt (ra_ HO395.out))) (below_size (bw_ HB).out))
               replace HO361 := Aside0.mk (Kd.R_elder' (ra_ HO361.out) (Kd.R_base ho0) hb)
               replace HO367 := Aside0.mk (Kd.R_elder' (ra_ HO367.out) (Kd.R_base ho0) hb)
               replace HO373 := Aside0.mk (Kd.R_elder' (ra_ HO373.out) (Kd.R_base ho0) hb)
               replace HO381 := Aside0.mk (Kd.R_elder' (ra_ HO381.out) (Kd.R_base ho0) hb)
               replace HO388 := Aside0.mk (Kd.R_elder' (ra_ HO388.out) (Kd.R_base ho0) hb)
               replace HO395 := Aside0.mk (Kd.R_elder' (ra_ HO395.out) (Kd.R_base ho0) hb)
               replace BK352 := bb_ BK352 hb
               replace BK353 := bb_ BK353 hb
               replace BK375 := bb_ BK375 hb
               replace BK382 := bb_ BK382 hb
               replace BK389 := bb_ BK389 hb
               replace BK397 := bb_ BK397 hb
               replace HB := bt_ HB hb
               (try clear hb)
               (try clear hb2)
               (try clear hk)
               (try clear hi)
               (try clear ho0)
               obtain ⟨Ao106, co106, eo106⟩ := Kd.R_slice HO404.out
               (first | subst eo106 | (injection eo106 with f1_ f2_ f3_; have f4_ := f1_.symm; have f5_ := f3_.symm; clear f1_ f2_ f3_; subst f4_; subst f5_))
               refine hK.out _ _ ⟨(blk_cell BK382.out 0).trans rfl, (blk_cell BK382.out 1).trans rfl, (blk_cell BK382.out 2).trans rfl, (blk_cell BK382.out 3).trans rfl, (blk_cell BK352.out 0).trans rfl, (blk_cell BK352.out 1).trans rfl, (blk_cell BK352.out 2).trans rfl, (blk_cell BK352.out 3).trans rfl⟩ (fun hHeld => ?_)
               clear hK K
               refine norm_ (a' := ?_) ?_ ?_
               rotate_left
               ·show Act.put _ (some 60) _ = _
                simp only [Act.put, lstS, lstZ, lstC, i64_w, i32_w]
                rfl
               refine one_ (i := 3) (N := some 61) (bv_ 5 15) rfl rfl (by kernel_rfl) (by decide) (fun K hK => ?_)
               refine goes_ Try.func12 (by kernel_rfl) rfl #[.agg #[.int .i64 t376, .int .i64 t377, .int .i64 t378, .slice Ao81 t379.length co81], .agg #[.int .i64 t399, .int .i64 t400, .int .i64 t401, .slice Ao106 t402.length co106]] (by rfl) rfl rfl (by (try simp only [List.map_toArray, List.map_cons, List.map_nil]); first | done | rfl | (simp only [List.length_drop, List.length_take]; rfl)) ?_
               with_reducible refine (laws_eqMeasure.calls k t376 t377 t378 _ _ t379 t399 t400 t401 _ _ t402 true _ ?side1 ?side2 ?side3 ?side4 A30.out).mono ?_
               (case side1 => repeat (first | exact (Kd.R_reads' HO381.out).2.2 | (with_reducible refine Kd.C_alloc ?_ _) | (with_reducible refine Kd.C_drewN ?_ _) | (with_reducible refine Kd.C_drew ?_)))
               (case side2 => exact (Kd.R_reads' HO381.out).2.1)
               (case side3 => repeat (first | exact (Kd.R_reads' HO404.out).2.2 | (with_reducible refine Kd.C_alloc ?_ _) | (with_reducible refine Kd.C_drewN ?_ _) | (with_reducible refine Kd.C_drew ?_)))
               (case side4 => exact (Kd.R_reads' HO404.out).2.1)
               rintro e w107 ⟨rfl, hb⟩
               refine ⟨_, rfl, ?_⟩
               replace HO361 := Aside0.mk (Kd.R_below (ra_ HO361.out) hb)
               replace HO367 := Aside0.mk (Kd.R_below (ra_ HO367.out) hb)
               replace HO373 := Aside0.mk (Kd.R_below (ra_ HO373.out) hb)
               replace HO381 := Aside0.mk (Kd.R_below (ra_ HO381.out) hb)
               replace HO388 := Aside0.mk (Kd.R_below (ra_ HO388.out) hb)
               replace HO395 := Aside0.mk (Kd.R_below (ra_ HO395.out) hb)
               replace HO404 := Aside0.mk (Kd.R_below (ra_ HO404.out) hb)
               replace BK352 := bb_ BK352 hb
               replace BK353 := bb_ BK353 hb
               replace BK375 := bb_ BK375 hb
               replace BK382 := bb_ BK382 hb
               replace BK389 := bb_ BK389 hb
               replace BK397 := bb_ BK397 hb
               replace HB := bt_ HB hb
               (try clear hb)
               (try clear hb2)
               (try clear hk)
               (try clear hi)
               refine hK.out _ _ ⟨(blk_cell BK382.out 0).trans rfl, (blk_cell BK382.out 1).trans rfl, (blk_cell BK382.out 2).trans rfl, (blk_cell BK382.out 3).trans rfl, (blk_cell BK352.out 0).trans rfl, (blk_cell BK352.out 1).trans rfl, (blk_cell BK352.out 2).trans rfl, (blk_cell BK352.out 3).trans rfl⟩ (fun hHeld => ?_)
               clear hK K
               refine norm_ (a' := ?_) ?_ ?_
               rotate_left
               ·show Act.put _ (some 61) _ = _
                simp only [Act.put, lstS, lstZ, lstC, i64_w, i32_w]
                rfl
               refine pure_ (i := 4) (N := some 62) (v := ?_) (a' := ?_) (bv_ 5 31) rfl rfl (by kernel_rfl) (fun _ _ _ h => h) (Or.inl ⟨by rfl, ?_⟩) ?_ ?_
               rotate_left
               ·intro w'
                go_simp
                with_reducible rfl
               rotate_left
               ·simp only [Act.put, lstS, lstZ, lstC, i64_w, i32_w]
                rfl
               refine done_ (by kernel_rfl) ?_
               try go_wp2
               replace HO361 := Aside0.mk (Kd.R_drew HO361.out)
               replace HO367 := Aside0.mk (Kd.R_drew HO367.out)
               replace HO373 := Aside0.mk (Kd.R_drew HO373.out)
               replace HO381 := Aside0.mk (Kd.R_drew HO381.out)
               replace HO388 := Aside0.mk (Kd.R_drew HO388.out)
               replace HO395 := Aside0.mk (Kd.R_drew HO395.out)
               replace HO404 := Aside0.mk (Kd.R_drew HO404.out)
               replace BK352 := Aside0.mk (blk_drew BK352.out)
               replace BK353 := Aside0.mk (blk_drew BK353.out)
               replace BK375 := Aside0.mk (blk_drew BK375.out)
               replace BK382 := Aside0.mk (blk_drew BK382.out)
               replace BK389 := Aside0.mk (blk_drew BK389.out)
               replace BK397 := Aside0.mk (blk_drew BK397.out)
               replace HB := Aside0.mk (below_drew1 HB.out)
               refine start_ (n := 5) (S := fun w' => w'.cell? ⟨gb389, 0, none⟩ = some (.int .i64 t383) ∧ w'.cell? ⟨gb389, 1, none⟩ = some (.int .i64 t384) ∧ w'.cell? ⟨gb389, 2, none⟩ = some (.int .i64 t385) ∧ w'.cell? ⟨gb389, 3, none⟩ = some (.slice Ao91 t386.length co91) ∧ w'.cell? ⟨gb353, 0, none⟩ = some (.int .i64 a2_0) ∧ w'.cell? ⟨gb353, 1, none⟩ = some (.int .i64 a2_1) ∧ w'.cell? ⟨gb353, 2, none⟩ = some (.int .i64 a2_2) ∧ w'.cell? ⟨gb353, 3, none⟩ = some (.slice A2_3 l2_3.length c2_3)) (ds := []) (bv_ 5 0) (by kernel_rfl) rfl rfl ⟨(blk_cell BK389.out 0).trans rfl, (blk_cell BK389.out 1).trans rfl, (blk_cell BK389.out 2).trans rfl, (blk_cell BK389.out 3).trans rfl, (blk_cell BK353.out 0).trans rfl, (blk_cell BK353.out 1).trans rfl, (blk_cell BK353.out 2).trans rfl, (blk_cell BK353.out 3).trans rfl⟩ (fun hHeld => ?_)
               generalize w107.drew = w108 at HO361 HO367 HO373 HO381 HO388 HO395 HO404 BK352 BK353 BK375 BK382 BK389 BK397 HB hHeld ⊢
               refine take_ (i := 0) (N := some 63) (v := ?_) (a' := ?_) (bv_ 5 1) rfl rfl (by kernel_rfl) (fun _ _ _ h => h) (Or.inl ⟨by rfl, ?_⟩) hHeld ?_ ?_
               rotate_left
               ·rintro w' ⟨s0, s1, s2, s3, s4, s5, s6, s7⟩
                go_simp
                with_reducible rfl
               rotate_left
               ·simp only [Act.put, lstS, lstZ, lstC, i64_w, i32_w]
                rfl
               refine take_ (i := 1) (N := some 64) (v := ?_) (a' := ?_) (bv_ 5 3) rfl rfl (by kernel_rfl) (fun _ _ _ h => h) (Or.inl ⟨by rfl, ?_⟩) hHeld ?_ ?_
               rotate_left
               ·rintro w' ⟨s0, s1, s2, s3, s4, s5, s6, s7⟩
                go_simp
                with_reducible rfl
               rotate_left
               ·simp only [Act.put, lstS, lstZ, lstC, i64_w, i32_w]
                rfl
               refine one_ (i := 2) (N := some 65) (bv_ 5 7) rfl rfl (by kernel_rfl) (by decide) (fun K hK => ?_)
               refine goes_ Try.func9 (by kernel_rfl) rfl #[.agg #[.int .i64 a2_0, .int .i64 a2_1, .int .i64 a2_2, .slice A2_3 l2_3.length c2_3]] (by rfl) rfl rfl (by (try simp only [List.map_toArray, List.map_cons, List.map_nil]); first | done | rfl | (simp only [List.length_drop, List.length_take]; rfl)) ?_
               with_reducible refine (laws_toMeasure.calls k a2_0 a2_1 a2_2 _ _ l2_3 t406 t407 t408 t409 _ ?side1 ?side2 A32.out).mono ?_
               (case side1 => repeat (first | exact (Kd.C_below HR2_3.out HB.out) | (with_reducible refine Kd.C_alloc ?_ _) | (with_reducible refine Kd.C_drewN ?_ _) | (with_reducible refine Kd.C_drew ?_)))
               (case side2 => exact HC2_3.out)
               rintro e w109 ⟨v410, rfl, ho0, hb⟩
               refine ⟨_, rfl, ?_⟩
               have HO411 := Aside0.mk (Kd.R_lower (Kd.R_new' (Kd.R_new' (Kd.R_new' (Kd.R_new' (Kd.R_new' (Kd.R_new' (Kd.R_new' ho0 (Kd.R_lt (ra_ HO361.out))) (Kd.R_lt (ra_ HO367.out))) (Kd.R_lt (ra_ HO373.out))) (Kd.R_lt (ra_ HO381.out))) (Kd.R_lt (ra_ HO388.out))) (Kd.R_lt (ra_ HO395.out))) (Kd.R_lt (ra_ HO404.out))) (below_size (bw_ HB).out))
               replace HO361 := Aside0.mk (Kd.R_elder' (ra_ HO361.out) (Kd.R_base ho0) hb)
               replace HO367 := Aside0.mk (Kd.R_elder' (ra_ HO367.out) (Kd.R_base ho0) hb)
               replace HO373 := Aside0.mk (Kd.R_elder' (ra_ HO373.out) (Kd.R_base ho0) hb)
               replace HO381 := Aside0.mk (Kd.R_elder' (ra_ HO381.out) (Kd.R_base ho0) hb)
               replace HO388 := Aside0.mk (Kd.R_elder' (ra_ HO388.out) (Kd.R_base ho0) hb)
               replace HO395 := Aside0.mk (Kd.R_elder' (ra_ HO395.out) (Kd.R_base ho0) hb)
               replace HO404 := Aside0.mk (Kd.R_elder' (ra_ HO404.out) (Kd.R_base ho0) hb)
               replace BK352 := bb_ BK352 hb
               replace BK353 := bb_ BK353 hb
               replace BK375 := bb_ BK375 hb
               replace BK382 := bb_ BK382 hb
               replace BK389 := bb_ BK389 hb
               replace BK397 := bb_ BK397 hb
               replace HB := bt_ HB hb
               (try clear hb)
               (try clear hb2)
               (try clear hk)
               (try clear hi)
               (try clear ho0)
               obtain ⟨Ao110, co110, eo110⟩ := Kd.R_slice HO411.out
               (first | subst eo110 | (injection eo110 with f1_ f2_ f3_; have f4_ := f1_.symm; have f5_ := f3_.symm; clear f1_ f2_ f3_; subst f4_; subst f5_))
               refine hK.out _ _ ⟨(blk_cell BK389.out 0).trans rfl, (blk_cell BK389.out 1).trans rfl, (blk_cell BK389.out 2).trans rfl, (blk_cell BK389.out 3).trans rfl, (blk_cell BK353.out 0).trans rfl, (blk_cell BK353.out 1).trans rfl, (blk_cell BK353.out 2).trans rfl, (blk_cell BK353.out 3).trans rfl⟩ (fun hHeld => ?_)
               clear hK K
               refine norm_ (a' := ?_) ?_ ?_
               rotate_left
               ·show Act.put _ (some 65) _ = _
                simp only [Act.put, lstS, lstZ, lstC, i64_w, i32_w]
                rfl
               refine one_ (i := 3) (N := some 66) (bv_ 5 15) rfl rfl (by kernel_rfl) (by decide) (fun K hK => ?_)
               refine goes_ Try.func12 (by kernel_rfl) rfl #[.agg #[.int .i64 t383, .int .i64 t384, .int .i64 t385, .slice Ao91 t386.length co91], .agg #[.int .i64 t406, .int .i64 t407, .int .i64 t408, .slice Ao110 t409.length co110]] (by rfl) rfl rfl (by (try simp only [List.map_toArray, List.map_cons, List.map_nil]); first | done | rfl | (simp only [List.length_drop, List.length_take]; rfl)) ?_
               with_reducible refine (laws_eqMeasure.calls k t383 t384 t385 _ _ t386 t406 t407 t408 _ _ t409 true _ ?side1 ?side2 ?side3 ?side4 A33.out).mono ?_
               (case side1 => repeat (first | exact (Kd.R_reads' HO388.out).2.2 | (with_reducible refine Kd.C_alloc ?_ _) | (with_reducible refine Kd.C_drewN ?_ _) | (with_reducible refine Kd.C_drew ?_)))
               (case side2 => exact (Kd.R_reads' HO388.out).2.1)
               (case side3 => repeat (first | exact (Kd.R_reads' HO411.out).2.2 | (with_reducible refine Kd.C_alloc ?_ _) | (with_reducible refine Kd.C_drewN ?_ _) | (with_reducible refine Kd.C_drew ?_)))
               (case side4 => exact (Kd.R_reads' HO411.out).2.1)
               rintro e w111 ⟨rfl, hb⟩
               refine ⟨_, rfl, ?_⟩
               replace HO361 := Aside0.mk (Kd.R_below (ra_ HO361.out) hb)
               replace HO367 := Aside0.mk (Kd.R_below (ra_ HO367.out) hb)
               replace HO373 := Aside0.mk (Kd.R_below (ra_ HO373.out) hb)
               replace HO381 := Aside0.mk (Kd.R_below (ra_ HO381.out) hb)
               replace HO388 := Aside0.mk (Kd.R_below (ra_ HO388.out) hb)
               replace HO395 := Aside0.mk (Kd.R_below (ra_ HO395.out) hb)
               replace HO404 := Aside0.mk (Kd.R_below (ra_ HO404.out) hb)
               replace HO411 := Aside0.mk (Kd.R_below (ra_ HO411.out) hb)
               replace BK352 := bb_ BK352 hb
               replace BK353 := bb_ BK353 hb
               replace BK375 := bb_ BK375 hb
               replace BK382 := bb_ BK382 hb
               replace BK389 := bb_ BK389 hb
               replace BK397 := bb_ BK397 hb
               replace HB := bt_ HB hb
               (try clear hb)
               (try clear hb2)
               (try clear hk)
               (try clear hi)
               refine hK.out _ _ ⟨(blk_cell BK389.out 0).trans rfl, (blk_cell BK389.out 1).trans rfl, (blk_cell BK389.out 2).trans rfl, (blk_cell BK389.out 3).trans rfl, (blk_cell BK353.out 0).trans rfl, (blk_cell BK353.out 1).trans rfl, (blk_cell BK353.out 2).trans rfl, (blk_cell BK353.out 3).trans rfl⟩ (fun hHeld => ?_)
               clear hK K
               refine norm_ (a' := ?_) ?_ ?_
               rotate_left
               ·show Act.put _ (some 66) _ = _
                simp only [Act.put, lstS, lstZ, lstC, i64_w, i32_w]
                rfl
               refine pure_ (i := 4) (N := some 67) (v := ?_) (a' := ?_) (bv_ 5 31) rfl rfl (by kernel_rfl) (fun _ _ _ h => h) (Or.inl ⟨by rfl, ?_⟩) ?_ ?_
               rotate_left
               ·intro w'
                go_simp
                with_reducible rfl
               rotate_left
               ·simp only [Act.put, lstS, lstZ, lstC, i64_w, i32_w]
                rfl
               refine done_ (by kernel_rfl) ?_
               have hcz112_0 : w111.cell? ⟨gb382, 0, none⟩ = some (.int .i64 t376) := cz_ BK382 0
               have hcz112_1 : w111.cell? ⟨gb382, 1, none⟩ = some (.int .i64 t377) := cz_ BK382 1
               have hcz112_2 : w111.cell? ⟨gb382, 2, none⟩ = some (.int .i64 t378) := cz_ BK382 2
               have hcz112_3 : w111.cell? ⟨gb382, 3, none⟩ = some (.slice Ao81 t379.length co81) := cz_ BK382 3
               have hfz112_0 := fz_ BK382 0
               have hfz112_1 := fz_ BK382 1
               have hfz112_2 := fz_ BK382 2
               have hfz112_3 := fz_ BK382 3
               try go_wp2_with (first | ((with_reducible refine gate_callee (f := 15) rfl ?_); refine ge_ 70 Try.func15 #[.agg #[.int .i64 t376, .int .i64 t377, .int .i64 t378, .slice Ao81 t379.length co81], .int .i64 1] ?_; (with_reducible refine (laws_markMeasure.calls k t376 t377 t378 (fun k_ => some k_ = (.slice Ao81 t379.length co81 : Value).ownBlock) (.slice Ao81 t379.length co81) t379 1 t413 t414 w _ ?side1 ?side2 A35.out).mono ?_); (case side1 => repeat (first | (with_reducible first | exact HB.out | apply below_alloc | apply pw_below_drewN | apply below_drew1 | refine below_set ?_ GE352.out | refine below_set ?_ GE353.out | refine below_set ?_ GE375.out | refine below_set ?_ GE382.out | refine below_set ?_ GE389.out | refine below_set ?_ GE397.out) | exact HB.out)); (case side2 => exact Kd.R_tight rfl HO381.out); rintro e w113 ⟨rfl, hy0, hb, hkp⟩; refine ⟨_, rfl, ?_⟩; replace BK352 := Aside0.mk (blk_kept (bl_ BK352).out hkp (fun hs_ => (fun e_ => (Kd.R_ne HO381.out BK352.out (by decide)) e_) hs_)); replace BK353 := Aside0.mk (blk_kept (bl_ BK353).out hkp (fun hs_ => (fun e_ => (Kd.R_ne HO381.out BK353.out (by decide)) e_) hs_)); replace HO361 := Aside0.mk (Kd.R_mono (ok' := fun k_ => some k_ ≠ (v366 : Value).ownBlock ∧ some k_ ≠ (.slice Ao71 t371.length co71 : Value).ownBlock ∧ some k_ ≠ (.slice Ao81 t379.length co81 : Value).ownBlock ∧ some k_ ≠ (.slice Ao91 t386.length co91 : Value).ownBlock ∧ some k_ ≠ (.slice Ao101 t393.length co101 : Value).ownBlock ∧ some k_ ≠ (.slice Ao106 t402.length co106 : Value).ownBlock ∧ some k_ ≠ (.slice Ao110 t409.length co110 : Value).ownBlock) (Kd.R_keptB (HO361.out) hkp (fun k_ hk_ hs_ => (hk_.1.1.1.1.2) hs_)) (fun k_ hk_ => ⟨hk_.1.1.1.1.1.1.1, hk_.1.1.1.1.1.1.2, hk_.1.1.1.1.1.2, hk_.1.1.1.1.2, hk_.1.1.1.2, hk_.1.1.2, hk_.1.2⟩)); replace HO367 := Aside0.mk (Kd.R_mono (ok' := fun k_ => some k_ ≠ (v360 : Value).ownBlock ∧ some k_ ≠ (.slice Ao71 t371.length co71 : Value).ownBlock ∧ some k_ ≠ (.slice Ao81 t379.length co81 : Value).ownBlock ∧ some k_ ≠ (.slice Ao91 t386.length co91 : Value).ownBlock ∧ some k_ ≠ (.slice Ao101 t393.length co101 : Value).ownBlock ∧ some k_ ≠ (.slice Ao106 t402.length co106 : Value).ownBlock ∧ some k_ ≠ (.slice Ao110 t409.length co110 : Value).ownBlock) (Kd.R_keptB (HO367.out) hkp (fun k_ hk_ hs_ => (hk_.1.1.1.1.2) hs_)) (fun k_ hk_ => ⟨hk_.1.1.1.1.1.1.1, hk_.1.1.1.1.1.1.2, hk_.1.1.1.1.1.2, hk_.1.1.1.1.2, hk_.1.1.1.2, hk_.1.1.2, hk_.1.2⟩)); replace HO373 := Aside0.mk (Kd.R_mono (ok' := fun k_ => some k_ ≠ (v360 : Value).ownBlock ∧ some k_ ≠ (v366 : Value).ownBlock ∧ some k_ ≠ (.slice Ao81 t379.length co81 : Value).ownBlock ∧ some k_ ≠ (.slice Ao91 t386.length co91 : Value).ownBlock ∧ some k_ ≠ (.slice Ao101 t393.length co101 : Value).ownBlock ∧ some k_ ≠ (.slice Ao106 t402.length co106 : Value).ownBlock ∧ some k_ ≠ (.slice Ao110 t409.length co110 : Value).ownBlock) (Kd.R_keptB (HO373.out) hkp (fun k_ hk_ hs_ => (hk_.1.1.1.1.2) hs_)) (fun k_ hk_ => ⟨hk_.1.1.1.1.1.1.1, hk_.1.1.1.1.1.1.2, hk_.1.1.1.1.1.2, hk_.1.1.1.1.2, hk_.1.1.1.2, hk_.1.1.2, hk_.1.2⟩)); replace BK375 := Aside0.mk (blk_kept (bl_ BK375).out hkp (fun hs_ => (fun e_ => (Kd.R_ne HO381.out BK375.out (by decide)) e_) hs_)); replace BK382 := Aside0.mk (blk_kept (bl_ BK382).out hkp (fun hs_ => (fun e_ => (Kd.R_ne HO381.out BK382.out (by decide)) e_) hs_)); replace HO388 := Aside0.mk (Kd.R_mono (ok' := fun k_ => some k_ ≠ (v360 : Value).ownBlock ∧ some k_ ≠ (v366 : Value).ownBlock ∧ some k_ ≠ (.slice Ao71 t371.length co71 : Value).ownBlock ∧ some k_ ≠ (.slice Ao81 t379.length co81 : Value).ownBlock ∧ some k_ ≠ (.slice Ao101 t393.length co101 : Value).ownBlock ∧ some k_ ≠ (.slice Ao106 t402.length co106 : Value).ownBlock ∧ some k_ ≠ (.slice Ao110 t409.length co110 : Value).ownBlock) (Kd.R_keptB (HO388.out) hkp (fun k_ hk_ hs_ => (hk_.1.1.1.2) hs_)) (fun k_ hk_ => ⟨hk_.1.1.1.1.1.1.1.2, hk_.1.1.1.1.1.1.2, hk_.1.1.1.1.1.2, hk_.1.1.1.1.2, hk_.1.1.1.2, hk_.1.1.2, hk_.1.2⟩)); replace BK389 := Aside0.mk (blk_kept (bl_ BK389).out hkp (fun hs_ => (fun e_ => (Kd.R_ne HO381.out BK389.out (by decide)) e_) hs_)); replace HO395 := Aside0.mk (Kd.R_mono (ok' := fun k_ => some k_ ≠ (v360 : Value).ownBlock ∧ some k_ ≠ (v366 : Value).ownBlock ∧ some k_ ≠ (.slice Ao71 t371.length co71 : Value).ownBlock ∧ some k_ ≠ (.slice Ao81 t379.length co81 : Value).ownBlock ∧ some k_ ≠ (.slice Ao91 t386.length co91 : Value).ownBlock ∧ some k_ ≠ (.slice Ao106 t402.length co106 : Value).ownBlock ∧ some k_ ≠ (.slice Ao110 t409.length co110 : Value).ownBlock) (Kd.R_keptB (HO395.out) hkp (fun k_ hk_ hs_ => (hk_.1.1.1.2) hs_)) (fun k_ hk_ => ⟨hk_.1.1.1.1.1.1.1.2, hk_.1.1.1.1.1.1.2, hk_.1.1.1.1.1.2, hk_.1.1.1.1.2, hk_.1.1.1.2, hk_.1.1.2, hk_.1.2⟩)); replace BK397 := Aside0.mk (blk_kept (bl_ BK397).out hkp (fun hs_ => (fun e_ => (Kd.R_ne HO381.out BK397.out (by decide)) e_) hs_)); replace HO381 := Aside0.mk (Kd.R_reok rfl hy0 (fun k_ e_ => HO381.out.1 k_ e_)); replace HO404 := Aside0.mk (Kd.R_mono (ok' := fun k_ => some k_ ≠ (v360 : Value).ownBlock ∧ some k_ ≠ (v366 : Value).ownBlock ∧ some k_ ≠ (.slice Ao71 t371.length co71 : Value).ownBlock ∧ some k_ ≠ (.slice Ao81 t379.length co81 : Value).ownBlock ∧ some k_ ≠ (.slice Ao91 t386.length co91 : Value).ownBlock ∧ some k_ ≠ (.slice Ao101 t393.length co101 : Value).ownBlock ∧ some k_ ≠ (.slice Ao110 t409.length co110 : Value).ownBlock) (Kd.R_keptB (HO404.out) hkp (fun k_ hk_ hs_ => (hk_.1.1.1.2) hs_)) (fun k_ hk_ => ⟨hk_.1.1.1.1.1.1.1.2, hk_.1.1.1.1.1.1.2, hk_.1.1.1.1.1.2, hk_.1.1.1.1.2, hk_.1.1.1.2, hk_.1.1.2, hk_.1.2⟩)); replace HO411 := Aside0.mk (Kd.R_mono (ok' := fun k_ => some k_ ≠ (v360 : Value).ownBlock ∧ some k_ ≠ (v366 : Value).ownBlock ∧ some k_ ≠ (.slice Ao71 t371.length co71 : Value).ownBlock ∧ some k_ ≠ (.slice Ao81 t379.length co81 : Value).ownBlock ∧ some k_ ≠ (.slice Ao91 t386.length co91 : Value).ownBlock ∧ some k_ ≠ (.slice Ao101 t393.length co101 : Value).ownBlock ∧ some k_ ≠ (.slice Ao106 t402.length co106 : Value).ownBlock) (Kd.R_keptB (HO411.out) hkp (fun k_ hk_ hs_ => (hk_.1.1.1.2) hs_)) (fun k_ hk_ => ⟨hk_.1.1.1.1.1.1.1.2, hk_.1.1.1.1.1.1.2, hk_.1.1.1.1.1.2, hk_.1.1.1.1.2, hk_.1.1.1.2, hk_.1.1.2, hk_.1.2⟩)); replace HB := Aside0.mk (hb); (try clear hb); (try clear hkp); (try clear hy0); have hcz114_0 : w113.cell? ⟨gb389, 0, none⟩ = some (.int .i64 t383) := cz_ BK389 0; have hcz114_1 : w113.cell? ⟨gb389, 1, none⟩ = some (.int .i64 t384) := cz_ BK389 1; have hcz114_2 : w113.cell? ⟨gb389, 2, none⟩ = some (.int .i64 t385) := cz_ BK389 2; have hcz114_3 : w113.cell? ⟨gb389, 3, none⟩ = some (.slice Ao91 t386.length co91) := cz_ BK389 3; have hfz114_0 := fz_ BK389 0; have hfz114_1 := fz_ BK389 1; have hfz114_2 := fz_ BK389 2; have hfz114_3 := fz_ BK389 3) | ((with_reducible refine gate_callee (f := 15) rfl ?_); refine ge_ 73 Try.func15 #[.agg #[.int .i64 t383, .int .i64 t384, .int .i64 t385, .slice Ao91 t386.length co91], .int .i64 t413] ?_; (with_reducible refine (laws_markMeasure.calls k t383 t384 t385 (fun k_ => some k_ = (.slice Ao91 t386.length co91 : Value).ownBlock) (.slice Ao91 t386.length co91) t386 t413 t415 t416 w _ ?side1 ?side2 A36.out).mono ?_); (case side1 => repeat (first | (with_reducible first | exact HB.out | apply below_alloc | apply pw_below_drewN | apply below_drew1 | refine below_set ?_ GE352.out | refine below_set ?_ GE353.out | refine below_set ?_ GE375.out | refine below_set ?_ GE382.out | refine below_set ?_ GE389.out | refine below_set ?_ GE397.out) | exact HB.out)); (case side2 => exact Kd.R_tight rfl HO388.out); rintro e w115 ⟨rfl, hy0, hb, hkp⟩; refine ⟨_, rfl, ?_⟩; replace BK352 := Aside0.mk (blk_kept (bl_ BK352).out hkp (fun hs_ => (fun e_ => (Kd.R_ne HO388.out BK352.out (by decide)) e_) hs_)); replace BK353 := Aside0.mk (blk_kept (bl_ BK353).out hkp (fun hs_ => (fun e_ => (Kd.R_ne HO388.out BK353.out (by decide)) e_) hs_)); replace HO361 := Aside0.mk (Kd.R_mono (ok' := fun k_ => some k_ ≠ (v366 : Value).ownBlock ∧ some k_ ≠ (.slice Ao71 t371.length co71 : Value).ownBlock ∧ some k_ ≠ (.slice Ao81 t379.length co81 : Value).ownBlock ∧ some k_ ≠ (.slice Ao91 t386.length co91 : Value).ownBlock ∧ some k_ ≠ (.slice Ao101 t393.length co101 : Value).ownBlock ∧ some k_ ≠ (.slice Ao106 t402.length co106 : Value).ownBlock ∧ some k_ ≠ (.slice Ao110 t409.length co110 : Value).ownBlock) (Kd.R_keptB (HO361.out) hkp (fun k_ hk_ hs_ => (hk_.2.2.2.1) hs_)) (fun k_ hk_ => ⟨hk_.1.1, hk_.1.2.1, hk_.1.2.2.1, hk_.1.2.2.2.1, hk_.1.2.2.2.2.1, hk_.1.2.2.2.2.2.1, hk_.1.2.2.2.2.2.2⟩)); replace HO367 := Aside0.mk (Kd.R_mono (ok' := fun k_ => some k_ ≠ (v360 : Value).ownBlock ∧ some k_ ≠ (.slice Ao71 t371.length co71 : Value).ownBlock ∧ some k_ ≠ (.slice Ao81 t379.length co81 : Value).ownBlock ∧ some k_ ≠ (.slice Ao91 t386.length co91 : Value).ownBlock ∧ some k_ ≠ (.slice Ao101 t393.length co101 : Value).ownBlock ∧ some k_ ≠ (.slice Ao106 t402.length co106 : Value).ownBlock ∧ some k_ ≠ (.slice Ao110 t409.length co110 : Value).ownBlock) (Kd.R_keptB (HO367.out) hkp (fun k_ hk_ hs_ => (hk_.2.2.2.1) hs_)) (fun k_ hk_ => ⟨hk_.1.1, hk_.1.2.1, hk_.1.2.2.1, hk_.1.2.2.2.1, hk_.1.2.2.2.2.1, hk_.1.2.2.2.2.2.1, hk_.1.2.2.2.2.2.2⟩)); replace HO373 := Aside0.mk (Kd.R_mono (ok' := fun k_ => some k_ ≠ (v360 : Value).ownBlock ∧ some k_ ≠ (v366 : Value).ownBlock ∧ some k_ ≠ (.slice Ao81 t379.length co81 : Value).ownBlock ∧ some k_ ≠ (.slice Ao91 t386.length co91 : Value).ownBlock ∧ some k_ ≠ (.slice Ao101 t393.length co101 : Value).ownBlock ∧ some k_ ≠ (.slice Ao106 t402.length co106 : Value).ownBlock ∧ some k_ ≠ (.slice Ao110 t409.length co110 : Value).ownBlock) (Kd.R_keptB (HO373.out) hkp (fun k_ hk_ hs_ => (hk_.2.2.2.1) hs_)) (fun k_ hk_ => ⟨hk_.1.1, hk_.1.2.1, hk_.1.2.2.1, hk_.1.2.2.2.1, hk_.1.2.2.2.2.1, hk_.1.2.2.2.2.2.1, hk_.1.2.2.2.2.2.2⟩)); replace BK375 := Aside0.mk (blk_kept (bl_ BK375).out hkp (fun hs_ => (fun e_ => (Kd.R_ne HO388.out BK375.out (by decide)) e_) hs_)); replace HO381 := Aside0.mk (Kd.R_mono (ok' := fun k_ => some k_ ≠ (v360 : Value).ownBlock ∧ some k_ ≠ (v366 : Value).ownBlock ∧ some k_ ≠ (.slice Ao71 t371.length co71 : Value).ownBlock ∧ some k_ ≠ (.slice Ao91 t386.length co91 : Value).ownBlock ∧ some k_ ≠ (.slice Ao101 t393.length co101 : Value).ownBlock ∧ some k_ ≠ (.slice Ao106 t402.length co106 : Value).ownBlock ∧ some k_ ≠ (.slice Ao110 t409.length co110 : Value).ownBlock) (Kd.R_keptB (HO381.out) hkp (fun k_ hk_ hs_ => (hk_.1.1.1.2) hs_)) (fun k_ hk_ => ⟨hk_.1.1.1.1.1.1.1.2, hk_.1.1.1.1.1.1.2, hk_.1.1.1.1.1.2, hk_.1.1.1.1.2, hk_.1.1.1.2, hk_.1.1.2, hk_.1.2⟩)); replace BK382 := Aside0.mk (blk_kept (bl_ BK382).out hkp (fun hs_ => (fun e_ => (Kd.R_ne HO388.out BK382.out (by decide)) e_) hs_)); replace BK389 := Aside0.mk (blk_kept (bl_ BK389).out hkp (fun hs_ => (fun e_ => (Kd.R_ne HO388.out BK389.out (by decide)) e_) hs_)); replace HO395 := Aside0.mk (Kd.R_mono (ok' := fun k_ => some k_ ≠ (v360 : Value).ownBlock ∧ some k_ ≠ (v366 : Value).ownBlock ∧ some k_ ≠ (.slice Ao71 t371.length co71 : Value).ownBlock ∧ some k_ ≠ (.slice Ao81 t379.length co81 : Value).ownBlock ∧ some k_ ≠ (.slice Ao91 t386.length co91 : Value).ownBlock ∧ some k_ ≠ (.slice Ao106 t402.length co106 : Value).ownBlock ∧ some k_ ≠ (.slice Ao110 t409.length co110 : Value).ownBlock) (Kd.R_keptB (HO395.out) hkp (fun k_ hk_ hs_ => (hk_.2.2.2.2.1) hs_)) (fun k_ hk_ => ⟨hk_.1.1, hk_.1.2.1, hk_.1.2.2.1, hk_.1.2.2.2.1, hk_.1.2.2.2.2.1, hk_.1.2.2.2.2.2.1, hk_.1.2.2.2.2.2.2⟩)); replace BK397 := Aside0.mk (blk_kept (bl_ BK397).out hkp (fun hs_ => (fun e_ => (Kd.R_ne HO388.out BK397.out (by decide)) e_) hs_)); replace HO388 := Aside0.mk (Kd.R_reok rfl hy0 (fun k_ e_ => HO388.out.1 k_ e_)); replace HO404 := Aside0.mk (Kd.R_mono (ok' := fun k_ => some k_ ≠ (v360 : Value).ownBlock ∧ some k_ ≠ (v366 : Value).ownBlock ∧ some k_ ≠ (.slice Ao71 t371.length co71 : Value).ownBlock ∧ some k_ ≠ (.slice Ao81 t379.length co81 : Value).ownBlock ∧ some k_ ≠ (.slice Ao91 t386.length co91 : Value).ownBlock ∧ some k_ ≠ (.slice Ao101 t393.length co101 : Value).ownBlock ∧ some k_ ≠ (.slice Ao110 t409.length co110 : Value).ownBlock) (Kd.R_keptB (HO404.out) hkp (fun k_ hk_ hs_ => (hk_.2.2.2.2.1) hs_)) (fun k_ hk_ => ⟨hk_.1.1, hk_.1.2.1, hk_.1.2.2.1, hk_.1.2.2.2.1, hk_.1.2.2.2.2.1, hk_.1.2.2.2.2.2.1, hk_.1.2.2.2.2.2.2⟩)); replace HO411 := Aside0.mk (Kd.R_mono (ok' := fun k_ => some k_ ≠ (v360 : Value).ownBlock ∧ some k_ ≠ (v366 : Value).ownBlock ∧ some k_ ≠ (.slice Ao71 t371.length co71 : Value).ownBlock ∧ some k_ ≠ (.slice Ao81 t379.length co81 : Value).ownBlock ∧ some k_ ≠ (.slice Ao91 t386.length co91 : Value).ownBlock ∧ some k_ ≠ (.slice Ao101 t393.length co101 : Value).ownBlock ∧ some k_ ≠ (.slice Ao106 t402.length co106 : Value).ownBlock) (Kd.R_keptB (HO411.out) hkp (fun k_ hk_ hs_ => (hk_.2.2.2.2.1) hs_)) (fun k_ hk_ => ⟨hk_.1.1, hk_.1.2.1, hk_.1.2.2.1, hk_.1.2.2.2.1, hk_.1.2.2.2.2.1, hk_.1.2.2.2.2.2.1, hk_.1.2.2.2.2.2.2⟩)); replace HB := Aside0.mk (hb); (try clear hb); (try clear hkp); (try clear hy0); have hcz116_0 : w115.cell? ⟨gb397, 0, none⟩ = some (.int .i64 t390) := cz_ BK397 0; have hcz116_1 : w115.cell? ⟨gb397, 1, none⟩ = some (.int .i64 t391) := cz_ BK397 1; have hcz116_2 : w115.cell? ⟨gb397, 2, none⟩ = some (.int .i64 t392) := cz_ BK397 2; have hcz116_3 : w115.cell? ⟨gb397, 3, none⟩ = some (.slice Ao101 t393.length co101) := cz_ BK397 3; have hfz116_0 := fz_ BK397 0; have hfz116_1 := fz_ BK397 1; have hfz116_2 := fz_ BK397 2; have hfz116_3 := fz_ BK397 3; have hcz117_0 : w115.cell? ⟨gb375, 0, none⟩ = some (.int .i64 t368) := cz_ BK375 0; have hcz117_1 : w115.cell? ⟨gb375, 1, none⟩ = some (.int .i64 t369) := cz_ BK375 1; have hcz117_2 : w115.cell? ⟨gb375, 2, none⟩ = some (.int .i64 t370) := cz_ BK375 2; have hcz117_3 : w115.cell? ⟨gb375, 3, none⟩ = some (.slice Ao71 t371.length co71) := cz_ BK375 3; have hfz117_0 := fz_ BK375 0; have hfz117_1 := fz_ BK375 1; have hfz117_2 := fz_ BK375 2; have hfz117_3 := fz_ BK375 3) | (go_at_call 12; (with_reducible refine (laws_eqMeasure.calls k t390 t391 t392 _ _ t393 t368 t369 t370 _ _ t371 true _ ?side1 ?side2 ?side3 ?side4 A38.out).mono ?_); (case side1 => repeat (first | exact (Kd.R_reads' HO395.out).2.2 | (with_reducible refine Kd.C_alloc ?_ _) | (with_reducible refine Kd.C_drewN ?_ _) | (with_reducible refine Kd.C_drew ?_))); (case side2 => exact (Kd.R_reads' HO395.out).2.1); (case side3 => repeat (first | exact (Kd.R_reads' HO373.out).2.2 | (with_reducible refine Kd.C_alloc ?_ _) | (with_reducible refine Kd.C_drewN ?_ _) | (with_reducible refine Kd.C_drew ?_))); (case side4 => exact (Kd.R_reads' HO373.out).2.1); rintro e w118 ⟨rfl, hb⟩; replace HO361 := Aside0.mk (Kd.R_below (ra_ HO361.out) hb); replace HO367 := Aside0.mk (Kd.R_below (ra_ HO367.out) hb); replace HO373 := Aside0.mk (Kd.R_below (ra_ HO373.out) hb); replace HO381 := Aside0.mk (Kd.R_below (ra_ HO381.out) hb); replace HO388 := Aside0.mk (Kd.R_below (ra_ HO388.out) hb); replace HO395 := Aside0.mk (Kd.R_below (ra_ HO395.out) hb); replace HO404 := Aside0.mk (Kd.R_below (ra_ HO404.out) hb); replace HO411 := Aside0.mk (Kd.R_below (ra_ HO411.out) hb); replace BK352 := bb_ BK352 hb; replace BK353 := bb_ BK353 hb; replace BK375 := bb_ BK375 hb; replace BK382 := bb_ BK382 hb; replace BK389 := bb_ BK389 hb; replace BK397 := bb_ BK397 hb; replace HB := bt_ HB hb; (try clear hb); (try clear hb2); (try clear hk); (try clear hi); have hcz119_0 : w118.cell? ⟨gb397, 0, none⟩ = some (.int .i64 t390) := cz_ BK397 0; have hcz119_1 : w118.cell? ⟨gb397, 1, none⟩ = some (.int .i64 t391) := cz_ BK397 1; have hcz119_2 : w118.cell? ⟨gb397, 2, none⟩ = some (.int .i64 t392) := cz_ BK397 2; have hcz119_3 : w118.cell? ⟨gb397, 3, none⟩ = some (.slice Ao101 t393.length co101) := cz_ BK397 3; have hfz119_0 := fz_ BK397 0; have hfz119_1 := fz_ BK397 1; have hfz119_2 := fz_ BK397 2; have hfz119_3 := fz_ BK397 3) | ((with_reducible refine gate_callee (f := 15) rfl ?_); refine ge_ 89 Try.func15 #[.agg #[.int .i64 t390, .int .i64 t391, .int .i64 t392, .slice Ao101 t393.length co101], .int .i64 1] ?_; (with_reducible refine (laws_markMeasure.calls k t390 t391 t392 (fun k_ => some k_ = (.slice Ao101 t393.length co101 : Value).ownBlock) (.slice Ao101 t393.length co101) t393 1 t418 t419 w _ ?side1 ?side2 A40.out).mono ?_); (case side1 => repeat (first | (with_reducible first | exact HB.out | apply below_alloc | apply pw_below_drewN | apply below_drew1 | refine below_set ?_ GE352.out | refine below_set ?_ GE353.out | refine below_set ?_ GE375.out | refine below_set ?_ GE382.out | refine below_set ?_ GE389.out | refine below_set ?_ GE397.out) | exact HB.out)); (case side2 => exact Kd.R_tight rfl HO395.out); rintro e w120 ⟨rfl, hy0, hb, hkp⟩; refine ⟨_, rfl, ?_⟩; replace BK352 := Aside0.mk (blk_kept (bl_ BK352).out hkp (fun hs_ => (fun e_ => (Kd.R_ne HO395.out BK352.out (by decide)) e_) hs_)); replace BK353 := Aside0.mk (blk_kept (bl_ BK353).out hkp (fun hs_ => (fun e_ => (Kd.R_ne HO395.out BK353.out (by decide)) e_) hs_)); replace HO361 := Aside0.mk (Kd.R_mono (ok' := fun k_ => some k_ ≠ (v366 : Value).ownBlock ∧ some k_ ≠ (.slice Ao71 t371.length co71 : Value).ownBlock ∧ some k_ ≠ (.slice Ao81 t379.length co81 : Value).ownBlock ∧ some k_ ≠ (.slice Ao91 t386.length co91 : Value).ownBlock ∧ some k_ ≠ (.slice Ao101 t393.length co101 : Value).ownBlock ∧ some k_ ≠ (.slice Ao106 t402.length co106 : Value).ownBlock ∧ some k_ ≠ (.slice Ao110 t409.length co110 : Value).ownBlock) (Kd.R_keptB (HO361.out) hkp (fun k_ hk_ hs_ => (hk_.2.2.2.2.1) hs_)) (fun k_ hk_ => ⟨hk_.1.1, hk_.1.2.1, hk_.1.2.2.1, hk_.1.2.2.2.1, hk_.1.2.2.2.2.1, hk_.1.2.2.2.2.2.1, hk_.1.2.2.2.2.2.2⟩)); replace HO367 := Aside0.mk (Kd.R_mono (ok' := fun k_ => some k_ ≠ (v360 : Value).ownBlock ∧ some k_ ≠ (.slice Ao71 t371.length co71 : Value).ownBlock ∧ some k_ ≠ (.slice Ao81 t379.length co81 : Value).ownBlock ∧ some k_ ≠ (.slice Ao91 t386.length co91 : Value).ownBlock ∧ some k_ ≠ (.slice Ao101 t393.length co101 : Value).ownBlock ∧ some k_ ≠ (.slice Ao106 t402.length co106 : Value).ownBlock ∧ some k_ ≠ (.slice Ao110 t409.length co110 : Value).ownBlock) (Kd.R_keptB (HO367.out) hkp (fun k_ hk_ hs_ => (hk_.2.2.2.2.1) hs_)) (fun k_ hk_ => ⟨hk_.1.1, hk_.1.2.1, hk_.1.2.2.1, hk_.1.2.2.2.1, hk_.1.2.2.2.2.1, hk_.1.2.2.2.2.2.1, hk_.1.2.2.2.2.2.2⟩)); replace HO373 := Aside0.mk (Kd.R_mono (ok' := fun k_ => some k_ ≠ (v360 : Value).ownBlock ∧ some k_ ≠ (v366 : Value).ownBlock ∧ some k_ ≠ (.slice Ao81 t379.length co81 : Value).ownBlock ∧ some k_ ≠ (.slice Ao91 t386.length co91 : Value).ownBlock ∧ some k_ ≠ (.slice Ao101 t393.length co101 : Value).ownBlock ∧ some k_ ≠ (.slice Ao106 t402.length co106 : Value).ownBlock ∧ some k_ ≠ (.slice Ao110 t409.length co110 : Value).ownBlock) (Kd.R_keptB (HO373.out) hkp (fun k_ hk_ hs_ => (hk_.2.2.2.2.1) hs_)) (fun k_ hk_ => ⟨hk_.1.1, hk_.1.2.1, hk_.1.2.2.1, hk_.1.2.2.2.1, hk_.1.2.2.2.2.1, hk_.1.2.2.2.2.2.1, hk_.1.2.2.2.2.2.2⟩)); replace BK375 := Aside0.mk (blk_kept (bl_ BK375).out hkp (fun hs_ => (fun e_ => (Kd.R_ne HO395.out BK375.out (by decide)) e_) hs_)); replace HO381 := Aside0.mk (Kd.R_mono (ok' := fun k_ => some k_ ≠ (v360 : Value).ownBlock ∧ some k_ ≠ (v366 : Value).ownBlock ∧ some k_ ≠ (.slice Ao71 t371.length co71 : Value).ownBlock ∧ some k_ ≠ (.slice Ao91 t386.length co91 : Value).ownBlock ∧ some k_ ≠ (.slice Ao101 t393.length co101 : Value).ownBlock ∧ some k_ ≠ (.slice Ao106 t402.length co106 : Value).ownBlock ∧ some k_ ≠ (.slice Ao110 t409.length co110 : Value).ownBlock) (Kd.R_keptB (HO381.out) hkp (fun k_ hk_ hs_ => (hk_.2.2.2.2.1) hs_)) (fun k_ hk_ => ⟨hk_.1.1, hk_.1.2.1, hk_.1.2.2.1, hk_.1.2.2.2.1, hk_.1.2.2.2.2.1, hk_.1.2.2.2.2.2.1, hk_.1.2.2.2.2.2.2⟩)); replace BK382 := Aside0.mk (blk_kept (bl_ BK382).out hkp (fun hs_ => (fun e_ => (Kd.R_ne HO395.out BK382.out (by decide)) e_) hs_)); replace HO388 := Aside0.mk (Kd.R_mono (ok' := fun k_ => some k_ ≠ (v360 : Value).ownBlock ∧ some k_ ≠ (v366 : Value).ownBlock ∧ some k_ ≠ (.slice Ao71 t371.length co71 : Value).ownBlock ∧ some k_ ≠ (.slice Ao81 t379.length co81 : Value).ownBlock ∧ some k_ ≠ (.slice Ao101 t393.length co101 : Value).ownBlock ∧ some k_ ≠ (.slice Ao106 t402.length co106 : Value).ownBlock ∧ some k_ ≠ (.slice Ao110 t409.length co110 : Value).ownBlock) (Kd.R_keptB (HO388.out) hkp (fun k_ hk_ hs_ => (hk_.2.2.2.2.1) hs_)) (fun k_ hk_ => ⟨hk_.1.1, hk_.1.2.1, hk_.1.2.2.1, hk_.1.2.2.2.1, hk_.1.2.2.2.2.1, hk_.1.2.2.2.2.2.1, hk_.1.2.2.2.2.2.2⟩)); replace BK389 := Aside0.mk (blk_kept (bl_ BK389).out hkp (fun hs_ => (fun e_ => (Kd.R_ne HO395.out BK389.out (by decide)) e_) hs_)); replace BK397 := Aside0.mk (blk_kept (bl_ BK397).out hkp (fun hs_ => (fun e_ => (Kd.R_ne HO395.out BK397.out (by decide)) e_) hs_)); replace HO395 := Aside0.mk (Kd.R_reok rfl hy0 (fun k_ e_ => HO395.out.1 k_ e_)); replace HO404 := Aside0.mk (Kd.R_mono (ok' := fun k_ => some k_ ≠ (v360 : Value).ownBlock ∧ some k_ ≠ (v366 : Value).ownBlock ∧ some k_ ≠ (.slice Ao71 t371.length co71 : Value).ownBlock ∧ some k_ ≠ (.slice Ao81 t379.length co81 : Value).ownBlock ∧ some k_ ≠ (.slice Ao91 t386.length co91 : Value).ownBlock ∧ some k_ ≠ (.slice Ao101 t393.length co101 : Value).ownBlock ∧ some k_ ≠ (.slice Ao110 t409.length co110 : Value).ownBlock) (Kd.R_keptB (HO404.out) hkp (fun k_ hk_ hs_ => (hk_.2.2.2.2.2.1) hs_)) (fun k_ hk_ => ⟨hk_.1.1, hk_.1.2.1, hk_.1.2.2.1, hk_.1.2.2.2.1, hk_.1.2.2.2.2.1, hk_.1.2.2.2.2.2.1, hk_.1.2.2.2.2.2.2⟩)); replace HO411 := Aside0.mk (Kd.R_mono (ok' := fun k_ => some k_ ≠ (v360 : Value).ownBlock ∧ some k_ ≠ (v366 : Value).ownBlock ∧ some k_ ≠ (.slice Ao71 t371.length co71 : Value).ownBlock ∧ some k_ ≠ (.slice Ao81 t379.length co81 : Value).ownBlock ∧ some k_ ≠ (.slice Ao91 t386.length co91 : Value).ownBlock ∧ some k_ ≠ (.slice Ao101 t393.length co101 : Value).ownBlock ∧ some k_ ≠ (.slice Ao106 t402.length co106 : Value).ownBlock) (Kd.R_keptB (HO411.out) hkp (fun k_ hk_ hs_ => (hk_.2.2.2.2.2.1) hs_)) (fun k_ hk_ => ⟨hk_.1.1, hk_.1.2.1, hk_.1.2.2.1, hk_.1.2.2.2.1, hk_.1.2.2.2.2.1, hk_.1.2.2.2.2.2.1, hk_.1.2.2.2.2.2.2⟩)); replace HB := Aside0.mk (hb); (try clear hb); (try clear hkp); (try clear hy0); have hcz121_0 : w120.cell? ⟨gb397, 0, none⟩ = some (.int .i64 t390) := cz_ BK397 0; have hcz121_1 : w120.cell? ⟨gb397, 1, none⟩ = some (.int .i64 t391) := cz_ BK397 1; have hcz121_2 : w120.cell? ⟨gb397, 2, none⟩ = some (.int .i64 t392) := cz_ BK397 2; have hcz121_3 : w120.cell? ⟨gb397, 3, none⟩ = some (.slice Ao101 t393.length co101) := cz_ BK397 3; have hfz121_0 := fz_ BK397 0; have hfz121_1 := fz_ BK397 1; have hfz121_2 := fz_ BK397 2; have hfz121_3 := fz_ BK397 3) | ((with_reducible refine gate_callee (f := 16) rfl ?_); refine goesL_ (some 92) rfl rfl Try.func16 (by kernel_rfl) rfl #[.agg #[.int .i64 t390, .int .i64 t391, .int .i64 t392, .slice Ao101 t419.length co101], .int .i64 1] rfl (by (try simp only [List.map_toArray, List.map_cons, List.map_nil]); first | done | (rw [show t419.length = t393.length from (Kd.R_reads' HO395.out).1.symm] <;> rfl) | rfl | (simp only [List.length_drop, List.length_take]; rfl)) ?_; (with_reducible refine (laws_heldMeasure.calls k t390 t391 t392 _ _ t419 1 t420 _ ?side1 ?side2 A41.out).mono ?_); (case side1 => repeat (first | exact (Kd.R_reads' HO395.out).2.2 | (with_reducible refine Kd.C_alloc ?_ _) | (with_reducible refine Kd.C_drewN ?_ _) | (with_reducible refine Kd.C_drew ?_))); (case side2 => rw [show t419.length = t393.length from (Kd.R_reads' HO395.out).1.symm]; exact (Kd.R_reads' HO395.out).2.1); rintro e w122 ⟨rfl, hb⟩; refine ⟨_, rfl, ?_⟩; replace HO361 := Aside0.mk (Kd.R_below (ra_ HO361.out) hb); replace HO367 := Aside0.mk (Kd.R_below (ra_ HO367.out) hb); replace HO373 := Aside0.mk (Kd.R_below (ra_ HO373.out) hb); replace HO381 := Aside0.mk (Kd.R_below (ra_ HO381.out) hb); replace HO388 := Aside0.mk (Kd.R_below (ra_ HO388.out) hb); replace HO395 := Aside0.mk (Kd.R_below (ra_ HO395.out) hb); replace HO404 := Aside0.mk (Kd.R_below (ra_ HO404.out) hb); replace HO411 := Aside0.mk (Kd.R_below (ra_ HO411.out) hb); replace BK352 := bb_ BK352 hb; replace BK353 := bb_ BK353 hb; replace BK375 := bb_ BK375 hb; replace BK382 := bb_ BK382 hb; replace BK389 := bb_ BK389 hb; replace BK397 := bb_ BK397 hb; replace HB := bt_ HB hb; (try clear hb); (try clear hb2); (try clear hk); (try clear hi)))
               replace HO361 := Aside0.mk (Kd.R_drew HO361.out)
               replace HO367 := Aside0.mk (Kd.R_drew HO367.out)
               replace HO373 := Aside0.mk (Kd.R_drew HO373.out)
               replace HO381 := Aside0.mk (Kd.R_drew HO381.out)
               replace HO388 := Aside0.mk (Kd.R_drew HO388.out)
               replace HO395 := Aside0.mk (Kd.R_drew HO395.out)
               replace HO404 := Aside0.mk (Kd.R_drew HO404.out)
               replace HO411 := Aside0.mk (Kd.R_drew HO411.out)
               replace BK352 := Aside0.mk (blk_drew BK352.out)
               replace BK353 := Aside0.mk (blk_drew BK353.out)
               replace BK375 := Aside0.mk (blk_drew BK375.out)
               replace BK382 := Aside0.mk (blk_drew BK382.out)
               replace BK389 := Aside0.mk (blk_drew BK389.out)
               replace BK397 := Aside0.mk (blk_drew BK397.out)
               replace HB := Aside0.mk (below_drew1 HB.out)
               refine start_ (n := 12) (S := fun w' => w'.cell? ⟨gb352, 0, none⟩ = some (.int .i64 a1_0) ∧ w'.cell? ⟨gb352, 1, none⟩ = some (.int .i64 a1_1) ∧ w'.cell? ⟨gb352, 2, none⟩ = some (.int .i64 a1_2) ∧ w'.cell? ⟨gb352, 3, none⟩ = some (.slice A1_3 l1_3.length c1_3) ∧ w'.cell? ⟨gb353, 0, none⟩ = some (.int .i64 a2_0) ∧ w'.cell? ⟨gb353, 1, none⟩ = some (.int .i64 a2_1) ∧ w'.cell? ⟨gb353, 2, none⟩ = some (.int .i64 a2_2) ∧ w'.cell? ⟨gb353, 3, none⟩ = some (.slice A2_3 l2_3.length c2_3)) (ds := []) (bv_ 12 0) (by kernel_rfl) rfl rfl ⟨(blk_cell BK352.out 0).trans rfl, (blk_cell BK352.out 1).trans rfl, (blk_cell BK352.out 2).trans rfl, (blk_cell BK352.out 3).trans rfl, (blk_cell BK353.out 0).trans rfl, (blk_cell BK353.out 1).trans rfl, (blk_cell BK353.out 2).trans rfl, (blk_cell BK353.out 3).trans rfl⟩ (fun hHeld => ?_); refine with_tabW laws_FnExactAddMeasures.tab31 laws_FnExactAddMeasures.bits31 (fun HT_ HW_ => ?_)
               generalize w122.drew = w123 at HO361 HO367 HO373 HO381 HO388 HO395 HO404 HO411 BK352 BK353 BK375 BK382 BK389 BK397 HB hHeld ⊢
               refine pu_ HT_ 0 (some 99) (bv_ 12 1) ?_
               refine ta_ HT_ HW_ 1 (some 100) (bv_ 12 3) hHeld ?_ (hy := by rintro w' ⟨s0, s1, s2, s3, s4, s5, s6, s7⟩; go_simp; with_reducible rfl)
               refine ta_ HT_ HW_ 3 (some 102) (bv_ 12 11) hHeld ?_ (hy := by rintro w' ⟨s0, s1, s2, s3, s4, s5, s6, s7⟩; go_simp; with_reducible rfl)
               refine join_ (σ := Value × Value × Value × Nat) 2 (bv_ 12 1023) (fun s_ => [(101, .agg #[.int .i64 t421, .int .i64 t422, .int .i64 t423, s_.1]), (103, .agg #[.int .i64 t427, .int .i64 t428, .int .i64 t429, s_.2.1]), (104, .tuple #[.agg #[.int .i64 t433, .int .i64 t434, .int .i64 t435, s_.2.2.1], .int .i64 t439]), (17, .pointer (some ⟨s_.2.2.2, 0, none⟩)), (98, .tuple #[.agg #[.int .i64 t433, .int .i64 t434, .int .i64 t435, s_.2.2.1], .int .i64 t439]), (105, .agg #[.int .i64 t433, .int .i64 t434, .int .i64 t435, s_.2.2.1]), (106, .int .i64 t439)]) (fun s_ w' => (w'.cell? ⟨gb352, 0, none⟩ = some (.int .i64 a1_0) ∧ w'.cell? ⟨gb352, 1, none⟩ = some (.int .i64 a1_1) ∧ w'.cell? ⟨gb352, 2, none⟩ = some (.int .i64 a1_2) ∧ w'.cell? ⟨gb352, 3, none⟩ = some (.slice A1_3 l1_3.length c1_3) ∧ w'.cell? ⟨gb353, 0, none⟩ = some (.int .i64 a2_0) ∧ w'.cell? ⟨gb353, 1, none⟩ = some (.int .i64 a2_1) ∧ w'.cell? ⟨gb353, 2, none⟩ = some (.int .i64 a2_2) ∧ w'.cell? ⟨gb353, 3, none⟩ = some (.slice A2_3 l2_3.length c2_3)) ∧ (Kd.R k63 63 w' w.heap.size (fun k_ => some k_ ≠ (v366 : Value).ownBlock ∧ some k_ ≠ (.slice Ao71 t371.length co71 : Value).ownBlock ∧ some k_ ≠ (.slice Ao81 t379.length co81 : Value).ownBlock ∧ some k_ ≠ (.slice Ao91 t386.length co91 : Value).ownBlock ∧ some k_ ≠ (.slice Ao101 t393.length co101 : Value).ownBlock ∧ some k_ ≠ (.slice Ao106 t402.length co106 : Value).ownBlock ∧ some k_ ≠ (.slice Ao110 t409.length co110 : Value).ownBlock ∧ some k_ ≠ (s_.1 : Value).ownBlock ∧ some k_ ≠ (s_.2.1 : Value).ownBlock ∧ some k_ ≠ (s_.2.2.1 : Value).ownBlock) v360 t359) ∧ (Kd.R k63 63 w' w.heap.size (fun k_ => some k_ ≠ (v360 : Value).ownBlock ∧ some k_ ≠ (.slice Ao71 t371.length co71 : Value).ownBlock ∧ some k_ ≠ (.slice Ao81 t379.length co81 : Value).ownBlock ∧ some k_ ≠ (.slice Ao91 t386.length co91 : Value).ownBlock ∧ some k_ ≠ (.slice Ao101 t393.length co101 : Value).ownBlock ∧ some k_ ≠ (.slice Ao106 t402.length co106 : Value).ownBlock ∧ some k_ ≠ (.slice Ao110 t409.length co110 : Value).ownBlock ∧ some k_ ≠ (s_.1 : Value).ownBlock ∧ some k_ ≠ (s_.2.1 : Value).ownBlock ∧ some k_ ≠ (s_.2.2.1 : Value).ownBlock) v366 t365) ∧ (Kd.R k63 63 w' w.heap.size (fun k_ => some k_ ≠ (v360 : Value).ownBlock ∧ some k_ ≠ (v366 : Value).ownBlock ∧ some k_ ≠ (.slice Ao81 t379.length co81 : Value).ownBlock ∧ some k_ ≠ (.slice Ao91 t386.length co91 : Value).ownBlock ∧ some k_ ≠ (.slice Ao101 t393.length co101 : Value).ownBlock ∧ some k_ ≠ (.slice Ao106 t402.length co106 : Value).ownBlock ∧ some k_ ≠ (.slice Ao110 t409.length co110 : Value).ownBlock ∧ some k_ ≠ (s_.1 : Value).ownBlock ∧ some k_ ≠ (s_.2.1 : Value).ownBlock ∧ some k_ ≠ (s_.2.2.1 : Value).ownBlock) (.slice Ao71 t371.length co71) t371) ∧ (Kd.R k63 63 w' w.heap.size (fun k_ => some k_ ≠ (v360 : Value).ownBlock ∧ some k_ ≠ (v366 : Value).ownBlock ∧ some k_ ≠ (.slice Ao71 t371.length co71 : Value).ownBlock ∧ some k_ ≠ (.slice Ao91 t386.length co91 : Value).ownBlock ∧ some k_ ≠ (.slice Ao101 t393.length co101 : Value).ownBlock ∧ some k_ ≠ (.slice Ao106 t402.length co106 : Value).ownBlock ∧ some k_ ≠ (.slice Ao110 t409.length co110 : Value).ownBlock ∧ some k_ ≠ (s_.1 : Value).ownBlock ∧ some k_ ≠ (s_.2.1 : Value).ownBlock ∧ some k_ ≠ (s_.2.2.1 : Value).ownBlock) (.slice Ao81 t379.length co81) t414) ∧ (Kd.R k63 63 w' w.heap.size (fun k_ => some k_ ≠ (v360 : Value).ownBlock ∧ some k_ ≠ (v366 : Value).ownBlock ∧ some k_ ≠ (.slice Ao71 t371.length co71 : Value).ownBlock ∧ some k_ ≠ (.slice Ao81 t379.length co81 : Value).ownBlock ∧ some k_ ≠ (.slice Ao101 t393.length co101 : Value).ownBlock ∧ some k_ ≠ (.slice Ao106 t402.length co106 : Value).ownBlock ∧ some k_ ≠ (.slice Ao110 t409.length co110 : Value).ownBlock ∧ some k_ ≠ (s_.1 : Value).ownBlock ∧ some k_ ≠ (s_.2.1 : Value).ownBlock ∧ some k_ ≠ (s_.2.2.1 : Value).ownBlock) (.slice Ao91 t386.length co91) t416) ∧ (Kd.R k63 63 w' w.heap.size (fun k_ => some k_ ≠ (v360 : Value).ownBlock ∧ some k_ ≠ (v366 : Value).ownBlock ∧ some k_ ≠ (.slice Ao71 t371.length co71 : Value).ownBlock ∧ some k_ ≠ (.slice Ao81 t379.length co81 : Value).ownBlock ∧ some k_ ≠ (.slice Ao91 t386.length co91 : Value).ownBlock ∧ some k_ ≠ (.slice Ao106 t402.length co106 : Value).ownBlock ∧ some k_ ≠ (.slice Ao110 t409.length co110 : Value).ownBlock ∧ some k_ ≠ (s_.1 : Value).ownBlock ∧ some k_ ≠ (s_.2.1 : Value).ownBlock ∧ some k_ ≠ (s_.2.2.1 : Value).ownBlock) (.slice Ao101 t393.length co101) t419) ∧ (Kd.R k63 63 w' w.heap.size (fun k_ => some k_ ≠ (v360 : Value).ownBlock ∧ some k_ ≠ (v366 : Value).ownBlock ∧ some k_ ≠ (.slice Ao71 t371.length co71 : Value).ownBlock ∧ some k_ ≠ (.slice Ao81 t379.length co81 : Value).ownBlock ∧ some k_ ≠ (.slice Ao91 t386.length co91 : Value).ownBlock ∧ some k_ ≠ (.slice Ao101 t393.length co101 : Value).ownBlock ∧ some k_ ≠ (.slice Ao110 t409.length co110 : Value).ownBlock ∧ some k_ ≠ (s_.1 : Value).ownBlock ∧ some k_ ≠ (s_.2.1 : Value).ownBlock ∧ some k_ ≠ (s_.2.2.1 : Value).ownBlock) (.slice Ao106 t402.length co106) t402) ∧ (Kd.R k63 63 w' w.heap.size (fun k_ => some k_ ≠ (v360 : Value).ownBlock ∧ some k_ ≠ (v366 : Value).ownBlock ∧ some k_ ≠ (.slice Ao71 t371.length co71 : Value).ownBlock ∧ some k_ ≠ (.slice Ao81 t379.length co81 : Value).ownBlock ∧ some k_ ≠ (.slice Ao91 t386.length co91 : Value).ownBlock ∧ some k_ ≠ (.slice Ao101 t393.length co101 : Value).ownBlock ∧ some k_ ≠ (.slice Ao106 t402.length co106 : Value).ownBlock ∧ some k_ ≠ (s_.1 : Value).ownBlock ∧ some k_ ≠ (s_.2.1 : Value).ownBlock ∧ some k_ ≠ (s_.2.2.1 : Value).ownBlock) (.slice Ao110 t409.length co110) t409) ∧ (Kd.R k63 63 w' w.heap.size (fun k_ => some k_ ≠ (v360 : Value).ownBlock ∧ some k_ ≠ (v366 : Value).ownBlock ∧ some k_ ≠ (.slice Ao71 t371.length co71 : Value).ownBlock ∧ some k_ ≠ (.slice Ao81 t379.length co81 : Value).ownBlock ∧ some k_ ≠ (.slice Ao91 t386.length co91 : Value).ownBlock ∧ some k_ ≠ (.slice Ao101 t393.length co101 : Value).ownBlock ∧ some k_ ≠ (.slice Ao106 t402.length co106 : Value).ownBlock ∧ some k_ ≠ (.slice Ao110 t409.length co110 : Value).ownBlock ∧ some k_ ≠ (s_.2.1 : Value).ownBlock ∧ some k_ ≠ (s_.2.2.1 : Value).ownBlock) s_.1 t424) ∧ (Kd.R k63 63 w' w.heap.size (fun k_ => some k_ ≠ (v360 : Value).ownBlock ∧ some k_ ≠ (v366 : Value).ownBlock ∧ some k_ ≠ (.slice Ao71 t371.length co71 : Value).ownBlock ∧ some k_ ≠ (.slice Ao81 t379.length co81 : Value).ownBlock ∧ some k_ ≠ (.slice Ao91 t386.length co91 : Value).ownBlock ∧ some k_ ≠ (.slice Ao101 t393.length co101 : Value).ownBlock ∧ some k_ ≠ (.slice Ao106 t402.length co106 : Value).ownBlock ∧ some k_ ≠ (.slice Ao110 t409.length co110 : Value).ownBlock ∧ some k_ ≠ (s_.1 : Value).ownBlock ∧ some k_ ≠ (s_.2.2.1 : Value).ownBlock) s_.2.1 t430) ∧ (Kd.R k63 63 w' w.heap.size (fun k_ => some k_ ≠ (v360 : Value).ownBlock ∧ some k_ ≠ (v366 : Value).ownBlock ∧ some k_ ≠ (.slice Ao71 t371.length co71 : Value).ownBlock ∧ some k_ ≠ (.slice Ao81 t379.length co81 : Value).ownBlock ∧ some k_ ≠ (.slice Ao91 t386.length co91 : Value).ownBlock ∧ some k_ ≠ (.slice Ao101 t393.length co101 : Value).ownBlock ∧ some k_ ≠ (.slice Ao106 t402.length co106 : Value).ownBlock ∧ some k_ ≠ (.slice Ao110 t409.length co110 : Value).ownBlock ∧ some k_ ≠ (s_.1 : Value).ownBlock ∧ some k_ ≠ (s_.2.1 : Value).ownBlock) s_.2.2.1 t436) ∧ (w'.heap[gb352]? = some (.cells #[.int .i64 a1_0, .int .i64 a1_1, .int .i64 a1_2, .slice A1_3 l1_3.length c1_3] 26 (0, 0))) ∧ (w'.heap[gb353]? = some (.cells #[.int .i64 a2_0, .int .i64 a2_1, .int .i64 a2_2, .slice A2_3 l2_3.length c2_3] 26 (0, 0))) ∧ (w'.heap[gb375]? = some (.cells #[.int .i64 t368, .int .i64 t369, .int .i64 t370, .slice Ao71 t371.length co71] 33 (0, 0))) ∧ (w'.heap[gb382]? = some (.cells #[.int .i64 t376, .int .i64 t377, .int .i64 t378, .slice Ao81 t379.length co81] 33 (0, 0))) ∧ (w'.heap[gb389]? = some (.cells #[.int .i64 t383, .int .i64 t384, .int .i64 t385, .slice Ao91 t386.length co91] 33 (0, 0))) ∧ (w'.heap[gb397]? = some (.cells #[.int .i64 t390, .int .i64 t391, .int .i64 t392, .slice Ao101 t393.length co101] 33 (0, 0))) ∧ (w'.heap[s_.2.2.2]? = some (.cells #[.int .i64 0, .int .i64 0, .int .i64 0, .slice none 0 0] 33 (0, 0))) ∧ (w.heap.size ≤ s_.2.2.2) ∧ (w.heap.size ≤ s_.2.2.2) ∧ (gb352 ≠ s_.2.2.2) ∧ (s_.2.2.2 ≠ gb352) ∧ (gb353 ≠ s_.2.2.2) ∧ (s_.2.2.2 ≠ gb353) ∧ (gb375 ≠ s_.2.2.2) ∧ (s_.2.2.2 ≠ gb375) ∧ (gb382 ≠ s_.2.2.2) ∧ (s_.2.2.2 ≠ gb382) ∧ (gb389 ≠ s_.2.2.2) ∧ (s_.2.2.2 ≠ gb389) ∧ (gb397 ≠ s_.2.2.2) ∧ (s_.2.2.2 ≠ gb397) ∧ (Below w.heap.size w w')) ?_ ?_
               rotate_left
               ·intro hCont
                refine two_ (i := 2) (j := 9) (Ni := some 101) (Nj := some 17) (bv_ 12 15) (bv_ 12 523) rfl rfl rfl rfl (two_of HT_.out (by kernel_rfl)) (by decide) (by decide) (fun K hK => ?_) (fun K hK => ?_)
                ·skip
                 refine goes_ Try.func9 (by kernel_rfl) rfl #[.agg #[.int .i64 a1_0, .int .i64 a1_1, .int .i64 a1_2, .slice A1_3 l1_3.length c1_3]] (by rfl) rfl rfl (by (try simp only [List.map_toArray, List.map_cons, List.map_nil]); first | done | rfl | (simp only [List.length_drop, List.length_take]; rfl)) ?_
                 with_reducible refine (laws_toMeasure.calls k a1_0 a1_1 a1_2 _ _ l1_3 t421 t422 t423 t424 _ ?side1 ?side2 A44.out).mono ?_
                 (case side1 => repeat (first | exact (Kd.C_below HR1_3.out HB.out) | (with_reducible refine Kd.C_alloc ?_ _) | (with_reducible refine Kd.C_drewN ?_ _) | (with_reducible refine Kd.C_drew ?_)))
                 (case side2 => exact HC1_3.out)
                 rintro e w124 ⟨v425, rfl, ho0, hb⟩
                 refine ⟨_, rfl, ?_⟩
                 have HO426 := Aside0.mk (Kd.R_lower (Kd.R_new' (Kd.R_new' (Kd.R_new' (Kd.R_new' (Kd.R_new' (Kd.R_new' (Kd.R_new' (Kd.R_new' ho0 (Kd.R_lt (ra_ HO361.out))) (Kd.R_lt (ra_ HO367.out))) (Kd.R_lt (ra_ HO373.out))) (Kd.R_lt (ra_ HO381.out))) (Kd.R_lt (ra_ HO388.out))) (Kd.R_lt (ra_ HO395.out))) (Kd.R_lt (ra_ HO404.out))) (Kd.R_lt (ra_ HO411.out))) (below_size (bw_ HB).out))
                 replace HO361 := Aside0.mk (Kd.R_elder' (ra_ HO361.out) (Kd.R_base ho0) hb)
                 replace HO367 := Aside0.mk (Kd.R_elder' (ra_ HO367.out) (Kd.R_base ho0) hb)
                 replace HO373 := Aside0.mk (Kd.R_elder' (ra_ HO373.out) (Kd.R_base ho0) hb)
                 replace HO381 := Aside0.mk (Kd.R_elder' (ra_ HO381.out) (Kd.R_base ho0) hb)
                 replace HO388 := Aside0.mk (Kd.R_elder' (ra_ HO388.out) (Kd.R_base ho0) hb)
                 replace HO395 := Aside0.mk (Kd.R_elder' (ra_ HO395.out) (Kd.R_base ho0) hb)
                 replace HO404 := Aside0.mk (Kd.R_elder' (ra_ HO404.out) (Kd.R_base ho0) hb)
                 replace HO411 := Aside0.mk (Kd.R_elder' (ra_ HO411.out) (Kd.R_base ho0) hb)
                 replace BK352 := bb_ BK352 hb
                 replace BK353 := bb_ BK353 hb
                 replace BK375 := bb_ BK375 hb
                 replace BK382 := bb_ BK382 hb
                 replace BK389 := bb_ BK389 hb
                 replace BK397 := bb_ BK397 hb
                 replace HB := bt_ HB hb
                 (try clear hb)
                 (try clear hb2)
                 (try clear hk)
                 (try clear hi)
                 (try clear ho0)
                 refine hK.out _ _ ⟨(blk_cell BK352.out 0).trans rfl, (blk_cell BK352.out 1).trans rfl, (blk_cell BK352.out 2).trans rfl, (blk_cell BK352.out 3).trans rfl, (blk_cell BK353.out 0).trans rfl, (blk_cell BK353.out 1).trans rfl, (blk_cell BK353.out 2).trans rfl, (blk_cell BK353.out 3).trans rfl⟩ (fun hHeld => ?_)
                 clear hK K
                 refine norm_ (a' := ?_) ?_ ?_
                 rotate_left
                 ·show Act.put _ (some 101) _ = _
                  simp only [Act.put, lstS, lstZ, lstC, i64_w, i32_w]
                  rfl
                 refine two_ (i := 4) (j := 9) (Ni := some 103) (Nj := some 17) (bv_ 12 31) (bv_ 12 527) rfl rfl rfl rfl (two_of HT_.out (by kernel_rfl)) (by decide) (by decide) (fun K hK => ?_) (fun K hK => ?_)
                 ·skip
                  refine goes_ Try.func9 (by kernel_rfl) rfl #[.agg #[.int .i64 a2_0, .int .i64 a2_1, .int .i64 a2_2, .slice A2_3 l2_3.length c2_3]] (by rfl) rfl rfl (by (try simp only [List.map_toArray, List.map_cons, List.map_nil]); first | done | rfl | (simp only [List.length_drop, List.length_take]; rfl)) ?_
                  with_reducible refine (laws_toMeasure.calls k a2_0 a2_1 a2_2 _ _ l2_3 t427 t428 t429 t430 _ ?side1 ?side2 A45.out).mono ?_
                  (case side1 => repeat (first | exact (Kd.C_below HR2_3.out HB.out) | (with_reducible refine Kd.C_alloc ?_ _) | (with_reducible refine Kd.C_drewN ?_ _) | (with_reducible refine Kd.C_drew ?_)))
                  (case side2 => exact HC2_3.out)
                  rintro e w125 ⟨v431, rfl, ho0, hb⟩
                  refine ⟨_, rfl, ?_⟩
                  have HO432 := Aside0.mk (Kd.R_lower (Kd.R_new' (Kd.R_new' (Kd.R_new' (Kd.R_new' (Kd.R_new' (Kd.R_new' (Kd.R_new' (Kd.R_new' (Kd.R_new' ho0 (Kd.R_lt (ra_ HO361.out))) (Kd.R_lt (ra_ HO367.out))) (Kd.R_lt (ra_ HO373.out))) (Kd.R_lt (ra_ HO381.out))) (Kd.R_lt (ra_ HO388.out))) (Kd.R_lt (ra_ HO395.out))) (Kd.R_lt (ra_ HO404.out))) (Kd.R_lt (ra_ HO411.out))) (Kd.R_lt (ra_ HO426.out))) (below_size (bw_ HB).out))
                  replace HO361 := Aside0.mk (Kd.R_elder' (ra_ HO361.out) (Kd.R_base ho0) hb)
                  replace HO367 := Aside0.mk (Kd.R_elder' (ra_ HO367.out) (Kd.R_base ho0) hb)
                  replace HO373 := Aside0.mk (Kd.R_elder' (ra_ HO373.out) (Kd.R_base ho0) hb)
                  replace HO381 := Aside0.mk (Kd.R_elder' (ra_ HO381.out) (Kd.R_base ho0) hb)
                  replace HO388 := Aside0.mk (Kd.R_elder' (ra_ HO388.out) (Kd.R_base ho0) hb)
                  replace HO395 := Aside0.mk (Kd.R_elder' (ra_ HO395.out) (Kd.R_base ho0) hb)
                  replace HO404 := Aside0.mk (Kd.R_elder' (ra_ HO404.out) (Kd.R_base ho0) hb)
                  replace HO411 := Aside0.mk (Kd.R_elder' (ra_ HO411.out) (Kd.R_base ho0) hb)
                  replace HO426 := Aside0.mk (Kd.R_elder' (ra_ HO426.out) (Kd.R_base ho0) hb)
                  replace BK352 := bb_ BK352 hb
                  replace BK353 := bb_ BK353 hb
                  replace BK375 := bb_ BK375 hb
                  replace BK382 := bb_ BK382 hb
                  replace BK389 := bb_ BK389 hb
                  replace BK397 := bb_ BK397 hb
                  replace HB := bt_ HB hb
                  (try clear hb)
                  (try clear hb2)
                  (try clear hk)
                  (try clear hi)
                  (try clear ho0)
                  obtain ⟨Ao126, co126, eo126⟩ := Kd.R_slice HO426.out
                  (first | subst eo126 | (injection eo126 with f1_ f2_ f3_; have f4_ := f1_.symm; have f5_ := f3_.symm; clear f1_ f2_ f3_; subst f4_; subst f5_))
                  obtain ⟨Ao127, co127, eo127⟩ := Kd.R_slice HO432.out
                  (first | subst eo127 | (injection eo127 with f1_ f2_ f3_; have f4_ := f1_.symm; have f5_ := f3_.symm; clear f1_ f2_ f3_; subst f4_; subst f5_))
                  refine hK.out _ _ ⟨(blk_cell BK352.out 0).trans rfl, (blk_cell BK352.out 1).trans rfl, (blk_cell BK352.out 2).trans rfl, (blk_cell BK352.out 3).trans rfl, (blk_cell BK353.out 0).trans rfl, (blk_cell BK353.out 1).trans rfl, (blk_cell BK353.out 2).trans rfl, (blk_cell BK353.out 3).trans rfl⟩ (fun hHeld => ?_)
                  clear hK K
                  refine norm_ (a' := ?_) ?_ ?_
                  rotate_left
                  ·show Act.put _ (some 103) _ = _
                   simp only [Act.put, lstS, lstZ, lstC, i64_w, i32_w]
                   rfl
                  refine two_ (i := 5) (j := 9) (Ni := some 104) (Nj := some 17) (bv_ 12 63) (bv_ 12 543) rfl rfl rfl rfl (two_of HT_.out (by kernel_rfl)) (by decide) (by decide) (fun K hK => ?_) (fun K hK => ?_)
                  ·skip
                   refine goes_ Try.func14 (by kernel_rfl) rfl #[.int .i64 a0, .agg #[.int .i64 t421, .int .i64 t422, .int .i64 t423, .slice Ao126 t424.length co126], .agg #[.int .i64 t427, .int .i64 t428, .int .i64 t429, .slice Ao127 t430.length co127]] (by rfl) rfl rfl (by (try simp only [List.map_toArray, List.map_cons, List.map_nil]); first | done | rfl | (simp only [List.length_drop, List.length_take]; rfl)) ?_
                   with_reducible refine (impl_AddMeasures.calls k a0 t421 t422 t423 _ _ t424 t427 t428 t429 _ _ t430 t433 t434 t435 t436 t439 _ ?side1 ?side2 ?side3 ?side4 A46.out).mono ?_
                   (case side1 => repeat (first | exact (Kd.R_reads' HO426.out).2.2 | (with_reducible refine Kd.C_alloc ?_ _) | (with_reducible refine Kd.C_drewN ?_ _) | (with_reducible refine Kd.C_drew ?_)))
                   (case side2 => exact (Kd.R_reads' HO426.out).2.1)
                   (case side3 => repeat (first | exact (Kd.R_reads' HO432.out).2.2 | (with_reducible refine Kd.C_alloc ?_ _) | (with_reducible refine Kd.C_drewN ?_ _) | (with_reducible refine Kd.C_drew ?_)))
                   (case side4 => exact (Kd.R_reads' HO432.out).2.1)
                   rintro e w128 ⟨v437, rfl, ho0, hb⟩
                   refine ⟨_, rfl, ?_⟩
                   have HO438 := Aside0.mk (Kd.R_lower (Kd.R_new' (Kd.R_new' (Kd.R_new' (Kd.R_new' (Kd.R_new' (Kd.R_new' (Kd.R_new' (Kd.R_new' (Kd.R_new' (Kd.R_new' ho0 (Kd.R_lt (ra_ HO361.out))) (Kd.R_lt (ra_ HO367.out))) (Kd.R_lt (ra_ HO373.out))) (Kd.R_lt (ra_ HO381.out))) (Kd.R_lt (ra_ HO388.out))) (Kd.R_lt (ra_ HO395.out))) (Kd.R_lt (ra_ HO404.out))) (Kd.R_lt (ra_ HO411.out))) (Kd.R_lt (ra_ HO426.out))) (Kd.R_lt (ra_ HO432.out))) (below_size (bw_ HB).out))
                   replace HO361 := Aside0.mk (Kd.R_elder' (ra_ HO361.out) (Kd.R_base ho0) hb)
                   replace HO367 := Aside0.mk (Kd.R_elder' (ra_ HO367.out) (Kd.R_base ho0) hb)
                   replace HO373 := Aside0.mk (Kd.R_elder' (ra_ HO373.out) (Kd.R_base ho0) hb)
                   replace HO381 := Aside0.mk (Kd.R_elder' (ra_ HO381.out) (Kd.R_base ho0) hb)
                   replace HO388 := Aside0.mk (Kd.R_elder' (ra_ HO388.out) (Kd.R_base ho0) hb)
                   replace HO395 := Aside0.mk (Kd.R_elder' (ra_ HO395.out) (Kd.R_base ho0) hb)
                   replace HO404 := Aside0.mk (Kd.R_elder' (ra_ HO404.out) (Kd.R_base ho0) hb)
                   replace HO411 := Aside0.mk (Kd.R_elder' (ra_ HO411.out) (Kd.R_base ho0) hb)
                   replace HO426 := Aside0.mk (Kd.R_elder' (ra_ HO426.out) (Kd.R_base ho0) hb)
                   replace HO432 := Aside0.mk (Kd.R_elder' (ra_ HO432.out) (Kd.R_base ho0) hb)
                   replace BK352 := bb_ BK352 hb
                   replace BK353 := bb_ BK353 hb
                   replace BK375 := bb_ BK375 hb
                   replace BK382 := bb_ BK382 hb
                   replace BK389 := bb_ BK389 hb
                   replace BK397 := bb_ BK397 hb
                   replace HB := bt_ HB hb
                   (try clear hb)
                   (try clear hb2)
                   (try clear hk)
                   (try clear hi)
                   (try clear ho0)
                   refine hK.out _ _ ⟨(blk_cell BK352.out 0).trans rfl, (blk_cell BK352.out 1).trans rfl, (blk_cell BK352.out 2).trans rfl, (blk_cell BK352.out 3).trans rfl, (blk_cell BK353.out 0).trans rfl, (blk_cell BK353.out 1).trans rfl, (blk_cell BK353.out 2).trans rfl, (blk_cell BK353.out 3).trans rfl⟩ (fun hHeld => ?_)
                   clear hK K
                   refine norm_ (a' := ?_) ?_ ?_
                   rotate_left
                   ·show Act.put _ (some 104) _ = _
                    simp only [Act.put, lstS, lstZ, lstC, i64_w, i32_w]
                    rfl
                   refine pu_ HT_ 6 (some 98) (bv_ 12 127) ?_
                   refine pu_ HT_ 7 (some 105) (bv_ 12 255) ?_
                   refine pu_ HT_ 8 (some 106) (bv_ 12 511) ?_
                   refine one_ (i := 9) (N := some 17) (bv_ 12 1023) rfl rfl (one_of HT_.out (by kernel_rfl)) (by decide) (fun K hK => ?_)
                   refine box_step ?hg (N := 17) ?hd (cs := #[.int .i64 0, .int .i64 0, .int .i64 0, .slice none 0 0]) (t := 33) ?hr ?_; (case hd => rfl); (case hg => rfl); (case hr => first | (go_simp; done) | (go_simp; rfl))
                   intro gb440 hg w129 hbox hb
                   have BK440 := Aside0.mk (hbox)
                   have GW440 := bs_ HB hg
                   have GE440 := bs_ HB hg
                   have NB352_440 := bm_ BK352 hg
                   have NB440_352 := bn_ BK352 hg
                   have NB353_440 := bm_ BK353 hg
                   have NB440_353 := bn_ BK353 hg
                   have NB375_440 := bm_ BK375 hg
                   have NB440_375 := bn_ BK375 hg
                   have NB382_440 := bm_ BK382 hg
                   have NB440_382 := bn_ BK382 hg
                   have NB389_440 := bm_ BK389 hg
                   have NB440_389 := bn_ BK389 hg
                   have NB397_440 := bm_ BK397 hg
                   have NB440_397 := bn_ BK397 hg
                   replace HO361 := Aside0.mk (Kd.R_below (ra_ HO361.out) hb)
                   replace HO367 := Aside0.mk (Kd.R_below (ra_ HO367.out) hb)
                   replace HO373 := Aside0.mk (Kd.R_below (ra_ HO373.out) hb)
                   replace HO381 := Aside0.mk (Kd.R_below (ra_ HO381.out) hb)
                   replace HO388 := Aside0.mk (Kd.R_below (ra_ HO388.out) hb)
                   replace HO395 := Aside0.mk (Kd.R_below (ra_ HO395.out) hb)
                   replace HO404 := Aside0.mk (Kd.R_below (ra_ HO404.out) hb)
                   replace HO411 := Aside0.mk (Kd.R_below (ra_ HO411.out) hb)
                   replace HO426 := Aside0.mk (Kd.R_below (ra_ HO426.out) hb)
                   replace HO432 := Aside0.mk (Kd.R_below (ra_ HO432.out) hb)
                   replace HO438 := Aside0.mk (Kd.R_below (ra_ HO438.out) hb)
                   replace BK352 := bb_ BK352 hb
                   replace BK353 := bb_ BK353 hb
                   replace BK375 := bb_ BK375 hb
                   replace BK382 := bb_ BK382 hb
                   replace BK389 := bb_ BK389 hb
                   replace BK397 := bb_ BK397 hb
                   replace HB := bt_ HB hb
                   clear hb hbox hg
                   refine hK.out _ _ ⟨(blk_cell BK352.out 0).trans rfl, (blk_cell BK352.out 1).trans rfl, (blk_cell BK352.out 2).trans rfl, (blk_cell BK352.out 3).trans rfl, (blk_cell BK353.out 0).trans rfl, (blk_cell BK353.out 1).trans rfl, (blk_cell BK353.out 2).trans rfl, (blk_cell BK353.out 3).trans rfl⟩ (fun hHeld => ?_)
                   clear hK K
                   refine norm_ (a' := ?_) ?_ ?_
                   rotate_left
                   ·show Act.put _ (some 17) _ = _
                    simp only [Act.put, lstS, lstZ, lstC, i64_w, i32_w]
                    rfl
                   exact norm_ (by simp only [putAll, Act.put, lstS, lstZ, lstC]) (hCont (.slice Ao126 t424.length co126, .slice Ao127 t430.length co127, v437, gb440) _ ⟨hHeld, (by (with_reducible repeat (first | apply Kd.R_alloc | apply Kd.R_drewN | apply Kd.R_drew)); exact Kd.R_mono HO361.out (fun _ hk => ⟨hk.1.1.1.1, ⟨hk.1.1.1.2.1, ⟨hk.1.1.1.2.2.1, ⟨hk.1.1.1.2.2.2.1, ⟨hk.1.1.1.2.2.2.2.1, ⟨hk.1.1.1.2.2.2.2.2.1, ⟨hk.1.1.1.2.2.2.2.2.2, ⟨hk.1.1.2, ⟨hk.1.2, hk.2⟩⟩⟩⟩⟩⟩⟩⟩⟩)), (by (with_reducible repeat (first | apply Kd.R_alloc | apply Kd.R_drewN | apply Kd.R_drew)); exact Kd.R_mono HO367.out (fun _ hk => ⟨hk.1.1.1.1, ⟨hk.1.1.1.2.1, ⟨hk.1.1.1.2.2.1, ⟨hk.1.1.1.2.2.2.1, ⟨hk.1.1.1.2.2.2.2.1, ⟨hk.1.1.1.2.2.2.2.2.1, ⟨hk.1.1.1.2.2.2.2.2.2, ⟨hk.1.1.2, ⟨hk.1.2, hk.2⟩⟩⟩⟩⟩⟩⟩⟩⟩)), (by (with_reducible repeat (first | apply Kd.R_alloc | apply Kd.R_drewN | apply Kd.R_drew)); exact Kd.R_mono HO373.out (fun _ hk => ⟨hk.1.1.1.1, ⟨hk.1.1.1.2.1, ⟨hk.1.1.1.2.2.1, ⟨hk.1.1.1.2.2.2.1, ⟨hk.1.1.1.2.2.2.2.1, ⟨hk.1.1.1.2.2.2.2.2.1, ⟨hk.1.1.1.2.2.2.2.2.2, ⟨hk.1.1.2, ⟨hk.1.2, hk.2⟩⟩⟩⟩⟩⟩⟩⟩⟩)), (by (with_reducible repeat (first | apply Kd.R_alloc | apply Kd.R_drewN | apply Kd.R_drew)); exact Kd.R_mono HO381.out (fun _ hk => ⟨hk.1.1.1.1, ⟨hk.1.1.1.2.1, ⟨hk.1.1.1.2.2.1, ⟨hk.1.1.1.2.2.2.1, ⟨hk.1.1.1.2.2.2.2.1, ⟨hk.1.1.1.2.2.2.2.2.1, ⟨hk.1.1.1.2.2.2.2.2.2, ⟨hk.1.1.2, ⟨hk.1.2, hk.2⟩⟩⟩⟩⟩⟩⟩⟩⟩)), (by (with_reducible repeat (first | apply Kd.R_alloc | apply Kd.R_drewN | apply Kd.R_drew)); exact Kd.R_mono HO388.out (fun _ hk => ⟨hk.1.1.1.1, ⟨hk.1.1.1.2.1, ⟨hk.1.1.1.2.2.1, ⟨hk.1.1.1.2.2.2.1, ⟨hk.1.1.1.2.2.2.2.1, ⟨hk.1.1.1.2.2.2.2.2.1, ⟨hk.1.1.1.2.2.2.2.2.2, ⟨hk.1.1.2, ⟨hk.1.2, hk.2⟩⟩⟩⟩⟩⟩⟩⟩⟩)), (by (with_reducible repeat (first | apply Kd.R_alloc | apply Kd.R_drewN | apply Kd.R_drew)); exact Kd.R_mono HO395.out (fun _ hk => ⟨hk.1.1.1.1, ⟨hk.1.1.1.2.1, ⟨hk.1.1.1.2.2.1, ⟨hk.1.1.1.2.2.2.1, ⟨hk.1.1.1.2.2.2.2.1, ⟨hk.1.1.1.2.2.2.2.2.1, ⟨hk.1.1.1.2.2.2.2.2.2, ⟨hk.1.1.2, ⟨hk.1.2, hk.2⟩⟩⟩⟩⟩⟩⟩⟩⟩)), (by (with_reducible repeat (first | apply Kd.R_alloc | apply Kd.R_drewN | apply Kd.R_drew)); exact Kd.R_mono HO404.out (fun _ hk => ⟨hk.1.1.1.1, ⟨hk.1.1.1.2.1, ⟨hk.1.1.1.2.2.1, ⟨hk.1.1.1.2.2.2.1, ⟨hk.1.1.1.2.2.2.2.1, ⟨hk.1.1.1.2.2.2.2.2.1, ⟨hk.1.1.1.2.2.2.2.2.2, ⟨hk.1.1.2, ⟨hk.1.2, hk.2⟩⟩⟩⟩⟩⟩⟩⟩⟩)), (by (with_reducible repeat (first | apply Kd.R_alloc | apply Kd.R_drewN | apply Kd.R_drew)); exact Kd.R_mono HO411.out (fun _ hk => ⟨hk.1.1.1.1, ⟨hk.1.1.1.2.1, ⟨hk.1.1.1.2.2.1, ⟨hk.1.1.1.2.2.2.1, ⟨hk.1.1.1.2.2.2.2.1, ⟨hk.1.1.1.2.2.2.2.2.1, ⟨hk.1.1.1.2.2.2.2.2.2, ⟨hk.1.1.2, ⟨hk.1.2, hk.2⟩⟩⟩⟩⟩⟩⟩⟩⟩)), (by (with_reducible repeat (first | apply Kd.R_alloc | apply Kd.R_drewN | apply Kd.R_drew)); exact Kd.R_mono HO426.out (fun _ hk => ⟨hk.1.1.1.1.1.1.1.1.1.2, ⟨hk.1.1.1.1.1.1.1.1.2, ⟨hk.1.1.1.1.1.1.1.2, ⟨hk.1.1.1.1.1.1.2, ⟨hk.1.1.1.1.1.2, ⟨hk.1.1.1.1.2, ⟨hk.1.1.1.2, ⟨hk.1.1.2, ⟨hk.1.2, hk.2⟩⟩⟩⟩⟩⟩⟩⟩⟩)), (by (with_reducible repeat (first | apply Kd.R_alloc | apply Kd.R_drewN | apply Kd.R_drew)); exact Kd.R_mono HO432.out (fun _ hk => ⟨hk.1.1.1.1.1.1.1.1.1.2, ⟨hk.1.1.1.1.1.1.1.1.2, ⟨hk.1.1.1.1.1.1.1.2, ⟨hk.1.1.1.1.1.1.2, ⟨hk.1.1.1.1.1.2, ⟨hk.1.1.1.1.2, ⟨hk.1.1.1.2, ⟨hk.1.1.2, ⟨hk.1.2, hk.2⟩⟩⟩⟩⟩⟩⟩⟩⟩)), (by (with_reducible repeat (first | apply Kd.R_alloc | apply Kd.R_drewN | apply Kd.R_drew)); exact Kd.R_mono HO438.out (fun _ hk => ⟨hk.1.1.1.1.1.1.1.1.1.2, ⟨hk.1.1.1.1.1.1.1.1.2, ⟨hk.1.1.1.1.1.1.1.2, ⟨hk.1.1.1.1.1.1.2, ⟨hk.1.1.1.1.1.2, ⟨hk.1.1.1.1.2, ⟨hk.1.1.1.2, ⟨hk.1.1.2, ⟨hk.1.2, hk.2⟩⟩⟩⟩⟩⟩⟩⟩⟩)), (bl_ BK352).out, (bl_ BK353).out, (bl_ BK375).out, (bl_ BK382).out, (bl_ BK389).out, (bl_ BK397).out, (bl_ BK440).out, GW440.out, GE440.out, NB352_440.out, NB440_352.out, NB353_440.out, NB440_353.out, NB375_440.out, NB440_375.out, NB382_440.out, NB440_382.out, NB389_440.out, NB440_389.out, NB397_440.out, NB440_397.out, (bw_ HB).out⟩)
                  ·skip
                   refine box_step ?hg (N := 17) ?hd (cs := #[.int .i64 0, .int .i64 0, .int .i64 0, .slice none 0 0]) (t := 33) ?hr ?_; (case hd => rfl); (case hg => rfl); (case hr => first | (go_simp; done) | (go_simp; rfl))
                   intro gb440 hg w126 hbox hb
                   have BK440 := Aside0.mk (hbox)
                   have GW440 := bs_ HB hg
                   have GE440 := bs_ HB hg
                   have NB352_440 := bm_ BK352 hg
                   have NB440_352 := bn_ BK352 hg
                   have NB353_440 := bm_ BK353 hg
                   have NB440_353 := bn_ BK353 hg
                   have NB375_440 := bm_ BK375 hg
                   have NB440_375 := bn_ BK375 hg
                   have NB382_440 := bm_ BK382 hg
                   have NB440_382 := bn_ BK382 hg
                   have NB389_440 := bm_ BK389 hg
                   have NB440_389 := bn_ BK389 hg
                   have NB397_440 := bm_ BK397 hg
                   have NB440_397 := bn_ BK397 hg
                   replace HO361 := Aside0.mk (Kd.R_below (ra_ HO361.out) hb)
                   replace HO367 := Aside0.mk (Kd.R_below (ra_ HO367.out) hb)
                   replace HO373 := Aside0.mk (Kd.R_below (ra_ HO373.out) hb)
                   replace HO381 := Aside0.mk (Kd.R_below (ra_ HO381.out) hb)
                   replace HO388 := Aside0.mk (Kd.R_below (ra_ HO388.out) hb)
                   replace HO395 := Aside0.mk (Kd.R_below (ra_ HO395.out) hb)
                   replace HO404 := Aside0.mk (Kd.R_below (ra_ HO404.out) hb)
                   replace HO411 := Aside0.mk (Kd.R_below (ra_ HO411.out) hb)
                   replace HO426 := Aside0.mk (Kd.R_below (ra_ HO426.out) hb)
                   replace HO432 := Aside0.mk (Kd.R_below (ra_ HO432.out) hb)
                   replace BK352 := bb_ BK352 hb
                   replace BK353 := bb_ BK353 hb
                   replace BK375 := bb_ BK375 hb
                   replace BK382 := bb_ BK382 hb
                   replace BK389 := bb_ BK389 hb
                   replace BK397 := bb_ BK397 hb
                   replace HB := bt_ HB hb
                   clear hb hbox hg
                   obtain ⟨Ao127, co127, eo127⟩ := Kd.R_slice HO426.out
                   (first | subst eo127 | (injection eo127 with f1_ f2_ f3_; have f4_ := f1_.symm; have f5_ := f3_.symm; clear f1_ f2_ f3_; subst f4_; subst f5_))
                   obtain ⟨Ao128, co128, eo128⟩ := Kd.R_slice HO432.out
                   (first | subst eo128 | (injection eo128 with f1_ f2_ f3_; have f4_ := f1_.symm; have f5_ := f3_.symm; clear f1_ f2_ f3_; subst f4_; subst f5_))
                   refine hK.out _ _ ⟨(blk_cell BK352.out 0).trans rfl, (blk_cell BK352.out 1).trans rfl, (blk_cell BK352.out 2).trans rfl, (blk_cell BK352.out 3).trans rfl, (blk_cell BK353.out 0).trans rfl, (blk_cell BK353.out 1).trans rfl, (blk_cell BK353.out 2).trans rfl, (blk_cell BK353.out 3).trans rfl⟩ (fun hHeld => ?_)
                   clear hK K
                   refine norm_ (a' := ?_) ?_ ?_
                   rotate_left
                   ·show Act.put _ (some 17) _ = _
                    simp only [Act.put, lstS, lstZ, lstC, i64_w, i32_w]
                    rfl
                   refine one_ (i := 5) (N := some 104) (bv_ 12 575) rfl rfl (one_of HT_.out (by kernel_rfl)) (by decide) (fun K hK => ?_)
                   refine goes_ Try.func14 (by kernel_rfl) rfl #[.int .i64 a0, .agg #[.int .i64 t421, .int .i64 t422, .int .i64 t423, .slice Ao127 t424.length co127], .agg #[.int .i64 t427, .int .i64 t428, .int .i64 t429, .slice Ao128 t430.length co128]] (by rfl) rfl rfl (by (try simp only [List.map_toArray, List.map_cons, List.map_nil]); first | done | rfl | (simp only [List.length_drop, List.length_take]; rfl)) ?_
                   with_reducible refine (impl_AddMeasures.calls k a0 t421 t422 t423 _ _ t424 t427 t428 t429 _ _ t430 t433 t434 t435 t436 t439 _ ?side1 ?side2 ?side3 ?side4 A46.out).mono ?_
                   (case side1 => repeat (first | exact (Kd.R_reads' HO426.out).2.2 | (with_reducible refine Kd.C_alloc ?_ _) | (with_reducible refine Kd.C_drewN ?_ _) | (with_reducible refine Kd.C_drew ?_)))
                   (case side2 => exact (Kd.R_reads' HO426.out).2.1)
                   (case side3 => repeat (first | exact (Kd.R_reads' HO432.out).2.2 | (with_reducible refine Kd.C_alloc ?_ _) | (with_reducible refine Kd.C_drewN ?_ _) | (with_reducible refine Kd.C_drew ?_)))
                   (case side4 => exact (Kd.R_reads' HO432.out).2.1)
                   rintro e w129 ⟨v437, rfl, ho0, hb⟩
                   refine ⟨_, rfl, ?_⟩
                   have HO438 := Aside0.mk (Kd.R_lower (Kd.R_new' (Kd.R_new' (Kd.R_new' (Kd.R_new' (Kd.R_new' (Kd.R_new' (Kd.R_new' (Kd.R_new' (Kd.R_new' (Kd.R_new' ho0 (Kd.R_lt (ra_ HO361.out))) (Kd.R_lt (ra_ HO367.out))) (Kd.R_lt (ra_ HO373.out))) (Kd.R_lt (ra_ HO381.out))) (Kd.R_lt (ra_ HO388.out))) (Kd.R_lt (ra_ HO395.out))) (Kd.R_lt (ra_ HO404.out))) (Kd.R_lt (ra_ HO411.out))) (Kd.R_lt (ra_ HO426.out))) (Kd.R_lt (ra_ HO432.out))) (below_size (bw_ HB).out))
                   replace HO361 := Aside0.mk (Kd.R_elder' (ra_ HO361.out) (Kd.R_base ho0) hb)
                   replace HO367 := Aside0.mk (Kd.R_elder' (ra_ HO367.out) (Kd.R_base ho0) hb)
                   replace HO373 := Aside0.mk (Kd.R_elder' (ra_ HO373.out) (Kd.R_base ho0) hb)
                   replace HO381 := Aside0.mk (Kd.R_elder' (ra_ HO381.out) (Kd.R_base ho0) hb)
                   replace HO388 := Aside0.mk (Kd.R_elder' (ra_ HO388.out) (Kd.R_base ho0) hb)
                   replace HO395 := Aside0.mk (Kd.R_elder' (ra_ HO395.out) (Kd.R_base ho0) hb)
                   replace HO404 := Aside0.mk (Kd.R_elder' (ra_ HO404.out) (Kd.R_base ho0) hb)
                   replace HO411 := Aside0.mk (Kd.R_elder' (ra_ HO411.out) (Kd.R_base ho0) hb)
                   replace HO426 := Aside0.mk (Kd.R_elder' (ra_ HO426.out) (Kd.R_base ho0) hb)
                   replace HO432 := Aside0.mk (Kd.R_elder' (ra_ HO432.out) (Kd.R_base ho0) hb)
                   replace BK352 := bb_ BK352 hb
                   replace BK353 := bb_ BK353 hb
                   replace BK375 := bb_ BK375 hb
                   replace BK382 := bb_ BK382 hb
                   replace BK389 := bb_ BK389 hb
                   replace BK397 := bb_ BK397 hb
                   replace BK440 := bb_ BK440 hb
                   replace HB := bt_ HB hb
                   (try clear hb)
                   (try clear hb2)
                   (try clear hk)
                   (try clear hi)
                   (try clear ho0)
                   refine hK.out _ _ ⟨(blk_cell BK352.out 0).trans rfl, (blk_cell BK352.out 1).trans rfl, (blk_cell BK352.out 2).trans rfl, (blk_cell BK352.out 3).trans rfl, (blk_cell BK353.out 0).trans rfl, (blk_cell BK353.out 1).trans rfl, (blk_cell BK353.out 2).trans rfl, (blk_cell BK353.out 3).trans rfl⟩ (fun hHeld => ?_)
                   clear hK K
                   refine norm_ (a' := ?_) ?_ ?_
                   rotate_left
                   ·show Act.put _ (some 104) _ = _
                    simp only [Act.put, lstS, lstZ, lstC, i64_w, i32_w]
                    rfl
                   refine pu_ HT_ 6 (some 98) (bv_ 12 639) ?_
                   refine pu_ HT_ 7 (some 105) (bv_ 12 767) ?_
                   refine pu_ HT_ 8 (some 106) (bv_ 12 1023) ?_
                   exact norm_ (by simp only [putAll, Act.put, lstS, lstZ, lstC]) (hCont (.slice Ao127 t424.length co127, .slice Ao128 t430.length co128, v437, gb440) _ ⟨hHeld, (by (with_reducible repeat (first | apply Kd.R_alloc | apply Kd.R_drewN | apply Kd.R_drew)); exact Kd.R_mono HO361.out (fun _ hk => ⟨hk.1.1.1.1, ⟨hk.1.1.1.2.1, ⟨hk.1.1.1.2.2.1, ⟨hk.1.1.1.2.2.2.1, ⟨hk.1.1.1.2.2.2.2.1, ⟨hk.1.1.1.2.2.2.2.2.1, ⟨hk.1.1.1.2.2.2.2.2.2, ⟨hk.1.1.2, ⟨hk.1.2, hk.2⟩⟩⟩⟩⟩⟩⟩⟩⟩)), (by (with_reducible repeat (first | apply Kd.R_alloc | apply Kd.R_drewN | apply Kd.R_drew)); exact Kd.R_mono HO367.out (fun _ hk => ⟨hk.1.1.1.1, ⟨hk.1.1.1.2.1, ⟨hk.1.1.1.2.2.1, ⟨hk.1.1.1.2.2.2.1, ⟨hk.1.1.1.2.2.2.2.1, ⟨hk.1.1.1.2.2.2.2.2.1, ⟨hk.1.1.1.2.2.2.2.2.2, ⟨hk.1.1.2, ⟨hk.1.2, hk.2⟩⟩⟩⟩⟩⟩⟩⟩⟩)), (by (with_reducible repeat (first | apply Kd.R_alloc | apply Kd.R_drewN | apply Kd.R_drew)); exact Kd.R_mono HO373.out (fun _ hk => ⟨hk.1.1.1.1, ⟨hk.1.1.1.2.1, ⟨hk.1.1.1.2.2.1, ⟨hk.1.1.1.2.2.2.1, ⟨hk.1.1.1.2.2.2.2.1, ⟨hk.1.1.1.2.2.2.2.2.1, ⟨hk.1.1.1.2.2.2.2.2.2, ⟨hk.1.1.2, ⟨hk.1.2, hk.2⟩⟩⟩⟩⟩⟩⟩⟩⟩)), (by (with_reducible repeat (first | apply Kd.R_alloc | apply Kd.R_drewN | apply Kd.R_drew)); exact Kd.R_mono HO381.out (fun _ hk => ⟨hk.1.1.1.1, ⟨hk.1.1.1.2.1, ⟨hk.1.1.1.2.2.1, ⟨hk.1.1.1.2.2.2.1, ⟨hk.1.1.1.2.2.2.2.1, ⟨hk.1.1.1.2.2.2.2.2.1, ⟨hk.1.1.1.2.2.2.2.2.2, ⟨hk.1.1.2, ⟨hk.1.2, hk.2⟩⟩⟩⟩⟩⟩⟩⟩⟩)), (by (with_reducible repeat (first | apply Kd.R_alloc | apply Kd.R_drewN | apply Kd.R_drew)); exact Kd.R_mono HO388.out (fun _ hk => ⟨hk.1.1.1.1, ⟨hk.1.1.1.2.1, ⟨hk.1.1.1.2.2.1, ⟨hk.1.1.1.2.2.2.1, ⟨hk.1.1.1.2.2.2.2.1, ⟨hk.1.1.1.2.2.2.2.2.1, ⟨hk.1.1.1.2.2.2.2.2.2, ⟨hk.1.1.2, ⟨hk.1.2, hk.2⟩⟩⟩⟩⟩⟩⟩⟩⟩)), (by (with_reducible repeat (first | apply Kd.R_alloc | apply Kd.R_drewN | apply Kd.R_drew)); exact Kd.R_mono HO395.out (fun _ hk => ⟨hk.1.1.1.1, ⟨hk.1.1.1.2.1, ⟨hk.1.1.1.2.2.1, ⟨hk.1.1.1.2.2.2.1, ⟨hk.1.1.1.2.2.2.2.1, ⟨hk.1.1.1.2.2.2.2.2.1, ⟨hk.1.1.1.2.2.2.2.2.2, ⟨hk.1.1.2, ⟨hk.1.2, hk.2⟩⟩⟩⟩⟩⟩⟩⟩⟩)), (by (with_reducible repeat (first | apply Kd.R_alloc | apply Kd.R_drewN | apply Kd.R_drew)); exact Kd.R_mono HO404.out (fun _ hk => ⟨hk.1.1.1.1, ⟨hk.1.1.1.2.1, ⟨hk.1.1.1.2.2.1, ⟨hk.1.1.1.2.2.2.1, ⟨hk.1.1.1.2.2.2.2.1, ⟨hk.1.1.1.2.2.2.2.2.1, ⟨hk.1.1.1.2.2.2.2.2.2, ⟨hk.1.1.2, ⟨hk.1.2, hk.2⟩⟩⟩⟩⟩⟩⟩⟩⟩)), (by (with_reducible repeat (first | apply Kd.R_alloc | apply Kd.R_drewN | apply Kd.R_drew)); exact Kd.R_mono HO411.out (fun _ hk => ⟨hk.1.1.1.1, ⟨hk.1.1.1.2.1, ⟨hk.1.1.1.2.2.1, ⟨hk.1.1.1.2.2.2.1, ⟨hk.1.1.1.2.2.2.2.1, ⟨hk.1.1.1.2.2.2.2.2.1, ⟨hk.1.1.1.2.2.2.2.2.2, ⟨hk.1.1.2, ⟨hk.1.2, hk.2⟩⟩⟩⟩⟩⟩⟩⟩⟩)), (by (with_reducible repeat (first | apply Kd.R_alloc | apply Kd.R_drewN | apply Kd.R_drew)); exact Kd.R_mono HO426.out (fun _ hk => ⟨hk.1.1.1.1.1.1.1.1.1.2, ⟨hk.1.1.1.1.1.1.1.1.2, ⟨hk.1.1.1.1.1.1.1.2, ⟨hk.1.1.1.1.1.1.2, ⟨hk.1.1.1.1.1.2, ⟨hk.1.1.1.1.2, ⟨hk.1.1.1.2, ⟨hk.1.1.2, ⟨hk.1.2, hk.2⟩⟩⟩⟩⟩⟩⟩⟩⟩)), (by (with_reducible repeat (first | apply Kd.R_alloc | apply Kd.R_drewN | apply Kd.R_drew)); exact Kd.R_mono HO432.out (fun _ hk => ⟨hk.1.1.1.1.1.1.1.1.1.2, ⟨hk.1.1.1.1.1.1.1.1.2, ⟨hk.1.1.1.1.1.1.1.2, ⟨hk.1.1.1.1.1.1.2, ⟨hk.1.1.1.1.1.2, ⟨hk.1.1.1.1.2, ⟨hk.1.1.1.2, ⟨hk.1.1.2, ⟨hk.1.2, hk.2⟩⟩⟩⟩⟩⟩⟩⟩⟩)), (by (with_reducible repeat (first | apply Kd.R_alloc | apply Kd.R_drewN | apply Kd.R_drew)); exact Kd.R_mono HO438.out (fun _ hk => ⟨hk.1.1.1.1.1.1.1.1.1.2, ⟨hk.1.1.1.1.1.1.1.1.2, ⟨hk.1.1.1.1.1.1.1.2, ⟨hk.1.1.1.1.1.1.2, ⟨hk.1.1.1.1.1.2, ⟨hk.1.1.1.1.2, ⟨hk.1.1.1.2, ⟨hk.1.1.2, ⟨hk.1.2, hk.2⟩⟩⟩⟩⟩⟩⟩⟩⟩)), (bl_ BK352).out, (bl_ BK353).out, (bl_ BK375).out, (bl_ BK382).out, (bl_ BK389).out, (bl_ BK397).out, (bl_ BK440).out, GW440.out, GE440.out, NB352_440.out, NB440_352.out, NB353_440.out, NB440_353.out, NB375_440.out, NB440_375.out, NB382_440.out, NB440_382.out, NB389_440.out, NB440_389.out, NB397_440.out, NB440_397.out, (bw_ HB).out⟩)
                 ·skip
                  refine box_step ?hg (N := 17) ?hd (cs := #[.int .i64 0, .int .i64 0, .int .i64 0, .slice none 0 0]) (t := 33) ?hr ?_; (case hd => rfl); (case hg => rfl); (case hr => first | (go_simp; done) | (go_simp; rfl))
                  intro gb440 hg w125 hbox hb
                  have BK440 := Aside0.mk (hbox)
                  have GW440 := bs_ HB hg
                  have GE440 := bs_ HB hg
                  have NB352_440 := bm_ BK352 hg
                  have NB440_352 := bn_ BK352 hg
                  have NB353_440 := bm_ BK353 hg
                  have NB440_353 := bn_ BK353 hg
                  have NB375_440 := bm_ BK375 hg
                  have NB440_375 := bn_ BK375 hg
                  have NB382_440 := bm_ BK382 hg
                  have NB440_382 := bn_ BK382 hg
                  have NB389_440 := bm_ BK389 hg
                  have NB440_389 := bn_ BK389 hg
                  have NB397_440 := bm_ BK397 hg
                  have NB440_397 := bn_ BK397 hg
                  replace HO361 := Aside0.mk (Kd.R_below (ra_ HO361.out) hb)
                  replace HO367 := Aside0.mk (Kd.R_below (ra_ HO367.out) hb)
                  replace HO373 := Aside0.mk (Kd.R_below (ra_ HO373.out) hb)
                  replace HO381 := Aside0.mk (Kd.R_below (ra_ HO381.out) hb)
                  replace HO388 := Aside0.mk (Kd.R_below (ra_ HO388.out) hb)
                  replace HO395 := Aside0.mk (Kd.R_below (ra_ HO395.out) hb)
                  replace HO404 := Aside0.mk (Kd.R_below (ra_ HO404.out) hb)
                  replace HO411 := Aside0.mk (Kd.R_below (ra_ HO411.out) hb)
                  replace HO426 := Aside0.mk (Kd.R_below (ra_ HO426.out) hb)
                  replace BK352 := bb_ BK352 hb
                  replace BK353 := bb_ BK353 hb
                  replace BK375 := bb_ BK375 hb
                  replace BK382 := bb_ BK382 hb
                  replace BK389 := bb_ BK389 hb
                  replace BK397 := bb_ BK397 hb
                  replace HB := bt_ HB hb
                  clear hb hbox hg
                  refine hK.out _ _ ⟨(blk_cell BK352.out 0).trans rfl, (blk_cell BK352.out 1).trans rfl, (blk_cell BK352.out 2).trans rfl, (blk_cell BK352.out 3).trans rfl, (blk_cell BK353.out 0).trans rfl, (blk_cell BK353.out 1).trans rfl, (blk_cell BK353.out 2).trans rfl, (blk_cell BK353.out 3).trans rfl⟩ (fun hHeld => ?_)
                  clear hK K
                  refine norm_ (a' := ?_) ?_ ?_
                  rotate_left
                  ·show Act.put _ (some 17) _ = _
                   simp only [Act.put, lstS, lstZ, lstC, i64_w, i32_w]
                   rfl
                  refine one_ (i := 4) (N := some 103) (bv_ 12 543) rfl rfl (one_of HT_.out (by kernel_rfl)) (by decide) (fun K hK => ?_)
                  refine goes_ Try.func9 (by kernel_rfl) rfl #[.agg #[.int .i64 a2_0, .int .i64 a2_1, .int .i64 a2_2, .slice A2_3 l2_3.length c2_3]] (by rfl) rfl rfl (by (try simp only [List.map_toArray, List.map_cons, List.map_nil]); first | done | rfl | (simp only [List.length_drop, List.length_take]; rfl)) ?_
                  with_reducible refine (laws_toMeasure.calls k a2_0 a2_1 a2_2 _ _ l2_3 t427 t428 t429 t430 _ ?side1 ?side2 A45.out).mono ?_
                  (case side1 => repeat (first | exact (Kd.C_below HR2_3.out HB.out) | (with_reducible refine Kd.C_alloc ?_ _) | (with_reducible refine Kd.C_drewN ?_ _) | (with_reducible refine Kd.C_drew ?_)))
                  (case side2 => exact HC2_3.out)
                  rintro e w126 ⟨v431, rfl, ho0, hb⟩
                  refine ⟨_, rfl, ?_⟩
                  have HO432 := Aside0.mk (Kd.R_lower (Kd.R_new' (Kd.R_new' (Kd.R_new' (Kd.R_new' (Kd.R_new' (Kd.R_new' (Kd.R_new' (Kd.R_new' (Kd.R_new' ho0 (Kd.R_lt (ra_ HO361.out))) (Kd.R_lt (ra_ HO367.out))) (Kd.R_lt (ra_ HO373.out))) (Kd.R_lt (ra_ HO381.out))) (Kd.R_lt (ra_ HO388.out))) (Kd.R_lt (ra_ HO395.out))) (Kd.R_lt (ra_ HO404.out))) (Kd.R_lt (ra_ HO411.out))) (Kd.R_lt (ra_ HO426.out))) (below_size (bw_ HB).out))
                  replace HO361 := Aside0.mk (Kd.R_elder' (ra_ HO361.out) (Kd.R_base ho0) hb)
                  replace HO367 := Aside0.mk (Kd.R_elder' (ra_ HO367.out) (Kd.R_base ho0) hb)
                  replace HO373 := Aside0.mk (Kd.R_elder' (ra_ HO373.out) (Kd.R_base ho0) hb)
                  replace HO381 := Aside0.mk (Kd.R_elder' (ra_ HO381.out) (Kd.R_base ho0) hb)
                  replace HO388 := Aside0.mk (Kd.R_elder' (ra_ HO388.out) (Kd.R_base ho0) hb)
                  replace HO395 := Aside0.mk (Kd.R_elder' (ra_ HO395.out) (Kd.R_base ho0) hb)
                  replace HO404 := Aside0.mk (Kd.R_elder' (ra_ HO404.out) (Kd.R_base ho0) hb)
                  replace HO411 := Aside0.mk (Kd.R_elder' (ra_ HO411.out) (Kd.R_base ho0) hb)
                  replace HO426 := Aside0.mk (Kd.R_elder' (ra_ HO426.out) (Kd.R_base ho0) hb)
                  replace BK352 := bb_ BK352 hb
                  replace BK353 := bb_ BK353 hb
                  replace BK375 := bb_ BK375 hb
                  replace BK382 := bb_ BK382 hb
                  replace BK389 := bb_ BK389 hb
                  replace BK397 := bb_ BK397 hb
                  replace BK440 := bb_ BK440 hb
                  replace HB := bt_ HB hb
                  (try clear hb)
                  (try clear hb2)
                  (try clear hk)
                  (try clear hi)
                  (try clear ho0)
                  obtain ⟨Ao127, co127, eo127⟩ := Kd.R_slice HO426.out
                  (first | subst eo127 | (injection eo127 with f1_ f2_ f3_; have f4_ := f1_.symm; have f5_ := f3_.symm; clear f1_ f2_ f3_; subst f4_; subst f5_))
                  obtain ⟨Ao128, co128, eo128⟩ := Kd.R_slice HO432.out
                  (first | subst eo128 | (injection eo128 with f1_ f2_ f3_; have f4_ := f1_.symm; have f5_ := f3_.symm; clear f1_ f2_ f3_; subst f4_; subst f5_))
                  refine hK.out _ _ ⟨(blk_cell BK352.out 0).trans rfl, (blk_cell BK352.out 1).trans rfl, (blk_cell BK352.out 2).trans rfl, (blk_cell BK352.out 3).trans rfl, (blk_cell BK353.out 0).trans rfl, (blk_cell BK353.out 1).trans rfl, (blk_cell BK353.out 2).trans rfl, (blk_cell BK353.out 3).trans rfl⟩ (fun hHeld => ?_)
                  clear hK K
                  refine norm_ (a' := ?_) ?_ ?_
                  rotate_left
                  ·show Act.put _ (some 103) _ = _
                   simp only [Act.put, lstS, lstZ, lstC, i64_w, i32_w]
                   rfl
                  refine one_ (i := 5) (N := some 104) (bv_ 12 575) rfl rfl (one_of HT_.out (by kernel_rfl)) (by decide) (fun K hK => ?_)
                  refine goes_ Try.func14 (by kernel_rfl) rfl #[.int .i64 a0, .agg #[.int .i64 t421, .int .i64 t422, .int .i64 t423, .slice Ao127 t424.length co127], .agg #[.int .i64 t427, .int .i64 t428, .int .i64 t429, .slice Ao128 t430.length co128]] (by rfl) rfl rfl (by (try simp only [List.map_toArray, List.map_cons, List.map_nil]); first | done | rfl | (simp only [List.length_drop, List.length_take]; rfl)) ?_
                  with_reducible refine (impl_AddMeasures.calls k a0 t421 t422 t423 _ _ t424 t427 t428 t429 _ _ t430 t433 t434 t435 t436 t439 _ ?side1 ?side2 ?side3 ?side4 A46.out).mono ?_
                  (case side1 => repeat (first | exact (Kd.R_reads' HO426.out).2.2 | (with_reducible refine Kd.C_alloc ?_ _) | (with_reducible refine Kd.C_drewN ?_ _) | (with_reducible refine Kd.C_drew ?_)))
                  (case side2 => exact (Kd.R_reads' HO426.out).2.1)
                  (case side3 => repeat (first | exact (Kd.R_reads' HO432.out).2.2 | (with_reducible refine Kd.C_alloc ?_ _) | (with_reducible refine Kd.C_drewN ?_ _) | (with_reducible refine Kd.C_drew ?_)))
                  (case side4 => exact (Kd.R_reads' HO432.out).2.1)
                  rintro e w129 ⟨v437, rfl, ho0, hb⟩
                  refine ⟨_, rfl, ?_⟩
                  have HO438 := Aside0.mk (Kd.R_lower (Kd.R_new' (Kd.R_new' (Kd.R_new' (Kd.R_new' (Kd.R_new' (Kd.R_new' (Kd.R_new' (Kd.R_new' (Kd.R_new' (Kd.R_new' ho0 (Kd.R_lt (ra_ HO361.out))) (Kd.R_lt (ra_ HO367.out))) (Kd.R_lt (ra_ HO373.out))) (Kd.R_lt (ra_ HO381.out))) (Kd.R_lt (ra_ HO388.out))) (Kd.R_lt (ra_ HO395.out))) (Kd.R_lt (ra_ HO404.out))) (Kd.R_lt (ra_ HO411.out))) (Kd.R_lt (ra_ HO426.out))) (Kd.R_lt (ra_ HO432.out))) (below_size (bw_ HB).out))
                  replace HO361 := Aside0.mk (Kd.R_elder' (ra_ HO361.out) (Kd.R_base ho0) hb)
                  replace HO367 := Aside0.mk (Kd.R_elder' (ra_ HO367.out) (Kd.R_base ho0) hb)
                  replace HO373 := Aside0.mk (Kd.R_elder' (ra_ HO373.out) (Kd.R_base ho0) hb)
                  replace HO381 := Aside0.mk (Kd.R_elder' (ra_ HO381.out) (Kd.R_base ho0) hb)
                  replace HO388 := Aside0.mk (Kd.R_elder' (ra_ HO388.out) (Kd.R_base ho0) hb)
                  replace HO395 := Aside0.mk (Kd.R_elder' (ra_ HO395.out) (Kd.R_base ho0) hb)
                  replace HO404 := Aside0.mk (Kd.R_elder' (ra_ HO404.out) (Kd.R_base ho0) hb)
                  replace HO411 := Aside0.mk (Kd.R_elder' (ra_ HO411.out) (Kd.R_base ho0) hb)
                  replace HO426 := Aside0.mk (Kd.R_elder' (ra_ HO426.out) (Kd.R_base ho0) hb)
                  replace HO432 := Aside0.mk (Kd.R_elder' (ra_ HO432.out) (Kd.R_base ho0) hb)
                  replace BK352 := bb_ BK352 hb
                  replace BK353 := bb_ BK353 hb
                  replace BK375 := bb_ BK375 hb
                  replace BK382 := bb_ BK382 hb
                  replace BK389 := bb_ BK389 hb
                  replace BK397 := bb_ BK397 hb
                  replace BK440 := bb_ BK440 hb
                  replace HB := bt_ HB hb
                  (try clear hb)
                  (try clear hb2)
                  (try clear hk)
                  (try clear hi)
                  (try clear ho0)
                  refine hK.out _ _ ⟨(blk_cell BK352.out 0).trans rfl, (blk_cell BK352.out 1).trans rfl, (blk_cell BK352.out 2).trans rfl, (blk_cell BK352.out 3).trans rfl, (blk_cell BK353.out 0).trans rfl, (blk_cell BK353.out 1).trans rfl, (blk_cell BK353.out 2).trans rfl, (blk_cell BK353.out 3).trans rfl⟩ (fun hHeld => ?_)
                  clear hK K
                  refine norm_ (a' := ?_) ?_ ?_
                  rotate_left
                  ·show Act.put _ (some 104) _ = _
                   simp only [Act.put, lstS, lstZ, lstC, i64_w, i32_w]
                   rfl
                  refine pu_ HT_ 6 (some 98) (bv_ 12 639) ?_
                  refine pu_ HT_ 7 (some 105) (bv_ 12 767) ?_
                  refine pu_ HT_ 8 (some 106) (bv_ 12 1023) ?_
                  exact norm_ (by simp only [putAll, Act.put, lstS, lstZ, lstC]) (hCont (.slice Ao127 t424.length co127, .slice Ao128 t430.length co128, v437, gb440) _ ⟨hHeld, (by (with_reducible repeat (first | apply Kd.R_alloc | apply Kd.R_drewN | apply Kd.R_drew)); exact Kd.R_mono HO361.out (fun _ hk => ⟨hk.1.1.1.1, ⟨hk.1.1.1.2.1, ⟨hk.1.1.1.2.2.1, ⟨hk.1.1.1.2.2.2.1, ⟨hk.1.1.1.2.2.2.2.1, ⟨hk.1.1.1.2.2.2.2.2.1, ⟨hk.1.1.1.2.2.2.2.2.2, ⟨hk.1.1.2, ⟨hk.1.2, hk.2⟩⟩⟩⟩⟩⟩⟩⟩⟩)), (by (with_reducible repeat (first | apply Kd.R_alloc | apply Kd.R_drewN | apply Kd.R_drew)); exact Kd.R_mono HO367.out (fun _ hk => ⟨hk.1.1.1.1, ⟨hk.1.1.1.2.1, ⟨hk.1.1.1.2.2.1, ⟨hk.1.1.1.2.2.2.1, ⟨hk.1.1.1.2.2.2.2.1, ⟨hk.1.1.1.2.2.2.2.2.1, ⟨hk.1.1.1.2.2.2.2.2.2, ⟨hk.1.1.2, ⟨hk.1.2, hk.2⟩⟩⟩⟩⟩⟩⟩⟩⟩)), (by (with_reducible repeat (first | apply Kd.R_alloc | apply Kd.R_drewN | apply Kd.R_drew)); exact Kd.R_mono HO373.out (fun _ hk => ⟨hk.1.1.1.1, ⟨hk.1.1.1.2.1, ⟨hk.1.1.1.2.2.1, ⟨hk.1.1.1.2.2.2.1, ⟨hk.1.1.1.2.2.2.2.1, ⟨hk.1.1.1.2.2.2.2.2.1, ⟨hk.1.1.1.2.2.2.2.2.2, ⟨hk.1.1.2, ⟨hk.1.2, hk.2⟩⟩⟩⟩⟩⟩⟩⟩⟩)), (by (with_reducible repeat (first | apply Kd.R_alloc | apply Kd.R_drewN | apply Kd.R_drew)); exact Kd.R_mono HO381.out (fun _ hk => ⟨hk.1.1.1.1, ⟨hk.1.1.1.2.1, ⟨hk.1.1.1.2.2.1, ⟨hk.1.1.1.2.2.2.1, ⟨hk.1.1.1.2.2.2.2.1, ⟨hk.1.1.1.2.2.2.2.2.1, ⟨hk.1.1.1.2.2.2.2.2.2, ⟨hk.1.1.2, ⟨hk.1.2, hk.2⟩⟩⟩⟩⟩⟩⟩⟩⟩)), (by (with_reducible repeat (first | apply Kd.R_alloc | apply Kd.R_drewN | apply Kd.R_drew)); exact Kd.R_mono HO388.out (fun _ hk => ⟨hk.1.1.1.1, ⟨hk.1.1.1.2.1, ⟨hk.1.1.1.2.2.1, ⟨hk.1.1.1.2.2.2.1, ⟨hk.1.1.1.2.2.2.2.1, ⟨hk.1.1.1.2.2.2.2.2.1, ⟨hk.1.1.1.2.2.2.2.2.2, ⟨hk.1.1.2, ⟨hk.1.2, hk.2⟩⟩⟩⟩⟩⟩⟩⟩⟩)), (by (with_reducible repeat (first | apply Kd.R_alloc | apply Kd.R_drewN | apply Kd.R_drew)); exact Kd.R_mono HO395.out (fun _ hk => ⟨hk.1.1.1.1, ⟨hk.1.1.1.2.1, ⟨hk.1.1.1.2.2.1, ⟨hk.1.1.1.2.2.2.1, ⟨hk.1.1.1.2.2.2.2.1, ⟨hk.1.1.1.2.2.2.2.2.1, ⟨hk.1.1.1.2.2.2.2.2.2, ⟨hk.1.1.2, ⟨hk.1.2, hk.2⟩⟩⟩⟩⟩⟩⟩⟩⟩)), (by (with_reducible repeat (first | apply Kd.R_alloc | apply Kd.R_drewN | apply Kd.R_drew)); exact Kd.R_mono HO404.out (fun _ hk => ⟨hk.1.1.1.1, ⟨hk.1.1.1.2.1, ⟨hk.1.1.1.2.2.1, ⟨hk.1.1.1.2.2.2.1, ⟨hk.1.1.1.2.2.2.2.1, ⟨hk.1.1.1.2.2.2.2.2.1, ⟨hk.1.1.1.2.2.2.2.2.2, ⟨hk.1.1.2, ⟨hk.1.2, hk.2⟩⟩⟩⟩⟩⟩⟩⟩⟩)), (by (with_reducible repeat (first | apply Kd.R_alloc | apply Kd.R_drewN | apply Kd.R_drew)); exact Kd.R_mono HO411.out (fun _ hk => ⟨hk.1.1.1.1, ⟨hk.1.1.1.2.1, ⟨hk.1.1.1.2.2.1, ⟨hk.1.1.1.2.2.2.1, ⟨hk.1.1.1.2.2.2.2.1, ⟨hk.1.1.1.2.2.2.2.2.1, ⟨hk.1.1.1.2.2.2.2.2.2, ⟨hk.1.1.2, ⟨hk.1.2, hk.2⟩⟩⟩⟩⟩⟩⟩⟩⟩)), (by (with_reducible repeat (first | apply Kd.R_alloc | apply Kd.R_drewN | apply Kd.R_drew)); exact Kd.R_mono HO426.out (fun _ hk => ⟨hk.1.1.1.1.1.1.1.1.1.2, ⟨hk.1.1.1.1.1.1.1.1.2, ⟨hk.1.1.1.1.1.1.1.2, ⟨hk.1.1.1.1.1.1.2, ⟨hk.1.1.1.1.1.2, ⟨hk.1.1.1.1.2, ⟨hk.1.1.1.2, ⟨hk.1.1.2, ⟨hk.1.2, hk.2⟩⟩⟩⟩⟩⟩⟩⟩⟩)), (by (with_reducible repeat (first | apply Kd.R_alloc | apply Kd.R_drewN | apply Kd.R_drew)); exact Kd.R_mono HO432.out (fun _ hk => ⟨hk.1.1.1.1.1.1.1.1.1.2, ⟨hk.1.1.1.1.1.1.1.1.2, ⟨hk.1.1.1.1.1.1.1.2, ⟨hk.1.1.1.1.1.1.2, ⟨hk.1.1.1.1.1.2, ⟨hk.1.1.1.1.2, ⟨hk.1.1.1.2, ⟨hk.1.1.2, ⟨hk.1.2, hk.2⟩⟩⟩⟩⟩⟩⟩⟩⟩)), (by (with_reducible repeat (first | apply Kd.R_alloc | apply Kd.R_drewN | apply Kd.R_drew)); exact Kd.R_mono HO438.out (fun _ hk => ⟨hk.1.1.1.1.1.1.1.1.1.2, ⟨hk.1.1.1.1.1.1.1.1.2, ⟨hk.1.1.1.1.1.1.1.2, ⟨hk.1.1.1.1.1.1.2, ⟨hk.1.1.1.1.1.2, ⟨hk.1.1.1.1.2, ⟨hk.1.1.1.2, ⟨hk.1.1.2, ⟨hk.1.2, hk.2⟩⟩⟩⟩⟩⟩⟩⟩⟩)), (bl_ BK352).out, (bl_ BK353).out, (bl_ BK375).out, (bl_ BK382).out, (bl_ BK389).out, (bl_ BK397).out, (bl_ BK440).out, GW440.out, GE440.out, NB352_440.out, NB440_352.out, NB353_440.out, NB440_353.out, NB375_440.out, NB440_375.out, NB382_440.out, NB440_382.out, NB389_440.out, NB440_389.out, NB397_440.out, NB440_397.out, (bw_ HB).out⟩)
                ·skip
                 refine box_step ?hg (N := 17) ?hd (cs := #[.int .i64 0, .int .i64 0, .int .i64 0, .slice none 0 0]) (t := 33) ?hr ?_; (case hd => rfl); (case hg => rfl); (case hr => first | (go_simp; done) | (go_simp; rfl))
                 intro gb440 hg w124 hbox hb
                 have BK440 := Aside0.mk (hbox)
                 have GW440 := bs_ HB hg
                 have GE440 := bs_ HB hg
                 have NB352_440 := bm_ BK352 hg
                 have NB440_352 := bn_ BK352 hg
                 have NB353_440 := bm_ BK353 hg
                 have NB440_353 := bn_ BK353 hg
                 have NB375_440 := bm_ BK375 hg
                 have NB440_375 := bn_ BK375 hg
                 have NB382_440 := bm_ BK382 hg
                 have NB440_382 := bn_ BK382 hg
                 have NB389_440 := bm_ BK389 hg
                 have NB440_389 := bn_ BK389 hg
                 have NB397_440 := bm_ BK397 hg
                 have NB440_397 := bn_ BK397 hg
                 replace HO361 := Aside0.mk (Kd.R_below (ra_ HO361.out) hb)
                 replace HO367 := Aside0.mk (Kd.R_below (ra_ HO367.out) hb)
                 replace HO373 := Aside0.mk (Kd.R_below (ra_ HO373.out) hb)
                 replace HO381 := Aside0.mk (Kd.R_below (ra_ HO381.out) hb)
                 replace HO388 := Aside0.mk (Kd.R_below (ra_ HO388.out) hb)
                 replace HO395 := Aside0.mk (Kd.R_below (ra_ HO395.out) hb)
                 replace HO404 := Aside0.mk (Kd.R_below (ra_ HO404.out) hb)
                 replace HO411 := Aside0.mk (Kd.R_below (ra_ HO411.out) hb)
                 replace BK352 := bb_ BK352 hb
                 replace BK353 := bb_ BK353 hb
                 replace BK375 := bb_ BK375 hb
                 replace BK382 := bb_ BK382 hb
                 replace BK389 := bb_ BK389 hb
                 replace BK397 := bb_ BK397 hb
                 replace HB := bt_ HB hb
                 clear hb hbox hg
                 refine hK.out _ _ ⟨(blk_cell BK352.out 0).trans rfl, (blk_cell BK352.out 1).trans rfl, (blk_cell BK352.out 2).trans rfl, (blk_cell BK352.out 3).trans rfl, (blk_cell BK353.out 0).trans rfl, (blk_cell BK353.out 1).trans rfl, (blk_cell BK353.out 2).trans rfl, (blk_cell BK353.out 3).trans rfl⟩ (fun hHeld => ?_)
                 clear hK K
                 refine norm_ (a' := ?_) ?_ ?_
                 rotate_left
                 ·show Act.put _ (some 17) _ = _
                  simp only [Act.put, lstS, lstZ, lstC, i64_w, i32_w]
                  rfl
                 refine one_ (i := 2) (N := some 101) (bv_ 12 527) rfl rfl (one_of HT_.out (by kernel_rfl)) (by decide) (fun K hK => ?_)
                 refine goes_ Try.func9 (by kernel_rfl) rfl #[.agg #[.int .i64 a1_0, .int .i64 a1_1, .int .i64 a1_2, .slice A1_3 l1_3.length c1_3]] (by rfl) rfl rfl (by (try simp only [List.map_toArray, List.map_cons, List.map_nil]); first | done | rfl | (simp only [List.length_drop, List.length_take]; rfl)) ?_
                 with_reducible refine (laws_toMeasure.calls k a1_0 a1_1 a1_2 _ _ l1_3 t421 t422 t423 t424 _ ?side1 ?side2 A44.out).mono ?_
                 (case side1 => repeat (first | exact (Kd.C_below HR1_3.out HB.out) | (with_reducible refine Kd.C_alloc ?_ _) | (with_reducible refine Kd.C_drewN ?_ _) | (with_reducible refine Kd.C_drew ?_)))
                 (case side2 => exact HC1_3.out)
                 rintro e w125 ⟨v425, rfl, ho0, hb⟩
                 refine ⟨_, rfl, ?_⟩
                 have HO426 := Aside0.mk (Kd.R_lower (Kd.R_new' (Kd.R_new' (Kd.R_new' (Kd.R_new' (Kd.R_new' (Kd.R_new' (Kd.R_new' (Kd.R_new' ho0 (Kd.R_lt (ra_ HO361.out))) (Kd.R_lt (ra_ HO367.out))) (Kd.R_lt (ra_ HO373.out))) (Kd.R_lt (ra_ HO381.out))) (Kd.R_lt (ra_ HO388.out))) (Kd.R_lt (ra_ HO395.out))) (Kd.R_lt (ra_ HO404.out))) (Kd.R_lt (ra_ HO411.out))) (below_size (bw_ HB).out))
                 replace HO361 := Aside0.mk (Kd.R_elder' (ra_ HO361.out) (Kd.R_base ho0) hb)
                 replace HO367 := Aside0.mk (Kd.R_elder' (ra_ HO367.out) (Kd.R_base ho0) hb)
                 replace HO373 := Aside0.mk (Kd.R_elder' (ra_ HO373.out) (Kd.R_base ho0) hb)
                 replace HO381 := Aside0.mk (Kd.R_elder' (ra_ HO381.out) (Kd.R_base ho0) hb)
                 replace HO388 := Aside0.mk (Kd.R_elder' (ra_ HO388.out) (Kd.R_base ho0) hb)
                 replace HO395 := Aside0.mk (Kd.R_elder' (ra_ HO395.out) (Kd.R_base ho0) hb)
                 replace HO404 := Aside0.mk (Kd.R_elder' (ra_ HO404.out) (Kd.R_base ho0) hb)
                 replace HO411 := Aside0.mk (Kd.R_elder' (ra_ HO411.out) (Kd.R_base ho0) hb)
                 replace BK352 := bb_ BK352 hb
                 replace BK353 := bb_ BK353 hb
                 replace BK375 := bb_ BK375 hb
                 replace BK382 := bb_ BK382 hb
                 replace BK389 := bb_ BK389 hb
                 replace BK397 := bb_ BK397 hb
                 replace BK440 := bb_ BK440 hb
                 replace HB := bt_ HB hb
                 (try clear hb)
                 (try clear hb2)
                 (try clear hk)
                 (try clear hi)
                 (try clear ho0)
                 refine hK.out _ _ ⟨(blk_cell BK352.out 0).trans rfl, (blk_cell BK352.out 1).trans rfl, (blk_cell BK352.out 2).trans rfl, (blk_cell BK352.out 3).trans rfl, (blk_cell BK353.out 0).trans rfl, (blk_cell BK353.out 1).trans rfl, (blk_cell BK353.out 2).trans rfl, (blk_cell BK353.out 3).trans rfl⟩ (fun hHeld => ?_)
                 clear hK K
                 refine norm_ (a' := ?_) ?_ ?_
                 rotate_left
                 ·show Act.put _ (some 101) _ = _
                  simp only [Act.put, lstS, lstZ, lstC, i64_w, i32_w]
                  rfl
                 refine one_ (i := 4) (N := some 103) (bv_ 12 543) rfl rfl (one_of HT_.out (by kernel_rfl)) (by decide) (fun K hK => ?_)
                 refine goes_ Try.func9 (by kernel_rfl) rfl #[.agg #[.int .i64 a2_0, .int .i64 a2_1, .int .i64 a2_2, .slice A2_3 l2_3.length c2_3]] (by rfl) rfl rfl (by (try simp only [List.map_toArray, List.map_cons, List.map_nil]); first | done | rfl | (simp only [List.length_drop, List.length_take]; rfl)) ?_
                 with_reducible refine (laws_toMeasure.calls k a2_0 a2_1 a2_2 _ _ l2_3 t427 t428 t429 t430 _ ?side1 ?side2 A45.out).mono ?_
                 (case side1 => repeat (first | exact (Kd.C_below HR2_3.out HB.out) | (with_reducible refine Kd.C_alloc ?_ _) | (with_reducible refine Kd.C_drewN ?_ _) | (with_reducible refine Kd.C_drew ?_)))
                 (case side2 => exact HC2_3.out)
                 rintro e w126 ⟨v431, rfl, ho0, hb⟩
                 refine ⟨_, rfl, ?_⟩
                 have HO432 := Aside0.mk (Kd.R_lower (Kd.R_new' (Kd.R_new' (Kd.R_new' (Kd.R_new' (Kd.R_new' (Kd.R_new' (Kd.R_new' (Kd.R_new' (Kd.R_new' ho0 (Kd.R_lt (ra_ HO361.out))) (Kd.R_lt (ra_ HO367.out))) (Kd.R_lt (ra_ HO373.out))) (Kd.R_lt (ra_ HO381.out))) (Kd.R_lt (ra_ HO388.out))) (Kd.R_lt (ra_ HO395.out))) (Kd.R_lt (ra_ HO404.out))) (Kd.R_lt (ra_ HO411.out))) (Kd.R_lt (ra_ HO426.out))) (below_size (bw_ HB).out))
                 replace HO361 := Aside0.mk (Kd.R_elder' (ra_ HO361.out) (Kd.R_base ho0) hb)
                 replace HO367 := Aside0.mk (Kd.R_elder' (ra_ HO367.out) (Kd.R_base ho0) hb)
                 replace HO373 := Aside0.mk (Kd.R_elder' (ra_ HO373.out) (Kd.R_base ho0) hb)
                 replace HO381 := Aside0.mk (Kd.R_elder' (ra_ HO381.out) (Kd.R_base ho0) hb)
                 replace HO388 := Aside0.mk (Kd.R_elder' (ra_ HO388.out) (Kd.R_base ho0) hb)
                 replace HO395 := Aside0.mk (Kd.R_elder' (ra_ HO395.out) (Kd.R_base ho0) hb)
                 replace HO404 := Aside0.mk (Kd.R_elder' (ra_ HO404.out) (Kd.R_base ho0) hb)
                 replace HO411 := Aside0.mk (Kd.R_elder' (ra_ HO411.out) (Kd.R_base ho0) hb)
                 replace HO426 := Aside0.mk (Kd.R_elder' (ra_ HO426.out) (Kd.R_base ho0) hb)
                 replace BK352 := bb_ BK352 hb
                 replace BK353 := bb_ BK353 hb
                 replace BK375 := bb_ BK375 hb
                 replace BK382 := bb_ BK382 hb
                 replace BK389 := bb_ BK389 hb
                 replace BK397 := bb_ BK397 hb
                 replace BK440 := bb_ BK440 hb
                 replace HB := bt_ HB hb
                 (try clear hb)
                 (try clear hb2)
                 (try clear hk)
                 (try clear hi)
                 (try clear ho0)
                 obtain ⟨Ao127, co127, eo127⟩ := Kd.R_slice HO426.out
                 (first | subst eo127 | (injection eo127 with f1_ f2_ f3_; have f4_ := f1_.symm; have f5_ := f3_.symm; clear f1_ f2_ f3_; subst f4_; subst f5_))
                 obtain ⟨Ao128, co128, eo128⟩ := Kd.R_slice HO432.out
                 (first | subst eo128 | (injection eo128 with f1_ f2_ f3_; have f4_ := f1_.symm; have f5_ := f3_.symm; clear f1_ f2_ f3_; subst f4_; subst f5_))
                 refine hK.out _ _ ⟨(blk_cell BK352.out 0).trans rfl, (blk_cell BK352.out 1).trans rfl, (blk_cell BK352.out 2).trans rfl, (blk_cell BK352.out 3).trans rfl, (blk_cell BK353.out 0).trans rfl, (blk_cell BK353.out 1).trans rfl, (blk_cell BK353.out 2).trans rfl, (blk_cell BK353.out 3).trans rfl⟩ (fun hHeld => ?_)
                 clear hK K
                 refine norm_ (a' := ?_) ?_ ?_
                 rotate_left
                 ·show Act.put _ (some 103) _ = _
                  simp only [Act.put, lstS, lstZ, lstC, i64_w, i32_w]
                  rfl
                 refine one_ (i := 5) (N := some 104) (bv_ 12 575) rfl rfl (one_of HT_.out (by kernel_rfl)) (by decide) (fun K hK => ?_)
                 refine goes_ Try.func14 (by kernel_rfl) rfl #[.int .i64 a0, .agg #[.int .i64 t421, .int .i64 t422, .int .i64 t423, .slice Ao127 t424.length co127], .agg #[.int .i64 t427, .int .i64 t428, .int .i64 t429, .slice Ao128 t430.length co128]] (by rfl) rfl rfl (by (try simp only [List.map_toArray, List.map_cons, List.map_nil]); first | done | rfl | (simp only [List.length_drop, List.length_take]; rfl)) ?_
                 with_reducible refine (impl_AddMeasures.calls k a0 t421 t422 t423 _ _ t424 t427 t428 t429 _ _ t430 t433 t434 t435 t436 t439 _ ?side1 ?side2 ?side3 ?side4 A46.out).mono ?_
                 (case side1 => repeat (first | exact (Kd.R_reads' HO426.out).2.2 | (with_reducible refine Kd.C_alloc ?_ _) | (with_reducible refine Kd.C_drewN ?_ _) | (with_reducible refine Kd.C_drew ?_)))
                 (case side2 => exact (Kd.R_reads' HO426.out).2.1)
                 (case side3 => repeat (first | exact (Kd.R_reads' HO432.out).2.2 | (with_reducible refine Kd.C_alloc ?_ _) | (with_reducible refine Kd.C_drewN ?_ _) | (with_reducible refine Kd.C_drew ?_)))
                 (case side4 => exact (Kd.R_reads' HO432.out).2.1)
                 rintro e w129 ⟨v437, rfl, ho0, hb⟩
                 refine ⟨_, rfl, ?_⟩
                 have HO438 := Aside0.mk (Kd.R_lower (Kd.R_new' (Kd.R_new' (Kd.R_new' (Kd.R_new' (Kd.R_new' (Kd.R_new' (Kd.R_new' (Kd.R_new' (Kd.R_new' (Kd.R_new' ho0 (Kd.R_lt (ra_ HO361.out))) (Kd.R_lt (ra_ HO367.out))) (Kd.R_lt (ra_ HO373.out))) (Kd.R_lt (ra_ HO381.out))) (Kd.R_lt (ra_ HO388.out))) (Kd.R_lt (ra_ HO395.out))) (Kd.R_lt (ra_ HO404.out))) (Kd.R_lt (ra_ HO411.out))) (Kd.R_lt (ra_ HO426.out))) (Kd.R_lt (ra_ HO432.out))) (below_size (bw_ HB).out))
                 replace HO361 := Aside0.mk (Kd.R_elder' (ra_ HO361.out) (Kd.R_base ho0) hb)
                 replace HO367 := Aside0.mk (Kd.R_elder' (ra_ HO367.out) (Kd.R_base ho0) hb)
                 replace HO373 := Aside0.mk (Kd.R_elder' (ra_ HO373.out) (Kd.R_base ho0) hb)
                 replace HO381 := Aside0.mk (Kd.R_elder' (ra_ HO381.out) (Kd.R_base ho0) hb)
                 replace HO388 := Aside0.mk (Kd.R_elder' (ra_ HO388.out) (Kd.R_base ho0) hb)
                 replace HO395 := Aside0.mk (Kd.R_elder' (ra_ HO395.out) (Kd.R_base ho0) hb)
                 replace HO404 := Aside0.mk (Kd.R_elder' (ra_ HO404.out) (Kd.R_base ho0) hb)
                 replace HO411 := Aside0.mk (Kd.R_elder' (ra_ HO411.out) (Kd.R_base ho0) hb)
                 replace HO426 := Aside0.mk (Kd.R_elder' (ra_ HO426.out) (Kd.R_base ho0) hb)
                 replace HO432 := Aside0.mk (Kd.R_elder' (ra_ HO432.out) (Kd.R_base ho0) hb)
                 replace BK352 := bb_ BK352 hb
                 replace BK353 := bb_ BK353 hb
                 replace BK375 := bb_ BK375 hb
                 replace BK382 := bb_ BK382 hb
                 replace BK389 := bb_ BK389 hb
                 replace BK397 := bb_ BK397 hb
                 replace BK440 := bb_ BK440 hb
                 replace HB := bt_ HB hb
                 (try clear hb)
                 (try clear hb2)
                 (try clear hk)
                 (try clear hi)
                 (try clear ho0)
                 refine hK.out _ _ ⟨(blk_cell BK352.out 0).trans rfl, (blk_cell BK352.out 1).trans rfl, (blk_cell BK352.out 2).trans rfl, (blk_cell BK352.out 3).trans rfl, (blk_cell BK353.out 0).trans rfl, (blk_cell BK353.out 1).trans rfl, (blk_cell BK353.out 2).trans rfl, (blk_cell BK353.out 3).trans rfl⟩ (fun hHeld => ?_)
                 clear hK K
                 refine norm_ (a' := ?_) ?_ ?_
                 rotate_left
                 ·show Act.put _ (some 104) _ = _
                  simp only [Act.put, lstS, lstZ, lstC, i64_w, i32_w]
                  rfl
                 refine pu_ HT_ 6 (some 98) (bv_ 12 639) ?_
                 refine pu_ HT_ 7 (some 105) (bv_ 12 767) ?_
                 refine pu_ HT_ 8 (some 106) (bv_ 12 1023) ?_
                 exact norm_ (by simp only [putAll, Act.put, lstS, lstZ, lstC]) (hCont (.slice Ao127 t424.length co127, .slice Ao128 t430.length co128, v437, gb440) _ ⟨hHeld, (by (with_reducible repeat (first | apply Kd.R_alloc | apply Kd.R_drewN | apply Kd.R_drew)); exact Kd.R_mono HO361.out (fun _ hk => ⟨hk.1.1.1.1, ⟨hk.1.1.1.2.1, ⟨hk.1.1.1.2.2.1, ⟨hk.1.1.1.2.2.2.1, ⟨hk.1.1.1.2.2.2.2.1, ⟨hk.1.1.1.2.2.2.2.2.1, ⟨hk.1.1.1.2.2.2.2.2.2, ⟨hk.1.1.2, ⟨hk.1.2, hk.2⟩⟩⟩⟩⟩⟩⟩⟩⟩)), (by (with_reducible repeat (first | apply Kd.R_alloc | apply Kd.R_drewN | apply Kd.R_drew)); exact Kd.R_mono HO367.out (fun _ hk => ⟨hk.1.1.1.1, ⟨hk.1.1.1.2.1, ⟨hk.1.1.1.2.2.1, ⟨hk.1.1.1.2.2.2.1, ⟨hk.1.1.1.2.2.2.2.1, ⟨hk.1.1.1.2.2.2.2.2.1, ⟨hk.1.1.1.2.2.2.2.2.2, ⟨hk.1.1.2, ⟨hk.1.2, hk.2⟩⟩⟩⟩⟩⟩⟩⟩⟩)), (by (with_reducible repeat (first | apply Kd.R_alloc | apply Kd.R_drewN | apply Kd.R_drew)); exact Kd.R_mono HO373.out (fun _ hk => ⟨hk.1.1.1.1, ⟨hk.1.1.1.2.1, ⟨hk.1.1.1.2.2.1, ⟨hk.1.1.1.2.2.2.1, ⟨hk.1.1.1.2.2.2.2.1, ⟨hk.1.1.1.2.2.2.2.2.1, ⟨hk.1.1.1.2.2.2.2.2.2, ⟨hk.1.1.2, ⟨hk.1.2, hk.2⟩⟩⟩⟩⟩⟩⟩⟩⟩)), (by (with_reducible repeat (first | apply Kd.R_alloc | apply Kd.R_drewN | apply Kd.R_drew)); exact Kd.R_mono HO381.out (fun _ hk => ⟨hk.1.1.1.1, ⟨hk.1.1.1.2.1, ⟨hk.1.1.1.2.2.1, ⟨hk.1.1.1.2.2.2.1, ⟨hk.1.1.1.2.2.2.2.1, ⟨hk.1.1.1.2.2.2.2.2.1, ⟨hk.1.1.1.2.2.2.2.2.2, ⟨hk.1.1.2, ⟨hk.1.2, hk.2⟩⟩⟩⟩⟩⟩⟩⟩⟩)), (by (with_reducible repeat (first | apply Kd.R_alloc | apply Kd.R_drewN | apply Kd.R_drew)); exact Kd.R_mono HO388.out (fun _ hk => ⟨hk.1.1.1.1, ⟨hk.1.1.1.2.1, ⟨hk.1.1.1.2.2.1, ⟨hk.1.1.1.2.2.2.1, ⟨hk.1.1.1.2.2.2.2.1, ⟨hk.1.1.1.2.2.2.2.2.1, ⟨hk.1.1.1.2.2.2.2.2.2, ⟨hk.1.1.2, ⟨hk.1.2, hk.2⟩⟩⟩⟩⟩⟩⟩⟩⟩)), (by (with_reducible repeat (first | apply Kd.R_alloc | apply Kd.R_drewN | apply Kd.R_drew)); exact Kd.R_mono HO395.out (fun _ hk => ⟨hk.1.1.1.1, ⟨hk.1.1.1.2.1, ⟨hk.1.1.1.2.2.1, ⟨hk.1.1.1.2.2.2.1, ⟨hk.1.1.1.2.2.2.2.1, ⟨hk.1.1.1.2.2.2.2.2.1, ⟨hk.1.1.1.2.2.2.2.2.2, ⟨hk.1.1.2, ⟨hk.1.2, hk.2⟩⟩⟩⟩⟩⟩⟩⟩⟩)), (by (with_reducible repeat (first | apply Kd.R_alloc | apply Kd.R_drewN | apply Kd.R_drew)); exact Kd.R_mono HO404.out (fun _ hk => ⟨hk.1.1.1.1, ⟨hk.1.1.1.2.1, ⟨hk.1.1.1.2.2.1, ⟨hk.1.1.1.2.2.2.1, ⟨hk.1.1.1.2.2.2.2.1, ⟨hk.1.1.1.2.2.2.2.2.1, ⟨hk.1.1.1.2.2.2.2.2.2, ⟨hk.1.1.2, ⟨hk.1.2, hk.2⟩⟩⟩⟩⟩⟩⟩⟩⟩)), (by (with_reducible repeat (first | apply Kd.R_alloc | apply Kd.R_drewN | apply Kd.R_drew)); exact Kd.R_mono HO411.out (fun _ hk => ⟨hk.1.1.1.1, ⟨hk.1.1.1.2.1, ⟨hk.1.1.1.2.2.1, ⟨hk.1.1.1.2.2.2.1, ⟨hk.1.1.1.2.2.2.2.1, ⟨hk.1.1.1.2.2.2.2.2.1, ⟨hk.1.1.1.2.2.2.2.2.2, ⟨hk.1.1.2, ⟨hk.1.2, hk.2⟩⟩⟩⟩⟩⟩⟩⟩⟩)), (by (with_reducible repeat (first | apply Kd.R_alloc | apply Kd.R_drewN | apply Kd.R_drew)); exact Kd.R_mono HO426.out (fun _ hk => ⟨hk.1.1.1.1.1.1.1.1.1.2, ⟨hk.1.1.1.1.1.1.1.1.2, ⟨hk.1.1.1.1.1.1.1.2, ⟨hk.1.1.1.1.1.1.2, ⟨hk.1.1.1.1.1.2, ⟨hk.1.1.1.1.2, ⟨hk.1.1.1.2, ⟨hk.1.1.2, ⟨hk.1.2, hk.2⟩⟩⟩⟩⟩⟩⟩⟩⟩)), (by (with_reducible repeat (first | apply Kd.R_alloc | apply Kd.R_drewN | apply Kd.R_drew)); exact Kd.R_mono HO432.out (fun _ hk => ⟨hk.1.1.1.1.1.1.1.1.1.2, ⟨hk.1.1.1.1.1.1.1.1.2, ⟨hk.1.1.1.1.1.1.1.2, ⟨hk.1.1.1.1.1.1.2, ⟨hk.1.1.1.1.1.2, ⟨hk.1.1.1.1.2, ⟨hk.1.1.1.2, ⟨hk.1.1.2, ⟨hk.1.2, hk.2⟩⟩⟩⟩⟩⟩⟩⟩⟩)), (by (with_reducible repeat (first | apply Kd.R_alloc | apply Kd.R_drewN | apply Kd.R_drew)); exact Kd.R_mono HO438.out (fun _ hk => ⟨hk.1.1.1.1.1.1.1.1.1.2, ⟨hk.1.1.1.1.1.1.1.1.2, ⟨hk.1.1.1.1.1.1.1.2, ⟨hk.1.1.1.1.1.1.2, ⟨hk.1.1.1.1.1.2, ⟨hk.1.1.1.1.2, ⟨hk.1.1.1.2, ⟨hk.1.1.2, ⟨hk.1.2, hk.2⟩⟩⟩⟩⟩⟩⟩⟩⟩)), (bl_ BK352).out, (bl_ BK353).out, (bl_ BK375).out, (bl_ BK382).out, (bl_ BK389).out, (bl_ BK397).out, (bl_ BK440).out, GW440.out, GE440.out, NB352_440.out, NB440_352.out, NB353_440.out, NB440_353.out, NB375_440.out, NB440_375.out, NB382_440.out, NB440_382.out, NB389_440.out, NB440_389.out, NB397_440.out, NB440_397.out, (bw_ HB).out⟩)
               rintro ⟨v425, v431, v437, gb440⟩ w130 ⟨hS_, h0_, h1_, h2_, h3_, h4_, h5_, h6_, h7_, h8_, h9_, h10_, h11_, h12_, h13_, h14_, h15_, h16_, h17_, h18_, h19_, h20_, h21_, h22_, h23_, h24_, h25_, h26_, h27_, h28_, h29_, h30_, h31_, h32_⟩
               have n0_ : Aside0 (Kd.R k63 63 w130 w.heap.size (fun k_ => some k_ ≠ (v366 : Value).ownBlock ∧ some k_ ≠ (.slice Ao71 t371.length co71 : Value).ownBlock ∧ some k_ ≠ (.slice Ao81 t379.length co81 : Value).ownBlock ∧ some k_ ≠ (.slice Ao91 t386.length co91 : Value).ownBlock ∧ some k_ ≠ (.slice Ao101 t393.length co101 : Value).ownBlock ∧ some k_ ≠ (.slice Ao106 t402.length co106 : Value).ownBlock ∧ some k_ ≠ (.slice Ao110 t409.length co110 : Value).ownBlock ∧ some k_ ≠ (v425 : Value).ownBlock ∧ some k_ ≠ (v431 : Value).ownBlock ∧ some k_ ≠ (v437 : Value).ownBlock) v360 t359) := ⟨h0_⟩
               have n1_ : Aside0 (Kd.R k63 63 w130 w.heap.size (fun k_ => some k_ ≠ (v360 : Value).ownBlock ∧ some k_ ≠ (.slice Ao71 t371.length co71 : Value).ownBlock ∧ some k_ ≠ (.slice Ao81 t379.length co81 : Value).ownBlock ∧ some k_ ≠ (.slice Ao91 t386.length co91 : Value).ownBlock ∧ some k_ ≠ (.slice Ao101 t393.length co101 : Value).ownBlock ∧ some k_ ≠ (.slice Ao106 t402.length co106 : Value).ownBlock ∧ some k_ ≠ (.slice Ao110 t409.length co110 : Value).ownBlock ∧ some k_ ≠ (v425 : Value).ownBlock ∧ some k_ ≠ (v431 : Value).ownBlock ∧ some k_ ≠ (v437 : Value).ownBlock) v366 t365) := ⟨h1_⟩
               have n2_ : Aside0 (Kd.R k63 63 w130 w.heap.size (fun k_ => some k_ ≠ (v360 : Value).ownBlock ∧ some k_ ≠ (v366 : Value).ownBlock ∧ some k_ ≠ (.slice Ao81 t379.length co81 : Value).ownBlock ∧ some k_ ≠ (.slice Ao91 t386.length co91 : Value).ownBlock ∧ some k_ ≠ (.slice Ao101 t393.length co101 : Value).ownBlock ∧ some k_ ≠ (.slice Ao106 t402.length co106 : Value).ownBlock ∧ some k_ ≠ (.slice Ao110 t409.length co110 : Value).ownBlock ∧ some k_ ≠ (v425 : Value).ownBlock ∧ some k_ ≠ (v431 : Value).ownBlock ∧ some k_ ≠ (v437 : Value).ownBlock) (.slice Ao71 t371.length co71) t371) := ⟨h2_⟩
               have n3_ : Aside0 (Kd.R k63 63 w130 w.heap.size (fun k_ => some k_ ≠ (v360 : Value).ownBlock ∧ some k_ ≠ (v366 : Value).ownBlock ∧ some k_ ≠ (.slice Ao71 t371.length co71 : Value).ownBlock ∧ some k_ ≠ (.slice Ao91 t386.length co91 : Value).ownBlock ∧ some k_ ≠ (.slice Ao101 t393.length co101 : Value).ownBlock ∧ some k_ ≠ (.slice Ao106 t402.length co106 : Value).ownBlock ∧ some k_ ≠ (.slice Ao110 t409.length co110 : Value).ownBlock ∧ some k_ ≠ (v425 : Value).ownBlock ∧ some k_ ≠ (v431 : Value).ownBlock ∧ some k_ ≠ (v437 : Value).ownBlock) (.slice Ao81 t379.length co81) t414) := ⟨h3_⟩
               have n4_ : Aside0 (Kd.R k63 63 w130 w.heap.size (fun k_ => some k_ ≠ (v360 : Value).ownBlock ∧ some k_ ≠ (v366 : Value).ownBlock ∧ some k_ ≠ (.slice Ao71 t371.length co71 : Value).ownBlock ∧ some k_ ≠ (.slice Ao81 t379.length co81 : Value).ownBlock ∧ some k_ ≠ (.slice Ao101 t393.length co101 : Value).ownBlock ∧ some k_ ≠ (.slice Ao106 t402.length co106 : Value).ownBlock ∧ some k_ ≠ (.slice Ao110 t409.length co110 : Value).ownBlock ∧ some k_ ≠ (v425 : Value).ownBlock ∧ some k_ ≠ (v431 : Value).ownBlock ∧ some k_ ≠ (v437 : Value).ownBlock) (.slice Ao91 t386.length co91) t416) := ⟨h4_⟩
               have n5_ : Aside0 (Kd.R k63 63 w130 w.heap.size (fun k_ => some k_ ≠ (v360 : Value).ownBlock ∧ some k_ ≠ (v366 : Value).ownBlock ∧ some k_ ≠ (.slice Ao71 t371.length co71 : Value).ownBlock ∧ some k_ ≠ (.slice Ao81 t379.length co81 : Value).ownBlock ∧ some k_ ≠ (.slice Ao91 t386.length co91 : Value).ownBlock ∧ some k_ ≠ (.slice Ao106 t402.length co106 : Value).ownBlock ∧ some k_ ≠ (.slice Ao110 t409.length co110 : Value).ownBlock ∧ some k_ ≠ (v425 : Value).ownBlock ∧ some k_ ≠ (v431 : Value).ownBlock ∧ some k_ ≠ (v437 : Value).ownBlock) (.slice Ao101 t393.length co101) t419) := ⟨h5_⟩
               have n6_ : Aside0 (Kd.R k63 63 w130 w.heap.size (fun k_ => some k_ ≠ (v360 : Value).ownBlock ∧ some k_ ≠ (v366 : Value).ownBlock ∧ some k_ ≠ (.slice Ao71 t371.length co71 : Value).ownBlock ∧ some k_ ≠ (.slice Ao81 t379.length co81 : Value).ownBlock ∧ some k_ ≠ (.slice Ao91 t386.length co91 : Value).ownBlock ∧ some k_ ≠ (.slice Ao101 t393.length co101 : Value).ownBlock ∧ some k_ ≠ (.slice Ao110 t409.length co110 : Value).ownBlock ∧ some k_ ≠ (v425 : Value).ownBlock ∧ some k_ ≠ (v431 : Value).ownBlock ∧ some k_ ≠ (v437 : Value).ownBlock) (.slice Ao106 t402.length co106) t402) := ⟨h6_⟩
               have n7_ : Aside0 (Kd.R k63 63 w130 w.heap.size (fun k_ => some k_ ≠ (v360 : Value).ownBlock ∧ some k_ ≠ (v366 : Value).ownBlock ∧ some k_ ≠ (.slice Ao71 t371.length co71 : Value).ownBlock ∧ some k_ ≠ (.slice Ao81 t379.length co81 : Value).ownBlock ∧ some k_ ≠ (.slice Ao91 t386.length co91 : Value).ownBlock ∧ some k_ ≠ (.slice Ao101 t393.length co101 : Value).ownBlock ∧ some k_ ≠ (.slice Ao106 t402.length co106 : Value).ownBlock ∧ some k_ ≠ (v425 : Value).ownBlock ∧ some k_ ≠ (v431 : Value).ownBlock ∧ some k_ ≠ (v437 : Value).ownBlock) (.slice Ao110 t409.length co110) t409) := ⟨h7_⟩
               have n8_ : Aside0 (Kd.R k63 63 w130 w.heap.size (fun k_ => some k_ ≠ (v360 : Value).ownBlock ∧ some k_ ≠ (v366 : Value).ownBlock ∧ some k_ ≠ (.slice Ao71 t371.length co71 : Value).ownBlock ∧ some k_ ≠ (.slice Ao81 t379.length co81 : Value).ownBlock ∧ some k_ ≠ (.slice Ao91 t386.length co91 : Value).ownBlock ∧ some k_ ≠ (.slice Ao101 t393.length co101 : Value).ownBlock ∧ some k_ ≠ (.slice Ao106 t402.length co106 : Value).ownBlock ∧ some k_ ≠ (.slice Ao110 t409.length co110 : Value).ownBlock ∧ some k_ ≠ (v431 : Value).ownBlock ∧ some k_ ≠ (v437 : Value).ownBlock) v425 t424) := ⟨h8_⟩
               have n9_ : Aside0 (Kd.R k63 63 w130 w.heap.size (fun k_ => some k_ ≠ (v360 : Value).ownBlock ∧ some k_ ≠ (v366 : Value).ownBlock ∧ some k_ ≠ (.slice Ao71 t371.length co71 : Value).ownBlock ∧ some k_ ≠ (.slice Ao81 t379.length co81 : Value).ownBlock ∧ some k_ ≠ (.slice Ao91 t386.length co91 : Value).ownBlock ∧ some k_ ≠ (.slice Ao101 t393.length co101 : Value).ownBlock ∧ some k_ ≠ (.slice Ao106 t402.length co106 : Value).ownBlock ∧ some k_ ≠ (.slice Ao110 t409.length co110 : Value).ownBlock ∧ some k_ ≠ (v425 : Value).ownBlock ∧ some k_ ≠ (v437 : Value).ownBlock) v431 t430) := ⟨h9_⟩
               have n10_ : Aside0 (Kd.R k63 63 w130 w.heap.size (fun k_ => some k_ ≠ (v360 : Value).ownBlock ∧ some k_ ≠ (v366 : Value).ownBlock ∧ some k_ ≠ (.slice Ao71 t371.length co71 : Value).ownBlock ∧ some k_ ≠ (.slice Ao81 t379.length co81 : Value).ownBlock ∧ some k_ ≠ (.slice Ao91 t386.length co91 : Value).ownBlock ∧ some k_ ≠ (.slice Ao101 t393.length co101 : Value).ownBlock ∧ some k_ ≠ (.slice Ao106 t402.length co106 : Value).ownBlock ∧ some k_ ≠ (.slice Ao110 t409.length co110 : Value).ownBlock ∧ some k_ ≠ (v425 : Value).ownBlock ∧ some k_ ≠ (v431 : Value).ownBlock) v437 t436) := ⟨h10_⟩
               have n11_ : Aside0 (w130.heap[gb352]? = some (.cells #[.int .i64 a1_0, .int .i64 a1_1, .int .i64 a1_2, .slice A1_3 l1_3.length c1_3] 26 (0, 0))) := ⟨h11_⟩
               have n12_ : Aside0 (w130.heap[gb353]? = some (.cells #[.int .i64 a2_0, .int .i64 a2_1, .int .i64 a2_2, .slice A2_3 l2_3.length c2_3] 26 (0, 0))) := ⟨h12_⟩
               have n13_ : Aside0 (w130.heap[gb375]? = some (.cells #[.int .i64 t368, .int .i64 t369, .int .i64 t370, .slice Ao71 t371.length co71] 33 (0, 0))) := ⟨h13_⟩
               have n14_ : Aside0 (w130.heap[gb382]? = some (.cells #[.int .i64 t376, .int .i64 t377, .int .i64 t378, .slice Ao81 t379.length co81] 33 (0, 0))) := ⟨h14_⟩
               have n15_ : Aside0 (w130.heap[gb389]? = some (.cells #[.int .i64 t383, .int .i64 t384, .int .i64 t385, .slice Ao91 t386.length co91] 33 (0, 0))) := ⟨h15_⟩
               have n16_ : Aside0 (w130.heap[gb397]? = some (.cells #[.int .i64 t390, .int .i64 t391, .int .i64 t392, .slice Ao101 t393.length co101] 33 (0, 0))) := ⟨h16_⟩
               have n17_ : Aside0 (w130.heap[gb440]? = some (.cells #[.int .i64 0, .int .i64 0, .int .i64 0, .slice none 0 0] 33 (0, 0))) := ⟨h17_⟩
               have n18_ : Aside0 (w.heap.size ≤ gb440) := ⟨h18_⟩
               have n19_ : Aside0 (w.heap.size ≤ gb440) := ⟨h19_⟩
               have n20_ : Aside0 (gb352 ≠ gb440) := ⟨h20_⟩
               have n21_ : Aside0 (gb440 ≠ gb352) := ⟨h21_⟩
               have n22_ : Aside0 (gb353 ≠ gb440) := ⟨h22_⟩
               have n23_ : Aside0 (gb440 ≠ gb353) := ⟨h23_⟩
               have n24_ : Aside0 (gb375 ≠ gb440) := ⟨h24_⟩
               have n25_ : Aside0 (gb440 ≠ gb375) := ⟨h25_⟩
               have n26_ : Aside0 (gb382 ≠ gb440) := ⟨h26_⟩
               have n27_ : Aside0 (gb440 ≠ gb382) := ⟨h27_⟩
               have n28_ : Aside0 (gb389 ≠ gb440) := ⟨h28_⟩
               have n29_ : Aside0 (gb440 ≠ gb389) := ⟨h29_⟩
               have n30_ : Aside0 (gb397 ≠ gb440) := ⟨h30_⟩
               have n31_ : Aside0 (gb440 ≠ gb397) := ⟨h31_⟩
               have n32_ : Aside0 (Below w.heap.size w w130) := ⟨h32_⟩
               clear HO361
               clear HO367
               clear HO373
               clear HO381
               clear HO388
               clear HO395
               clear HO404
               clear HO411
               clear BK352
               clear BK353
               clear BK375
               clear BK382
               clear BK389
               clear BK397
               clear HB
               clear h0_ h1_ h2_ h3_ h4_ h5_ h6_ h7_ h8_ h9_ h10_ h11_ h12_ h13_ h14_ h15_ h16_ h17_ h18_ h19_ h20_ h21_ h22_ h23_ h24_ h25_ h26_ h27_ h28_ h29_ h30_ h31_ h32_
               have HO361 := n0_
               have HO367 := n1_
               have HO373 := n2_
               have HO381 := n3_
               have HO388 := n4_
               have HO395 := n5_
               have HO404 := n6_
               have HO411 := n7_
               have HO426 := n8_
               have HO432 := n9_
               have HO438 := n10_
               have BK352 := n11_
               have BK353 := n12_
               have BK375 := n13_
               have BK382 := n14_
               have BK389 := n15_
               have BK397 := n16_
               have BK440 := n17_
               have GW440 := n18_
               have GE440 := n19_
               have NB352_440 := n20_
               have NB440_352 := n21_
               have NB353_440 := n22_
               have NB440_353 := n23_
               have NB375_440 := n24_
               have NB440_375 := n25_
               have NB382_440 := n26_
               have NB440_382 := n27_
               have NB389_440 := n28_
               have NB440_389 := n29_
               have NB397_440 := n30_
               have NB440_397 := n31_
               have HB := n32_
               clear n0_ n1_ n2_ n3_ n4_ n5_ n6_ n7_ n8_ n9_ n10_ n11_ n12_ n13_ n14_ n15_ n16_ n17_ n18_ n19_ n20_ n21_ n22_ n23_ n24_ n25_ n26_ n27_ n28_ n29_ n30_ n31_ n32_
               have hHeld : w130.cell? ⟨gb352, 0, none⟩ = some (.int .i64 a1_0) ∧ w130.cell? ⟨gb352, 1, none⟩ = some (.int .i64 a1_1) ∧ w130.cell? ⟨gb352, 2, none⟩ = some (.int .i64 a1_2) ∧ w130.cell? ⟨gb352, 3, none⟩ = some (.slice A1_3 l1_3.length c1_3) ∧ w130.cell? ⟨gb353, 0, none⟩ = some (.int .i64 a2_0) ∧ w130.cell? ⟨gb353, 1, none⟩ = some (.int .i64 a2_1) ∧ w130.cell? ⟨gb353, 2, none⟩ = some (.int .i64 a2_2) ∧ w130.cell? ⟨gb353, 3, none⟩ = some (.slice A2_3 l2_3.length c2_3) := hS_
               obtain ⟨Ao134, co134, eo134⟩ := Kd.R_slice HO438.out
               (first | subst eo134 | (injection eo134 with f1_ f2_ f3_; have f4_ := f1_.symm; have f5_ := f3_.symm; clear f1_ f2_ f3_; subst f4_; subst f5_))
               refine norm_ (a' := ?_) ?_ ?_
               rotate_left
               ·simp only [putAll, Act.put, lstS, lstZ, lstC]
                rfl
               refine one_ (i := 10) (N := none) (bv_ 12 2047) rfl rfl (one_of HT_.out (by kernel_rfl)) (by decide) (fun K hK => ?_)
               have hs131 : w130.cell? ⟨gb440, 0, none⟩ = some (.int .i64 0) := (blk_cell BK440.out 0).trans rfl
               have hfs131 := blk_frozen BK440.out 0
               have hns131_0 := NB352_440.out
               have hns131_1 := NB353_440.out
               have hns131_2 := NB375_440.out
               have hns131_3 := NB382_440.out
               have hns131_4 := NB389_440.out
               have hns131_5 := NB397_440.out
               have hms131_0 := NB440_352.out
               have hms131_1 := NB440_353.out
               have hms131_2 := NB440_375.out
               have hms131_3 := NB440_382.out
               have hms131_4 := NB440_389.out
               have hms131_5 := NB440_397.out
               have hs132 : w130.cell? ⟨gb440, 1, none⟩ = some (.int .i64 0) := (blk_cell BK440.out 1).trans rfl
               have hfs132 := blk_frozen BK440.out 1
               have hns132_0 := NB352_440.out
               have hns132_1 := NB353_440.out
               have hns132_2 := NB375_440.out
               have hns132_3 := NB382_440.out
               have hns132_4 := NB389_440.out
               have hns132_5 := NB397_440.out
               have hms132_0 := NB440_352.out
               have hms132_1 := NB440_353.out
               have hms132_2 := NB440_375.out
               have hms132_3 := NB440_382.out
               have hms132_4 := NB440_389.out
               have hms132_5 := NB440_397.out
               have hs133 : w130.cell? ⟨gb440, 2, none⟩ = some (.int .i64 0) := (blk_cell BK440.out 2).trans rfl
               have hfs133 := blk_frozen BK440.out 2
               have hns133_0 := NB352_440.out
               have hns133_1 := NB353_440.out
               have hns133_2 := NB375_440.out
               have hns133_3 := NB382_440.out
               have hns133_4 := NB389_440.out
               have hns133_5 := NB397_440.out
               have hms133_0 := NB440_352.out
               have hms133_1 := NB440_353.out
               have hms133_2 := NB440_375.out
               have hms133_3 := NB440_382.out
               have hms133_4 := NB440_389.out
               have hms133_5 := NB440_397.out
               have hs135 : w130.cell? ⟨gb440, 3, none⟩ = some (.slice none 0 0) := (blk_cell BK440.out 3).trans rfl
               have hfs135 := blk_frozen BK440.out 3
               have hns135_0 := NB352_440.out
               have hns135_1 := NB353_440.out
               have hns135_2 := NB375_440.out
               have hns135_3 := NB382_440.out
               have hns135_4 := NB389_440.out
               have hns135_5 := NB397_440.out
               have hms135_0 := NB440_352.out
               have hms135_1 := NB440_353.out
               have hms135_2 := NB440_375.out
               have hms135_3 := NB440_382.out
               have hms135_4 := NB440_389.out
               have hms135_5 := NB440_397.out
               refine skip_ (w1 := ?_) (by rfl) rfl ?_ ?_
               rotate_left
               ·go_simp
                rfl
               refine hK.out _ _ ⟨((cell_far (p := ⟨gb440, _, none⟩) NB352_440.out _).trans (((cell_far (p := ⟨gb440, _, none⟩) NB352_440.out _).trans (((cell_far (p := ⟨gb440, _, none⟩) NB352_440.out _).trans (((cell_far (p := ⟨gb440, _, none⟩) NB352_440.out _).trans (hHeld.1)))))))), ((cell_far (p := ⟨gb440, _, none⟩) NB352_440.out _).trans (((cell_far (p := ⟨gb440, _, none⟩) NB352_440.out _).trans (((cell_far (p := ⟨gb440, _, none⟩) NB352_440.out _).trans (((cell_far (p := ⟨gb440, _, none⟩) NB352_440.out _).trans (hHeld.2.1)))))))), ((cell_far (p := ⟨gb440, _, none⟩) NB352_440.out _).trans (((cell_far (p := ⟨gb440, _, none⟩) NB352_440.out _).trans (((cell_far (p := ⟨gb440, _, none⟩) NB352_440.out _).trans (((cell_far (p := ⟨gb440, _, none⟩) NB352_440.out _).trans (hHeld.2.2.1)))))))), ((cell_far (p := ⟨gb440, _, none⟩) NB352_440.out _).trans (((cell_far (p := ⟨gb440, _, none⟩) NB352_440.out _).trans (((cell_far (p := ⟨gb440, _, none⟩) NB352_440.out _).trans (((cell_far (p := ⟨gb440, _, none⟩) NB352_440.out _).trans (hHeld.2.2.2.1)))))))), ((cell_far (p := ⟨gb440, _, none⟩) NB353_440.out _).trans (((cell_far (p := ⟨gb440, _, none⟩) NB353_440.out _).trans (((cell_far (p := ⟨gb440, _, none⟩) NB353_440.out _).trans (((cell_far (p := ⟨gb440, _, none⟩) NB353_440.out _).trans (hHeld.2.2.2.2.1)))))))), ((cell_far (p := ⟨gb440, _, none⟩) NB353_440.out _).trans (((cell_far (p := ⟨gb440, _, none⟩) NB353_440.out _).trans (((cell_far (p := ⟨gb440, _, none⟩) NB353_440.out _).trans (((cell_far (p := ⟨gb440, _, none⟩) NB353_440.out _).trans (hHeld.2.2.2.2.2.1)))))))), ((cell_far (p := ⟨gb440, _, none⟩) NB353_440.out _).trans (((cell_far (p := ⟨gb440, _, none⟩) NB353_440.out _).trans (((cell_far (p := ⟨gb440, _, none⟩) NB353_440.out _).trans (((cell_far (p := ⟨gb440, _, none⟩) NB353_440.out _).trans (hHeld.2.2.2.2.2.2.1)))))))), ((cell_far (p := ⟨gb440, _, none⟩) NB353_440.out _).trans (((cell_far (p := ⟨gb440, _, none⟩) NB353_440.out _).trans (((cell_far (p := ⟨gb440, _, none⟩) NB353_440.out _).trans (((cell_far (p := ⟨gb440, _, none⟩) NB353_440.out _).trans (hHeld.2.2.2.2.2.2.2))))))))⟩ (fun hHeld => ?_)
               clear hK K
               refine pu_ HT_ 11 (some 18) (bv_ 12 4095) ?_
               refine done_ (done_of HT_.out (by kernel_rfl)) ?_
               have hnb136 := NB440_352.out
               have hnc136 := NB352_440.out
               have hnb137 := NB440_353.out
               have hnc137 := NB353_440.out
               have hnb138 := NB440_375.out
               have hnc138 := NB375_440.out
               have hnb139 := NB440_382.out
               have hnc139 := NB382_440.out
               have hnb140 := NB440_389.out
               have hnc140 := NB389_440.out
               have hnb141 := NB440_397.out
               have hnc141 := NB397_440.out
               have hcz142_0 : w130.cell? ⟨gb440, 0, none⟩ = some (.int .i64 0) := cz_ BK440 0
               have hcz142_1 : w130.cell? ⟨gb440, 1, none⟩ = some (.int .i64 0) := cz_ BK440 1
               have hcz142_2 : w130.cell? ⟨gb440, 2, none⟩ = some (.int .i64 0) := cz_ BK440 2
               have hcz142_3 : w130.cell? ⟨gb440, 3, none⟩ = some (.slice none 0 0) := cz_ BK440 3
               have hfz142_0 := fz_ BK440 0
               have hfz142_1 := fz_ BK440 1
               have hfz142_2 := fz_ BK440 2
               have hfz142_3 := fz_ BK440 3
               have hcz143_0 : w130.cell? ⟨gb375, 0, none⟩ = some (.int .i64 t368) := cz_ BK375 0
               have hcz143_1 : w130.cell? ⟨gb375, 1, none⟩ = some (.int .i64 t369) := cz_ BK375 1
               have hcz143_2 : w130.cell? ⟨gb375, 2, none⟩ = some (.int .i64 t370) := cz_ BK375 2
               have hcz143_3 : w130.cell? ⟨gb375, 3, none⟩ = some (.slice Ao71 t371.length co71) := cz_ BK375 3
               have hfz143_0 := fz_ BK375 0
               have hfz143_1 := fz_ BK375 1
               have hfz143_2 := fz_ BK375 2
               have hfz143_3 := fz_ BK375 3
               try go_wp2_with (first | ((with_reducible refine gate_callee (f := 12) rfl ?_); refine ge_ 109 Try.func12 #[.agg #[.int .i64 t433, .int .i64 t434, .int .i64 t435, .slice Ao134 t436.length co134], .agg #[.int .i64 t368, .int .i64 t369, .int .i64 t370, .slice Ao71 t371.length co71]] ?_; (with_reducible refine (laws_eqMeasure.calls k t433 t434 t435 _ _ t436 t368 t369 t370 _ _ t371 true _ ?side1 ?side2 ?side3 ?side4 A47.out).mono ?_); (case side1 => refine (Kd.R_reads' (e := 63) (base := w.heap.size) (ok := fun k_ => (some k_ ≠ (v360 : Value).ownBlock ∧ (some k_ ≠ (v366 : Value).ownBlock ∧ (some k_ ≠ (.slice Ao71 t371.length co71 : Value).ownBlock ∧ (some k_ ≠ (.slice Ao81 t379.length co81 : Value).ownBlock ∧ (some k_ ≠ (.slice Ao91 t386.length co91 : Value).ownBlock ∧ (some k_ ≠ (.slice Ao101 t393.length co101 : Value).ownBlock ∧ (some k_ ≠ (.slice Ao106 t402.length co106 : Value).ownBlock ∧ (some k_ ≠ (.slice Ao110 t409.length co110 : Value).ownBlock ∧ (some k_ ≠ (v425 : Value).ownBlock ∧ some k_ ≠ (v431 : Value).ownBlock)))))))))) (n := t436.length) (c := co134) ?_).2.2; exact (ra_ (rs4_ HO438.out BK440.out))); (case side2 => exact (Kd.R_reads' HO438.out).2.1); (case side3 => refine (Kd.R_reads' (e := 63) (base := w.heap.size) (ok := fun k_ => (some k_ ≠ (v360 : Value).ownBlock ∧ (some k_ ≠ (v366 : Value).ownBlock ∧ (some k_ ≠ (.slice Ao81 t379.length co81 : Value).ownBlock ∧ (some k_ ≠ (.slice Ao91 t386.length co91 : Value).ownBlock ∧ (some k_ ≠ (.slice Ao101 t393.length co101 : Value).ownBlock ∧ (some k_ ≠ (.slice Ao106 t402.length co106 : Value).ownBlock ∧ (some k_ ≠ (.slice Ao110 t409.length co110 : Value).ownBlock ∧ (some k_ ≠ (v425 : Value).ownBlock ∧ (some k_ ≠ (v431 : Value).ownBlock ∧ some k_ ≠ (.slice Ao134 t436.length co134 : Value).ownBlock)))))))))) (n := t371.length) (c := co71) ?_).2.2; exact (ra_ (rs4_ HO373.out BK440.out))); (case side4 => exact (Kd.R_reads' HO373.out).2.1); rintro e w144 ⟨rfl, hb⟩; refine ⟨_, rfl, ?_⟩; replace HO361 := Aside0.mk (Kd.R_below (ra_ (rs4_ HO361.out BK440.out)) hb); replace HO367 := Aside0.mk (Kd.R_below (ra_ (rs4_ HO367.out BK440.out)) hb); replace HO373 := Aside0.mk (Kd.R_below (ra_ (rs4_ HO373.out BK440.out)) hb); replace HO381 := Aside0.mk (Kd.R_below (ra_ (rs4_ HO381.out BK440.out)) hb); replace HO388 := Aside0.mk (Kd.R_below (ra_ (rs4_ HO388.out BK440.out)) hb); replace HO395 := Aside0.mk (Kd.R_below (ra_ (rs4_ HO395.out BK440.out)) hb); replace HO404 := Aside0.mk (Kd.R_below (ra_ (rs4_ HO404.out BK440.out)) hb); replace HO411 := Aside0.mk (Kd.R_below (ra_ (rs4_ HO411.out BK440.out)) hb); replace HO426 := Aside0.mk (Kd.R_below (ra_ (rs4_ HO426.out BK440.out)) hb); replace HO432 := Aside0.mk (Kd.R_below (ra_ (rs4_ HO432.out BK440.out)) hb); replace HO438 := Aside0.mk (Kd.R_below (ra_ (rs4_ HO438.out BK440.out)) hb); replace BK352 := fb_ BK352 NB352_440 hb; replace BK353 := fb_ BK353 NB353_440 hb; replace BK375 := fb_ BK375 NB375_440 hb; replace BK382 := fb_ BK382 NB382_440 hb; replace BK389 := fb_ BK389 NB389_440 hb; replace BK397 := fb_ BK397 NB397_440 hb; replace BK440 := Aside0.mk (blk_below (g := gb440) (o := .cells #[.int .i64 t433, .int .i64 t434, .int .i64 t435, .slice Ao134 t436.length co134] 33 (0, 0)) (by (with_reducible repeat first | apply blk_drewN | apply blk_drew | apply blk_alloc); refine blk_put (cs := #[.int .i64 t433, .int .i64 t434, .int .i64 t435, .slice none 0 0]) ?_ 3 _ rfl; (with_reducible repeat first | apply blk_drewN | apply blk_drew | apply blk_alloc); refine blk_put (cs := #[.int .i64 t433, .int .i64 t434, .int .i64 0, .slice none 0 0]) ?_ 2 _ rfl; (with_reducible repeat first | apply blk_drewN | apply blk_drew | apply blk_alloc); refine blk_put (cs := #[.int .i64 t433, .int .i64 0, .int .i64 0, .slice none 0 0]) ?_ 1 _ rfl; (with_reducible repeat first | apply blk_drewN | apply blk_drew | apply blk_alloc); refine blk_put (cs := #[.int .i64 0, .int .i64 0, .int .i64 0, .slice none 0 0]) ?_ 0 _ rfl; (with_reducible repeat first | apply blk_drewN | apply blk_drew | apply blk_alloc); exact BK440.out) hb); replace HB := bt_ HB hb; (try clear hb); (try clear hb2); (try clear hk); (try clear hi); have hcz145_0 : w144.cell? ⟨gb397, 0, none⟩ = some (.int .i64 t390) := cz_ BK397 0; have hcz145_1 : w144.cell? ⟨gb397, 1, none⟩ = some (.int .i64 t391) := cz_ BK397 1; have hcz145_2 : w144.cell? ⟨gb397, 2, none⟩ = some (.int .i64 t392) := cz_ BK397 2; have hcz145_3 : w144.cell? ⟨gb397, 3, none⟩ = some (.slice Ao101 t393.length co101) := cz_ BK397 3; have hfz145_0 := fz_ BK397 0; have hfz145_1 := fz_ BK397 1; have hfz145_2 := fz_ BK397 2; have hfz145_3 := fz_ BK397 3) | ((with_reducible refine gate_callee (f := 16) rfl ?_); refine goesL_ (some 118) rfl rfl Try.func16 (by kernel_rfl) rfl #[.agg #[.int .i64 t390, .int .i64 t391, .int .i64 t392, .slice Ao101 t419.length co101], .int .i64 1] rfl (by (try simp only [List.map_toArray, List.map_cons, List.map_nil]); first | done | (rw [show t419.length = t393.length from (Kd.R_reads' HO395.out).1.symm] <;> rfl) | rfl | (simp only [List.length_drop, List.length_take]; rfl)) ?_; (with_reducible refine (laws_heldMeasure.calls k t390 t391 t392 _ _ t419 1 t442 _ ?side1 ?side2 A50.out).mono ?_); (case side1 => repeat (first | exact (Kd.R_reads' HO395.out).2.2 | (with_reducible refine Kd.C_alloc ?_ _) | (with_reducible refine Kd.C_drewN ?_ _) | (with_reducible refine Kd.C_drew ?_))); (case side2 => rw [show t419.length = t393.length from (Kd.R_reads' HO395.out).1.symm]; exact (Kd.R_reads' HO395.out).2.1); rintro e w146 ⟨rfl, hb⟩; refine ⟨_, rfl, ?_⟩; replace HO361 := Aside0.mk (Kd.R_below (ra_ HO361.out) hb); replace HO367 := Aside0.mk (Kd.R_below (ra_ HO367.out) hb); replace HO373 := Aside0.mk (Kd.R_below (ra_ HO373.out) hb); replace HO381 := Aside0.mk (Kd.R_below (ra_ HO381.out) hb); replace HO388 := Aside0.mk (Kd.R_below (ra_ HO388.out) hb); replace HO395 := Aside0.mk (Kd.R_below (ra_ HO395.out) hb); replace HO404 := Aside0.mk (Kd.R_below (ra_ HO404.out) hb); replace HO411 := Aside0.mk (Kd.R_below (ra_ HO411.out) hb); replace HO426 := Aside0.mk (Kd.R_below (ra_ HO426.out) hb); replace HO432 := Aside0.mk (Kd.R_below (ra_ HO432.out) hb); replace HO438 := Aside0.mk (Kd.R_below (ra_ HO438.out) hb); replace BK352 := bb_ BK352 hb; replace BK353 := bb_ BK353 hb; replace BK375 := bb_ BK375 hb; replace BK382 := bb_ BK382 hb; replace BK389 := bb_ BK389 hb; replace BK397 := bb_ BK397 hb; replace BK440 := bb_ BK440 hb; replace HB := bt_ HB hb; (try clear hb); (try clear hb2); (try clear hk); (try clear hi)))
               go_ret
               exact ⟨by first | rfl | (simp [errW_none, errW_some] <;> rfl) | (simp [*, errW_none, errW_some] <;> rfl), by repeat (first | (with_reducible first | exact HB.out | apply below_alloc | apply pw_below_drewN | apply below_drew1 | refine below_set ?_ GE352.out | refine below_set ?_ GE353.out | refine below_set ?_ GE375.out | refine below_set ?_ GE382.out | refine below_set ?_ GE389.out | refine below_set ?_ GE397.out | refine below_set ?_ GE440.out) | exact HB.out)⟩
              ·rw [if_neg c52] at H
               exact absurd H (by simp)
            ·rw [if_neg c49] at H
             exact absurd H (by simp)
           ·replace c48 := Bool.eq_false_iff.mpr c48
            subst c48
            have H1 : (none) = some r := by rw [if_neg (show ¬ (false = true) by decide)] at H; exact H
            clear H
            have H := H1
            clear H1
            exact absurd H (by simp)
          ·rw [if_neg c43] at H
           exact absurd H (by simp)
        ·replace c39 := Bool.eq_false_iff.mpr c39
         subst c39
         have H1 : (none) = some r := by rw [if_neg (show ¬ (false = true) by decide)] at H; exact H
         clear H
         have H := H1
         clear H1
         exact absurd H (by simp)
      ·replace c34 := Bool.eq_false_iff.mpr c34
       subst c34
       have H1 : (none) = some r := by rw [if_neg (show ¬ (false = true) by decide)] at H; exact H
       clear H
       have H := H1
       clear H1
       exact absurd H (by simp)
     ·replace c31 := Bool.eq_false_iff.mpr c31
      subst c31
      have H1 : (none) = some r := by rw [if_neg (show ¬ (false = true) by decide)] at H; exact H
      clear H
      have H := H1
      clear H1
      exact absurd H (by simp)
    ·rw [if_neg c28] at H
     exact absurd H (by simp)
   ·replace c27 := Bool.eq_false_iff.mpr c27
    subst c27
    have H1 : (none) = some r := by rw [if_neg (show ¬ (false = true) by decide)] at H; exact H
    clear H
    have H := H1
    clear H1
    exact absurd H (by simp)
def laws_FnExactAddMeasures.Pure : Prop := ∀ (a0 : Int) (a1_0 : Int) (a1_1 : Int) (a1_2 : Int) (l1_3 : List (S95)) (a2_0 : Int) (a2_1 : Int) (a2_2 : Int) (l2_3 : List (S95)), (Lit.int .i64 a0).wf = true → (Lit.int .i64 a1_0).wf = true → (Lit.int .i64 a1_1).wf = true → (Lit.int .i64 a1_2).wf = true → l1_3.length ≤ maxLen → (∀ z ∈ l1_3, wfS95 z) → (Lit.int .i64 a2_0).wf = true → (Lit.int .i64 a2_1).wf = true → (Lit.int .i64 a2_2).wf = true → l2_3.length ≤ maxLen → (∀ z ∈ l2_3, wfS95 z) → ∃ k, laws_FnExactAddMeasures.f k a0 a1_0 a1_1 a1_2 l1_3 a2_0 a2_1 a2_2 l2_3 = some true
end Go.Proofs.Ytoiailmmgfokjaa.QC
