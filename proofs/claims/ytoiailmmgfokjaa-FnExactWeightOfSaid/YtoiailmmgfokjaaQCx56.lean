-- Written by a program of this session out of Lean's own print of the loaded program; Lean checks it.
import Derived.Test.YtoiailmmgfokjaaQCx6
import Derived.Test.YtoiailmmgfokjaaQCx9
import Derived.Test.YtoiailmmgfokjaaQCx12
import Derived.Test.YtoiailmmgfokjaaQCx49
import Derived.Test.YtoiailmmgfokjaaQCx55
namespace Go.Proofs.Ytoiailmmgfokjaa.QC
open Go.RowKit Go.Proofs.YtoiailmmgfokjaaW.PrintWords Go.Proofs.YtoiailmmgfokjaaW.PrintLast Go.Proofs.YtoiailmmgfokjaaW.PrintMore
attribute [local go_sem] isSome_setCell max2_int min2_int max_two min_two max_three min_three max_four min_four   -- for this text's walks alone
set_option linter.unusedVariables false
set_option linter.unusedSimpArgs false

/-! ### laws_FnExactWeightOf: function 3 -/
def laws_FnExactWeightOf.f (k : Nat) (a0 : Int) (a1_0 : Int) (a1_1 : Int) (a1_2 : Int) (l1_3 : List (S95)) (a2_0 : Int) (a2_1 : Int) (a2_2 : Int) : Option (Bool) := (laws_szMeasure.f a1_0 a1_1 a1_2 l1_3 1048576).bind fun t487 => (if t487 < 0 then (some true) else ((laws_toMeasure.f k a1_0 a1_1 a1_2 l1_3).bind fun bt488 => ((laws_toBall.f a2_0 a2_1 a2_2).bind fun bt494 => ((spec_WeightOf.f k a0 bt488.1 bt488.2.1 bt488.2.2.1 bt488.2.2.2 bt494.1 bt494.2.1 bt494.2.2).bind fun bt497 => ((laws_toMeasure.f k a1_0 a1_1 a1_2 l1_3).bind fun bt499 => ((laws_toBall.f a2_0 a2_1 a2_2).bind fun bt506 => ((impl_WeightOf.f k a0 bt499.1 bt499.2.1 bt499.2.2.1 bt499.2.2.2 bt506.1 bt506.2.1 bt506.2.2).bind fun bt509 => (if bt509.1 = bt497.1 then (if bt509.2 = bt497.2 then ((laws_toMeasure.f k a1_0 a1_1 a1_2 l1_3).bind fun bt511 => ((laws_eqMeasure.f k bt499.1 bt499.2.1 bt499.2.2.1 bt499.2.2.2 bt511.1 bt511.2.1 bt511.2.2.1 bt511.2.2.2).bind fun t517 => (if t517 = true then (some true) else (none)))) else (none)) else (none)))))))))
def laws_FnExactWeightOf.T5 : Bool × List (List Nat × List Nat) := (true, [([], []), ([], []), ([1], [1]), ([], []), ([3, 2], [3]), ([0, 2, 4, 4], [0, 2, 4]), ([5], [5]), ([6], [6]), ([6], [6]), ([7, 5, 0, 1, 2, 3, 4, 5, 6, 7], [7]), ([8, 9, 0, 1, 2, 3, 4, 5, 6, 7, 8, 9], [8])])
def laws_FnExactWeightOf.B5 : List Nat := [0, 0, 2, 0, 14, 31, 63, 127, 127, 255, 1023]
theorem laws_FnExactWeightOf.tab5 : rtab .any (opsOf Try.f3 5) = laws_FnExactWeightOf.T5 := by kernel_rfl
theorem laws_FnExactWeightOf.bits5 : waitsOk laws_FnExactWeightOf.T5.2 laws_FnExactWeightOf.B5 = true := by kernel_rfl
def laws_FnExactWeightOf.T7 : Bool × List (List Nat × List Nat) := (true, [([], []), ([], []), ([], []), ([2], [2]), ([0, 1, 3, 3], [0, 1, 3]), ([4], [4]), ([5], [5]), ([5], [5]), ([6, 4, 0, 1, 2, 3, 4, 5, 6], [6]), ([7, 8, 0, 1, 2, 3, 4, 5, 6, 7, 8], [7])])
def laws_FnExactWeightOf.B7 : List Nat := [0, 0, 0, 4, 15, 31, 63, 63, 127, 511]
theorem laws_FnExactWeightOf.tab7 : rtab .any (opsOf Try.f3 7) = laws_FnExactWeightOf.T7 := by kernel_rfl
theorem laws_FnExactWeightOf.bits7 : waitsOk laws_FnExactWeightOf.T7.2 laws_FnExactWeightOf.B7 = true := by kernel_rfl
set_option maxHeartbeats 8000000 in
set_option maxRecDepth 100000 in
theorem laws_FnExactWeightOf.calls (k : Nat) (a0 : Int) (a1_0 : Int) (a1_1 : Int) (a1_2 : Int) (A1_3 : Option Addr) (c1_3 : Nat) (l1_3 : List (S95)) (a2_0 : Int) (a2_1 : Int) (a2_2 : Int) (r : Bool) (w : World) (hr1_3 : Kd.C k95 w A1_3 l1_3.length l1_3) (hc1_3 : l1_3.length ≤ c1_3) (h : laws_FnExactWeightOf.f k a0 a1_0 a1_1 a1_2 l1_3 a2_0 a2_1 a2_2 = some r) :
  Calls Try.prog 3 #[.int .i64 a0, .agg #[.int .i64 a1_0, .int .i64 a1_1, .int .i64 a1_2, .slice A1_3 l1_3.length c1_3], .agg #[.int .i64 a2_0, .int .i64 a2_1, .int .i64 a2_2]] w fun e w' => e = .returned (.bool r) ∧ Below w.heap.size w w' := by
 have hu26 := Try.underlying26
 have hu23 := Try.underlying23
 have hu33 := Try.underlying33
 have HR1_3 := Aside0.mk hr1_3
 have HC1_3 := Aside0.mk hc1_3
 clear hr1_3 hc1_3
 have HB := Aside0.mk (Below.refl w.heap.size w)
 have H : ((laws_szMeasure.f a1_0 a1_1 a1_2 l1_3 1048576).bind fun t487 => (if t487 < 0 then (some true) else ((laws_toMeasure.f k a1_0 a1_1 a1_2 l1_3).bind fun bt488 => ((laws_toBall.f a2_0 a2_1 a2_2).bind fun bt494 => ((spec_WeightOf.f k a0 bt488.1 bt488.2.1 bt488.2.2.1 bt488.2.2.2 bt494.1 bt494.2.1 bt494.2.2).bind fun bt497 => ((laws_toMeasure.f k a1_0 a1_1 a1_2 l1_3).bind fun bt499 => ((laws_toBall.f a2_0 a2_1 a2_2).bind fun bt506 => ((impl_WeightOf.f k a0 bt499.1 bt499.2.1 bt499.2.2.1 bt499.2.2.2 bt506.1 bt506.2.1 bt506.2.2).bind fun bt509 => (if bt509.1 = bt497.1 then (if bt509.2 = bt497.2 then ((laws_toMeasure.f k a1_0 a1_1 a1_2 l1_3).bind fun bt511 => ((laws_eqMeasure.f k bt499.1 bt499.2.1 bt499.2.2.1 bt499.2.2.2 bt511.1 bt511.2.1 bt511.2.2.1 bt511.2.2.2).bind fun t517 => (if t517 = true then (some true) else (none)))) else (none)) else (none)))))))))) = some r := h
 clear h
 replace H := Option.bind_eq_some_iff.mp H
 obtain ⟨t487, A40, H⟩ := H
 have A4 := Aside0.mk A40
 clear A40
 by_cases c5 : t487 < 0
 ·rw [if_pos c5] at H
  have c5b0 : decide (t487 < 0) = true := decide_eq_true c5
  clear c5
  obtain rfl := Option.some.inj H
  go_enter Try.func3, Try.ntmps3
  go_wp2_with (first | ((with_reducible refine gate_dst (N := 4) rfl ?_); refine bx_ 4 #[.int .i64 a1_0, .int .i64 a1_1, .int .i64 a1_2, .slice A1_3 l1_3.length c1_3] 26 ?_; intro gb485 hg w6 hbox hb; have BK485 := Aside0.mk (hbox); have GW485 := bs_ HB hg; have GE485 := bs_ HB hg; replace HB := bt_ HB hb; clear hb hbox hg) | ((with_reducible refine gate_dst (N := 5) rfl ?_); refine bx_ 5 #[.int .i64 a2_0, .int .i64 a2_1, .int .i64 a2_2] 23 ?_; intro gb486 hg w7 hbox hb; have BK486 := Aside0.mk (hbox); have GW486 := bs_ HB hg; have GE486 := bs_ HB hg; have NB485_486 := bm_ BK485 hg; have NB486_485 := bn_ BK485 hg; replace BK485 := bb_ BK485 hb; replace HB := bt_ HB hb; clear hb hbox hg; have hnb8 := NB485_486.out; have hnc8 := NB486_485.out; have hcz9_0 : w7.cell? ⟨gb485, 0, none⟩ = some (.int .i64 a1_0) := cz_ BK485 0; have hcz9_1 : w7.cell? ⟨gb485, 1, none⟩ = some (.int .i64 a1_1) := cz_ BK485 1; have hcz9_2 : w7.cell? ⟨gb485, 2, none⟩ = some (.int .i64 a1_2) := cz_ BK485 2; have hcz9_3 : w7.cell? ⟨gb485, 3, none⟩ = some (.slice A1_3 l1_3.length c1_3) := cz_ BK485 3; have hfz9_0 := fz_ BK485 0; have hfz9_1 := fz_ BK485 1; have hfz9_2 := fz_ BK485 2; have hfz9_3 := fz_ BK485 3) | ((with_reducible refine gate_callee (f := 7) rfl ?_); refine ge_ 15 Try.func7 #[.agg #[.int .i64 a1_0, .int .i64 a1_1, .int .i64 a1_2, .slice A1_3 l1_3.length c1_3], .int .i64 1048576] ?_; (with_reducible refine (laws_szMeasure.calls a1_0 a1_1 a1_2 _ _ l1_3 1048576 t487 _ ?side1 ?side2 A4.out).mono ?_); (case side1 => repeat (first | exact (Kd.C_below HR1_3.out HB.out) | (with_reducible refine Kd.C_alloc ?_ _) | (with_reducible refine Kd.C_drewN ?_ _) | (with_reducible refine Kd.C_drew ?_))); (case side2 => exact HC1_3.out); rintro e w10 ⟨rfl, hb⟩; refine ⟨_, rfl, ?_⟩; replace BK485 := bb_ BK485 hb; replace BK486 := bb_ BK486 hb; replace HB := bt_ HB hb; (try clear hb); (try clear hb2); (try clear hk); (try clear hi)))
  go_ret
  exact ⟨by first | rfl | (simp [errW_none, errW_some] <;> rfl) | (simp [*, errW_none, errW_some] <;> rfl), by repeat (first | (with_reducible first | exact HB.out | apply below_alloc | apply pw_below_drewN | apply below_drew1 | refine below_set ?_ GE485.out | refine below_set ?_ GE486.out) | exact HB.out)⟩
 ·rw [if_neg c5] at H
  have c5b0 : decide (t487 < 0) = false := decide_eq_false c5
  clear c5
  replace H := Option.bind_eq_some_iff.mp H
  obtain ⟨⟨t488, t489, t490, t491⟩, A110, H⟩ := H
  have A11 := Aside0.mk A110
  clear A110
  replace H := Option.bind_eq_some_iff.mp H
  obtain ⟨⟨t494, t495, t496⟩, A120, H⟩ := H
  have A12 := Aside0.mk A120
  clear A120
  replace H := Option.bind_eq_some_iff.mp H
  obtain ⟨⟨t497, t498⟩, A130, H⟩ := H
  have A13 := Aside0.mk A130
  clear A130
  replace H := Option.bind_eq_some_iff.mp H
  obtain ⟨⟨t499, t500, t501, t502⟩, A140, H⟩ := H
  have A14 := Aside0.mk A140
  clear A140
  replace H := Option.bind_eq_some_iff.mp H
  obtain ⟨⟨t506, t507, t508⟩, A150, H⟩ := H
  have A15 := Aside0.mk A150
  clear A150
  replace H := Option.bind_eq_some_iff.mp H
  obtain ⟨⟨t509, t510⟩, A160, H⟩ := H
  have A16 := Aside0.mk A160
  clear A160
  by_cases c17 : t509 = t497
  ·rw [if_pos c17] at H
   have c17b0 : (t509 == t497) = true := beq_iff_eq.mpr c17
   have c17b1 : (t509 != t497) = false := bne_eq_false_iff_eq.mpr c17
   clear c17
   by_cases c18 : t510 = t498
   ·rw [if_pos c18] at H
    have c18b0 : (t510 == t498) = true := beq_iff_eq.mpr c18
    have c18b1 : (t510 != t498) = false := bne_eq_false_iff_eq.mpr c18
    clear c18
    replace H := Option.bind_eq_some_iff.mp H
    obtain ⟨⟨t511, t512, t513, t514⟩, A190, H⟩ := H
    have A19 := Aside0.mk A190
    clear A190
    replace H := Option.bind_eq_some_iff.mp H
    obtain ⟨t517, A200, H⟩ := H
    have A20 := Aside0.mk A200
    clear A200
    by_cases c21 : t517 = true
    ·subst c21
     have H1 : (some true) = some r := by rw [if_pos rfl] at H; exact H
     clear H
     have H := H1
     clear H1
     obtain rfl := Option.some.inj H
     go_enter Try.func3, Try.ntmps3
     try go_wp2_with (first | ((with_reducible refine gate_dst (N := 4) rfl ?_); refine bx_ 4 #[.int .i64 a1_0, .int .i64 a1_1, .int .i64 a1_2, .slice A1_3 l1_3.length c1_3] 26 ?_; intro gb485 hg w22 hbox hb; have BK485 := Aside0.mk (hbox); have GW485 := bs_ HB hg; have GE485 := bs_ HB hg; replace HB := bt_ HB hb; clear hb hbox hg) | ((with_reducible refine gate_dst (N := 5) rfl ?_); refine bx_ 5 #[.int .i64 a2_0, .int .i64 a2_1, .int .i64 a2_2] 23 ?_; intro gb486 hg w23 hbox hb; have BK486 := Aside0.mk (hbox); have GW486 := bs_ HB hg; have GE486 := bs_ HB hg; have NB485_486 := bm_ BK485 hg; have NB486_485 := bn_ BK485 hg; replace BK485 := bb_ BK485 hb; replace HB := bt_ HB hb; clear hb hbox hg; have hnb24 := NB485_486.out; have hnc24 := NB486_485.out; have hcz25_0 : w23.cell? ⟨gb485, 0, none⟩ = some (.int .i64 a1_0) := cz_ BK485 0; have hcz25_1 : w23.cell? ⟨gb485, 1, none⟩ = some (.int .i64 a1_1) := cz_ BK485 1; have hcz25_2 : w23.cell? ⟨gb485, 2, none⟩ = some (.int .i64 a1_2) := cz_ BK485 2; have hcz25_3 : w23.cell? ⟨gb485, 3, none⟩ = some (.slice A1_3 l1_3.length c1_3) := cz_ BK485 3; have hfz25_0 := fz_ BK485 0; have hfz25_1 := fz_ BK485 1; have hfz25_2 := fz_ BK485 2; have hfz25_3 := fz_ BK485 3) | ((with_reducible refine gate_callee (f := 7) rfl ?_); refine ge_ 15 Try.func7 #[.agg #[.int .i64 a1_0, .int .i64 a1_1, .int .i64 a1_2, .slice A1_3 l1_3.length c1_3], .int .i64 1048576] ?_; (with_reducible refine (laws_szMeasure.calls a1_0 a1_1 a1_2 _ _ l1_3 1048576 t487 _ ?side1 ?side2 A4.out).mono ?_); (case side1 => repeat (first | exact (Kd.C_below HR1_3.out HB.out) | (with_reducible refine Kd.C_alloc ?_ _) | (with_reducible refine Kd.C_drewN ?_ _) | (with_reducible refine Kd.C_drew ?_))); (case side2 => exact HC1_3.out); rintro e w26 ⟨rfl, hb⟩; refine ⟨_, rfl, ?_⟩; replace BK485 := bb_ BK485 hb; replace BK486 := bb_ BK486 hb; replace HB := bt_ HB hb; (try clear hb); (try clear hb2); (try clear hk); (try clear hi)))
     replace BK485 := Aside0.mk (blk_drew BK485.out)
     replace BK486 := Aside0.mk (blk_drew BK486.out)
     replace HB := Aside0.mk (below_drew1 HB.out)
     refine start_ (n := 11) (S := fun w' => w'.cell? ⟨gb485, 0, none⟩ = some (.int .i64 a1_0) ∧ w'.cell? ⟨gb485, 1, none⟩ = some (.int .i64 a1_1) ∧ w'.cell? ⟨gb485, 2, none⟩ = some (.int .i64 a1_2) ∧ w'.cell? ⟨gb485, 3, none⟩ = some (.slice A1_3 l1_3.length c1_3) ∧ w'.cell? ⟨gb486, 0, none⟩ = some (.int .i64 a2_0) ∧ w'.cell? ⟨gb486, 1, none⟩ = some (.int .i64 a2_1) ∧ w'.cell? ⟨gb486, 2, none⟩ = some (.int .i64 a2_2)) (ds := []) (bv_ 11 0) (by kernel_rfl) rfl rfl ⟨(blk_cell BK485.out 0).trans rfl, (blk_cell BK485.out 1).trans rfl, (blk_cell BK485.out 2).trans rfl, (blk_cell BK485.out 3).trans rfl, (blk_cell BK486.out 0).trans rfl, (blk_cell BK486.out 1).trans rfl, (blk_cell BK486.out 2).trans rfl⟩ (fun hHeld => ?_); refine with_tabW laws_FnExactWeightOf.tab5 laws_FnExactWeightOf.bits5 (fun HT_ HW_ => ?_)
     generalize w26.drew = w27 at BK485 BK486 HB hHeld ⊢
     refine pu_ HT_ 0 (some 19) (bv_ 11 1) ?_
     refine ta_ HT_ HW_ 1 (some 20) (bv_ 11 3) hHeld ?_ (hy := by rintro w' ⟨s0, s1, s2, s3, s4, s5, s6⟩; go_simp; with_reducible rfl)
     refine ta_ HT_ HW_ 3 (some 22) (bv_ 11 11) hHeld ?_ (hy := by rintro w' ⟨s0, s1, s2, s3, s4, s5, s6⟩; go_simp; with_reducible rfl)
     refine one_ (i := 2) (N := some 21) (bv_ 11 15) rfl rfl (one_of HT_.out (by kernel_rfl)) (by decide) (fun K hK => ?_)
     refine goes_ Try.func9 (by kernel_rfl) rfl #[.agg #[.int .i64 a1_0, .int .i64 a1_1, .int .i64 a1_2, .slice A1_3 l1_3.length c1_3]] (by rfl) rfl rfl (by (try simp only [List.map_toArray, List.map_cons, List.map_nil]); first | done | rfl | (simp only [List.length_drop, List.length_take]; rfl)) ?_
     with_reducible refine (laws_toMeasure.calls k a1_0 a1_1 a1_2 _ _ l1_3 t488 t489 t490 t491 _ ?side1 ?side2 A11.out).mono ?_
     (case side1 => repeat (first | exact (Kd.C_below HR1_3.out HB.out) | (with_reducible refine Kd.C_alloc ?_ _) | (with_reducible refine Kd.C_drewN ?_ _) | (with_reducible refine Kd.C_drew ?_)))
     (case side2 => exact HC1_3.out)
     rintro e w28 ⟨v492, rfl, ho0, hb⟩
     refine ⟨_, rfl, ?_⟩
     have HO493 := Aside0.mk (Kd.R_lower ho0 (below_size (bw_ HB).out))
     replace BK485 := bb_ BK485 hb
     replace BK486 := bb_ BK486 hb
     replace HB := bt_ HB hb
     (try clear hb)
     (try clear hb2)
     (try clear hk)
     (try clear hi)
     (try clear ho0)
     refine hK.out _ _ ⟨(blk_cell BK485.out 0).trans rfl, (blk_cell BK485.out 1).trans rfl, (blk_cell BK485.out 2).trans rfl, (blk_cell BK485.out 3).trans rfl, (blk_cell BK486.out 0).trans rfl, (blk_cell BK486.out 1).trans rfl, (blk_cell BK486.out 2).trans rfl⟩ (fun hHeld => ?_)
     clear hK K
     refine norm_ (a' := ?_) ?_ ?_
     rotate_left
     ·show Act.put _ (some 21) _ = _
      simp only [Act.put, lstS, lstZ, lstC, i64_w, i32_w]
      rfl
     refine one_ (i := 4) (N := some 23) (bv_ 11 31) rfl rfl (one_of HT_.out (by kernel_rfl)) (by decide) (fun K hK => ?_)
     refine goes_ Try.func10 (by kernel_rfl) rfl #[.agg #[.int .i64 a2_0, .int .i64 a2_1, .int .i64 a2_2]] (by rfl) rfl rfl (by (try simp only [List.map_toArray, List.map_cons, List.map_nil]); first | done | rfl | (simp only [List.length_drop, List.length_take]; rfl)) ?_
     with_reducible refine (laws_toBall.calls a2_0 a2_1 a2_2 t494 t495 t496 _ A12.out).mono ?_
     rintro e w29 ⟨rfl, hb⟩
     refine ⟨_, rfl, ?_⟩
     replace HO493 := Aside0.mk (Kd.R_below (ra_ HO493.out) hb)
     replace BK485 := bb_ BK485 hb
     replace BK486 := bb_ BK486 hb
     replace HB := bt_ HB hb
     (try clear hb)
     (try clear hb2)
     (try clear hk)
     (try clear hi)
     obtain ⟨Ao30, co30, eo30⟩ := Kd.R_slice HO493.out
     (first | subst eo30 | (injection eo30 with f1_ f2_ f3_; have f4_ := f1_.symm; have f5_ := f3_.symm; clear f1_ f2_ f3_; subst f4_; subst f5_))
     refine hK.out _ _ ⟨(blk_cell BK485.out 0).trans rfl, (blk_cell BK485.out 1).trans rfl, (blk_cell BK485.out 2).trans rfl, (blk_cell BK485.out 3).trans rfl, (blk_cell BK486.out 0).trans rfl, (blk_cell BK486.out 1).trans rfl, (blk_cell BK486.out 2).trans rfl⟩ (fun hHeld => ?_)
     clear hK K
     refine norm_ (a' := ?_) ?_ ?_
     rotate_left
     ·show Act.put _ (some 23) _ = _
      simp only [Act.put, lstS, lstZ, lstC, i64_w, i32_w]
      rfl
     refine one_ (i := 5) (N := some 24) (bv_ 11 63) rfl rfl (one_of HT_.out (by kernel_rfl)) (by decide) (fun K hK => ?_)
     refine goes_ Try.func8 (by kernel_rfl) rfl #[.int .i64 a0, .agg #[.int .i64 t488, .int .i64 t489, .int .i64 t490, .slice Ao30 t491.length co30], .agg #[.int .i64 t494, .int .i64 t495, .int .i64 t496]] (by rfl) rfl rfl (by (try simp only [List.map_toArray, List.map_cons, List.map_nil]); first | done | rfl | (simp only [List.length_drop, List.length_take]; rfl)) ?_
     with_reducible refine (spec_WeightOf.calls k a0 t488 t489 t490 _ _ t491 t494 t495 t496 t497 t498 _ ?side1 ?side2 A13.out).mono ?_
     (case side1 => repeat (first | exact (Kd.R_reads' HO493.out).2.2 | (with_reducible refine Kd.C_alloc ?_ _) | (with_reducible refine Kd.C_drewN ?_ _) | (with_reducible refine Kd.C_drew ?_)))
     (case side2 => exact (Kd.R_reads' HO493.out).2.1)
     rintro e w31 ⟨rfl, hb⟩
     refine ⟨_, rfl, ?_⟩
     replace HO493 := Aside0.mk (Kd.R_below (ra_ HO493.out) hb)
     replace BK485 := bb_ BK485 hb
     replace BK486 := bb_ BK486 hb
     replace HB := bt_ HB hb
     (try clear hb)
     (try clear hb2)
     (try clear hk)
     (try clear hi)
     refine hK.out _ _ ⟨(blk_cell BK485.out 0).trans rfl, (blk_cell BK485.out 1).trans rfl, (blk_cell BK485.out 2).trans rfl, (blk_cell BK485.out 3).trans rfl, (blk_cell BK486.out 0).trans rfl, (blk_cell BK486.out 1).trans rfl, (blk_cell BK486.out 2).trans rfl⟩ (fun hHeld => ?_)
     clear hK K
     refine norm_ (a' := ?_) ?_ ?_
     rotate_left
     ·show Act.put _ (some 24) _ = _
      simp only [Act.put, lstS, lstZ, lstC, i64_w, i32_w]
      rfl
     refine pu_ HT_ 6 (some 18) (bv_ 11 127) ?_
     refine pu_ HT_ 7 (some 25) (bv_ 11 255) ?_
     refine pu_ HT_ 8 (some 26) (bv_ 11 511) ?_
     refine pu_ HT_ 9 (some 8) (bv_ 11 1023) ?_
     refine pu_ HT_ 10 (some 9) (bv_ 11 2047) ?_
     refine done_ (done_of HT_.out (by kernel_rfl)) ?_
     have hcz32_0 : w31.cell? ⟨gb485, 0, none⟩ = some (.int .i64 a1_0) := cz_ BK485 0
     have hcz32_1 : w31.cell? ⟨gb485, 1, none⟩ = some (.int .i64 a1_1) := cz_ BK485 1
     have hcz32_2 : w31.cell? ⟨gb485, 2, none⟩ = some (.int .i64 a1_2) := cz_ BK485 2
     have hcz32_3 : w31.cell? ⟨gb485, 3, none⟩ = some (.slice A1_3 l1_3.length c1_3) := cz_ BK485 3
     have hfz32_0 := fz_ BK485 0
     have hfz32_1 := fz_ BK485 1
     have hfz32_2 := fz_ BK485 2
     have hfz32_3 := fz_ BK485 3
     try go_wp2_with (first | ((with_reducible refine gate_callee (f := 9) rfl ?_); refine ge_ 28 Try.func9 #[.agg #[.int .i64 a1_0, .int .i64 a1_1, .int .i64 a1_2, .slice A1_3 l1_3.length c1_3]] ?_; (with_reducible refine (laws_toMeasure.calls k a1_0 a1_1 a1_2 _ _ l1_3 t499 t500 t501 t502 _ ?side1 ?side2 A14.out).mono ?_); (case side1 => repeat (first | exact (Kd.C_below HR1_3.out HB.out) | (with_reducible refine Kd.C_alloc ?_ _) | (with_reducible refine Kd.C_drewN ?_ _) | (with_reducible refine Kd.C_drew ?_))); (case side2 => exact HC1_3.out); rintro e w33 ⟨v503, rfl, ho0, hb⟩; refine ⟨_, rfl, ?_⟩; have HO504 := Aside0.mk (Kd.R_lower (Kd.R_new' ho0 (Kd.R_lt (ra_ HO493.out))) (below_size (bw_ HB).out)); replace HO493 := Aside0.mk (Kd.R_elder' (ra_ HO493.out) (Kd.R_base ho0) hb); replace BK485 := bb_ BK485 hb; replace BK486 := bb_ BK486 hb; replace HB := bt_ HB hb; (try clear hb); (try clear hb2); (try clear hk); (try clear hi); (try clear ho0)) | ((with_reducible refine gate_dst (N := 10) rfl ?_); refine bx_ 10 #[.int .i64 0, .int .i64 0, .int .i64 0, .slice none 0 0] 33 ?_; intro gb505 hg w34 hbox hb; have BK505 := Aside0.mk (hbox); have GW505 := bs_ HB hg; have GE505 := bs_ HB hg; have NB485_505 := bm_ BK485 hg; have NB505_485 := bn_ BK485 hg; have NB486_505 := bm_ BK486 hg; have NB505_486 := bn_ BK486 hg; replace HO493 := Aside0.mk (Kd.R_below (ra_ HO493.out) hb); replace HO504 := Aside0.mk (Kd.R_below (ra_ HO504.out) hb); replace BK485 := bb_ BK485 hb; replace BK486 := bb_ BK486 hb; replace HB := bt_ HB hb; clear hb hbox hg; have hnb35 := NB505_485.out; have hnc35 := NB485_505.out; have hnb36 := NB505_486.out; have hnc36 := NB486_505.out; have hcz37_0 : w34.cell? ⟨gb505, 0, none⟩ = some (.int .i64 0) := cz_ BK505 0; have hcz37_1 : w34.cell? ⟨gb505, 1, none⟩ = some (.int .i64 0) := cz_ BK505 1; have hcz37_2 : w34.cell? ⟨gb505, 2, none⟩ = some (.int .i64 0) := cz_ BK505 2; have hcz37_3 : w34.cell? ⟨gb505, 3, none⟩ = some (.slice none 0 0) := cz_ BK505 3; have hfz37_0 := fz_ BK505 0; have hfz37_1 := fz_ BK505 1; have hfz37_2 := fz_ BK505 2; have hfz37_3 := fz_ BK505 3; obtain ⟨Ao38, co38, eo38⟩ := Kd.R_slice HO504.out; subst eo38))
     have n0_ : Aside0 (Kd.R k63 63 ((((w34.setCell ⟨gb505, 0, none⟩ (.int .i64 t499)).setCell ⟨gb505, 1, none⟩ (.int .i64 t500)).setCell ⟨gb505, 2, none⟩ (.int .i64 t501)).setCell ⟨gb505, 3, none⟩ (.slice Ao38 t502.length co38)) w.heap.size (fun k_ => some k_ ≠ (.slice Ao38 t502.length co38 : Value).ownBlock) (.slice Ao30 t491.length co30) t491) := ⟨by (with_reducible repeat (first | apply Kd.R_alloc | apply Kd.R_drewN | apply Kd.R_drew)); exact Kd.R_mono (Kd.R_far (p := ⟨gb505, 3, none⟩) (Kd.R_far (p := ⟨gb505, 2, none⟩) (Kd.R_far (p := ⟨gb505, 1, none⟩) (Kd.R_far (p := ⟨gb505, 0, none⟩) (Kd.R_types HO493.out BK505.out (by decide)) (fun _ hk => hk.2) (.int .i64 t499)) (fun _ hk => hk.2) (.int .i64 t500)) (fun _ hk => hk.2) (.int .i64 t501)) (fun _ hk => hk.2) (.slice Ao38 t502.length co38)) (fun _ hk => hk.1.2)⟩
     have n1_ : Aside0 (Kd.R k63 63 ((((w34.setCell ⟨gb505, 0, none⟩ (.int .i64 t499)).setCell ⟨gb505, 1, none⟩ (.int .i64 t500)).setCell ⟨gb505, 2, none⟩ (.int .i64 t501)).setCell ⟨gb505, 3, none⟩ (.slice Ao38 t502.length co38)) w.heap.size (fun k_ => some k_ ≠ (.slice Ao30 t491.length co30 : Value).ownBlock) (.slice Ao38 t502.length co38) t502) := ⟨by (with_reducible repeat (first | apply Kd.R_alloc | apply Kd.R_drewN | apply Kd.R_drew)); exact Kd.R_mono (Kd.R_far (p := ⟨gb505, 3, none⟩) (Kd.R_far (p := ⟨gb505, 2, none⟩) (Kd.R_far (p := ⟨gb505, 1, none⟩) (Kd.R_far (p := ⟨gb505, 0, none⟩) (Kd.R_types HO504.out BK505.out (by decide)) (fun _ hk => hk.2) (.int .i64 t499)) (fun _ hk => hk.2) (.int .i64 t500)) (fun _ hk => hk.2) (.int .i64 t501)) (fun _ hk => hk.2) (.slice Ao38 t502.length co38)) (fun _ hk => hk.1.2)⟩
     have n2_ : Aside0 (((((w34.setCell ⟨gb505, 0, none⟩ (.int .i64 t499)).setCell ⟨gb505, 1, none⟩ (.int .i64 t500)).setCell ⟨gb505, 2, none⟩ (.int .i64 t501)).setCell ⟨gb505, 3, none⟩ (.slice Ao38 t502.length co38)).heap[gb485]? = some (.cells #[.int .i64 a1_0, .int .i64 a1_1, .int .i64 a1_2, .slice A1_3 l1_3.length c1_3] 26 (0, 0))) := fl_ BK485 NB485_505
     have n3_ : Aside0 (((((w34.setCell ⟨gb505, 0, none⟩ (.int .i64 t499)).setCell ⟨gb505, 1, none⟩ (.int .i64 t500)).setCell ⟨gb505, 2, none⟩ (.int .i64 t501)).setCell ⟨gb505, 3, none⟩ (.slice Ao38 t502.length co38)).heap[gb486]? = some (.cells #[.int .i64 a2_0, .int .i64 a2_1, .int .i64 a2_2] 23 (0, 0))) := fl_ BK486 NB486_505
     have n4_ : Aside0 (((((w34.setCell ⟨gb505, 0, none⟩ (.int .i64 t499)).setCell ⟨gb505, 1, none⟩ (.int .i64 t500)).setCell ⟨gb505, 2, none⟩ (.int .i64 t501)).setCell ⟨gb505, 3, none⟩ (.slice Ao38 t502.length co38)).heap[gb505]? = some (.cells #[.int .i64 t499, .int .i64 t500, .int .i64 t501, .slice Ao38 t502.length co38] 33 (0, 0))) := ⟨by (with_reducible repeat first | apply blk_drewN | apply blk_drew | apply blk_alloc); refine blk_put (cs := #[.int .i64 t499, .int .i64 t500, .int .i64 t501, .slice none 0 0]) ?_ 3 _ rfl; (with_reducible repeat first | apply blk_drewN | apply blk_drew | apply blk_alloc); refine blk_put (cs := #[.int .i64 t499, .int .i64 t500, .int .i64 0, .slice none 0 0]) ?_ 2 _ rfl; (with_reducible repeat first | apply blk_drewN | apply blk_drew | apply blk_alloc); refine blk_put (cs := #[.int .i64 t499, .int .i64 0, .int .i64 0, .slice none 0 0]) ?_ 1 _ rfl; (with_reducible repeat first | apply blk_drewN | apply blk_drew | apply blk_alloc); refine blk_put (cs := #[.int .i64 0, .int .i64 0, .int .i64 0, .slice none 0 0]) ?_ 0 _ rfl; (with_reducible repeat first | apply blk_drewN | apply blk_drew | apply blk_alloc); exact BK505.out⟩
     have n5_ : Aside0 (Below w.heap.size w ((((w34.setCell ⟨gb505, 0, none⟩ (.int .i64 t499)).setCell ⟨gb505, 1, none⟩ (.int .i64 t500)).setCell ⟨gb505, 2, none⟩ (.int .i64 t501)).setCell ⟨gb505, 3, none⟩ (.slice Ao38 t502.length co38))) := bw_ HB
     (try clear HO493)
     (try clear HO504)
     (try clear BK485)
     (try clear BK486)
     (try clear BK505)
     (try clear HB)
     generalize ((((w34.setCell ⟨gb505, 0, none⟩ (.int .i64 t499)).setCell ⟨gb505, 1, none⟩ (.int .i64 t500)).setCell ⟨gb505, 2, none⟩ (.int .i64 t501)).setCell ⟨gb505, 3, none⟩ (.slice Ao38 t502.length co38)) = w39 at n0_ n1_ n2_ n3_ n4_ n5_ ⊢
     have HO493 := n0_
     have HO504 := n1_
     have BK485 := n2_
     have BK486 := n3_
     have BK505 := n4_
     have HB := n5_
     clear n0_ n1_ n2_ n3_ n4_ n5_
     replace HO493 := Aside0.mk (Kd.R_drew HO493.out)
     replace HO504 := Aside0.mk (Kd.R_drew HO504.out)
     replace BK485 := Aside0.mk (blk_drew BK485.out)
     replace BK486 := Aside0.mk (blk_drew BK486.out)
     replace BK505 := Aside0.mk (blk_drew BK505.out)
     replace HB := Aside0.mk (below_drew1 HB.out)
     refine start_ (n := 10) (S := fun w' => w'.cell? ⟨gb505, 0, none⟩ = some (.int .i64 t499) ∧ w'.cell? ⟨gb505, 1, none⟩ = some (.int .i64 t500) ∧ w'.cell? ⟨gb505, 2, none⟩ = some (.int .i64 t501) ∧ w'.cell? ⟨gb505, 3, none⟩ = some (.slice Ao38 t502.length co38) ∧ w'.cell? ⟨gb486, 0, none⟩ = some (.int .i64 a2_0) ∧ w'.cell? ⟨gb486, 1, none⟩ = some (.int .i64 a2_1) ∧ w'.cell? ⟨gb486, 2, none⟩ = some (.int .i64 a2_2)) (ds := []) (bv_ 10 0) (by kernel_rfl) rfl rfl ⟨(blk_cell BK505.out 0).trans rfl, (blk_cell BK505.out 1).trans rfl, (blk_cell BK505.out 2).trans rfl, (blk_cell BK505.out 3).trans rfl, (blk_cell BK486.out 0).trans rfl, (blk_cell BK486.out 1).trans rfl, (blk_cell BK486.out 2).trans rfl⟩ (fun hHeld => ?_); refine with_tabW laws_FnExactWeightOf.tab7 laws_FnExactWeightOf.bits7 (fun HT_ HW_ => ?_)
     generalize w39.drew = w40 at HO493 HO504 BK485 BK486 BK505 HB hHeld ⊢
     refine pu_ HT_ 0 (some 30) (bv_ 10 1) ?_
     refine ta_ HT_ HW_ 1 (some 31) (bv_ 10 3) hHeld ?_ (hy := by rintro w' ⟨s0, s1, s2, s3, s4, s5, s6⟩; go_simp; with_reducible rfl)
     refine ta_ HT_ HW_ 2 (some 32) (bv_ 10 7) hHeld ?_ (hy := by rintro w' ⟨s0, s1, s2, s3, s4, s5, s6⟩; go_simp; with_reducible rfl)
     refine one_ (i := 3) (N := some 33) (bv_ 10 15) rfl rfl (one_of HT_.out (by kernel_rfl)) (by decide) (fun K hK => ?_)
     refine goes_ Try.func10 (by kernel_rfl) rfl #[.agg #[.int .i64 a2_0, .int .i64 a2_1, .int .i64 a2_2]] (by rfl) rfl rfl (by (try simp only [List.map_toArray, List.map_cons, List.map_nil]); first | done | rfl | (simp only [List.length_drop, List.length_take]; rfl)) ?_
     with_reducible refine (laws_toBall.calls a2_0 a2_1 a2_2 t506 t507 t508 _ A15.out).mono ?_
     rintro e w41 ⟨rfl, hb⟩
     refine ⟨_, rfl, ?_⟩
     replace HO493 := Aside0.mk (Kd.R_below (ra_ HO493.out) hb)
     replace HO504 := Aside0.mk (Kd.R_below (ra_ HO504.out) hb)
     replace BK485 := bb_ BK485 hb
     replace BK486 := bb_ BK486 hb
     replace BK505 := bb_ BK505 hb
     replace HB := bt_ HB hb
     (try clear hb)
     (try clear hb2)
     (try clear hk)
     (try clear hi)
     refine hK.out _ _ ⟨(blk_cell BK505.out 0).trans rfl, (blk_cell BK505.out 1).trans rfl, (blk_cell BK505.out 2).trans rfl, (blk_cell BK505.out 3).trans rfl, (blk_cell BK486.out 0).trans rfl, (blk_cell BK486.out 1).trans rfl, (blk_cell BK486.out 2).trans rfl⟩ (fun hHeld => ?_)
     clear hK K
     refine norm_ (a' := ?_) ?_ ?_
     rotate_left
     ·show Act.put _ (some 33) _ = _
      simp only [Act.put, lstS, lstZ, lstC, i64_w, i32_w]
      rfl
     refine one_ (i := 4) (N := some 34) (bv_ 10 31) rfl rfl (one_of HT_.out (by kernel_rfl)) (by decide) (fun K hK => ?_)
     refine goes_ Try.func11 (by kernel_rfl) rfl #[.int .i64 a0, .agg #[.int .i64 t499, .int .i64 t500, .int .i64 t501, .slice Ao38 t502.length co38], .agg #[.int .i64 t506, .int .i64 t507, .int .i64 t508]] (by rfl) rfl rfl (by (try simp only [List.map_toArray, List.map_cons, List.map_nil]); first | done | rfl | (simp only [List.length_drop, List.length_take]; rfl)) ?_
     with_reducible refine (impl_WeightOf.calls k a0 t499 t500 t501 _ _ t502 t506 t507 t508 t509 t510 _ ?side1 ?side2 A16.out).mono ?_
     (case side1 => repeat (first | exact (Kd.R_reads' HO504.out).2.2 | (with_reducible refine Kd.C_alloc ?_ _) | (with_reducible refine Kd.C_drewN ?_ _) | (with_reducible refine Kd.C_drew ?_)))
     (case side2 => exact (Kd.R_reads' HO504.out).2.1)
     rintro e w42 ⟨rfl, hb⟩
     refine ⟨_, rfl, ?_⟩
     replace HO493 := Aside0.mk (Kd.R_below (ra_ HO493.out) hb)
     replace HO504 := Aside0.mk (Kd.R_below (ra_ HO504.out) hb)
     replace BK485 := bb_ BK485 hb
     replace BK486 := bb_ BK486 hb
     replace BK505 := bb_ BK505 hb
     replace HB := bt_ HB hb
     (try clear hb)
     (try clear hb2)
     (try clear hk)
     (try clear hi)
     refine hK.out _ _ ⟨(blk_cell BK505.out 0).trans rfl, (blk_cell BK505.out 1).trans rfl, (blk_cell BK505.out 2).trans rfl, (blk_cell BK505.out 3).trans rfl, (blk_cell BK486.out 0).trans rfl, (blk_cell BK486.out 1).trans rfl, (blk_cell BK486.out 2).trans rfl⟩ (fun hHeld => ?_)
     clear hK K
     refine norm_ (a' := ?_) ?_ ?_
     rotate_left
     ·show Act.put _ (some 34) _ = _
      simp only [Act.put, lstS, lstZ, lstC, i64_w, i32_w]
      rfl
     refine pu_ HT_ 5 (some 29) (bv_ 10 63) ?_
     refine pu_ HT_ 6 (some 35) (bv_ 10 127) ?_
     refine pu_ HT_ 7 (some 36) (bv_ 10 255) ?_
     refine pu_ HT_ 8 (some 11) (bv_ 10 511) ?_
     refine pu_ HT_ 9 (some 12) (bv_ 10 1023) ?_
     refine done_ (done_of HT_.out (by kernel_rfl)) ?_
     try go_wp2
     replace HO493 := Aside0.mk (Kd.R_drew HO493.out)
     replace HO504 := Aside0.mk (Kd.R_drew HO504.out)
     replace BK485 := Aside0.mk (blk_drew BK485.out)
     replace BK486 := Aside0.mk (blk_drew BK486.out)
     replace BK505 := Aside0.mk (blk_drew BK505.out)
     replace HB := Aside0.mk (below_drew1 HB.out)
     refine start_ (n := 5) (S := fun w' => w'.cell? ⟨gb505, 0, none⟩ = some (.int .i64 t499) ∧ w'.cell? ⟨gb505, 1, none⟩ = some (.int .i64 t500) ∧ w'.cell? ⟨gb505, 2, none⟩ = some (.int .i64 t501) ∧ w'.cell? ⟨gb505, 3, none⟩ = some (.slice Ao38 t502.length co38) ∧ w'.cell? ⟨gb485, 0, none⟩ = some (.int .i64 a1_0) ∧ w'.cell? ⟨gb485, 1, none⟩ = some (.int .i64 a1_1) ∧ w'.cell? ⟨gb485, 2, none⟩ = some (.int .i64 a1_2) ∧ w'.cell? ⟨gb485, 3, none⟩ = some (.slice A1_3 l1_3.length c1_3)) (ds := []) (bv_ 5 0) (by kernel_rfl) rfl rfl ⟨(blk_cell BK505.out 0).trans rfl, (blk_cell BK505.out 1).trans rfl, (blk_cell BK505.out 2).trans rfl, (blk_cell BK505.out 3).trans rfl, (blk_cell BK485.out 0).trans rfl, (blk_cell BK485.out 1).trans rfl, (blk_cell BK485.out 2).trans rfl, (blk_cell BK485.out 3).trans rfl⟩ (fun hHeld => ?_)
     generalize w42.drew = w43 at HO493 HO504 BK485 BK486 BK505 HB hHeld ⊢
     refine take_ (i := 0) (N := some 45) (v := ?_) (a' := ?_) (bv_ 5 1) rfl rfl (by kernel_rfl) (fun _ _ _ h => h) (Or.inl ⟨by rfl, ?_⟩) hHeld ?_ ?_
     rotate_left
     ·rintro w' ⟨s0, s1, s2, s3, s4, s5, s6, s7⟩
      go_simp
      with_reducible rfl
     rotate_left
     ·simp only [Act.put, lstS, lstZ, lstC, i64_w, i32_w]
      rfl
     refine take_ (i := 1) (N := some 46) (v := ?_) (a' := ?_) (bv_ 5 3) rfl rfl (by kernel_rfl) (fun _ _ _ h => h) (Or.inl ⟨by rfl, ?_⟩) hHeld ?_ ?_
     rotate_left
     ·rintro w' ⟨s0, s1, s2, s3, s4, s5, s6, s7⟩
      go_simp
      with_reducible rfl
     rotate_left
     ·simp only [Act.put, lstS, lstZ, lstC, i64_w, i32_w]
      rfl
     refine one_ (i := 2) (N := some 47) (bv_ 5 7) rfl rfl (by kernel_rfl) (by decide) (fun K hK => ?_)
     refine goes_ Try.func9 (by kernel_rfl) rfl #[.agg #[.int .i64 a1_0, .int .i64 a1_1, .int .i64 a1_2, .slice A1_3 l1_3.length c1_3]] (by rfl) rfl rfl (by (try simp only [List.map_toArray, List.map_cons, List.map_nil]); first | done | rfl | (simp only [List.length_drop, List.length_take]; rfl)) ?_
     with_reducible refine (laws_toMeasure.calls k a1_0 a1_1 a1_2 _ _ l1_3 t511 t512 t513 t514 _ ?side1 ?side2 A19.out).mono ?_
     (case side1 => repeat (first | exact (Kd.C_below HR1_3.out HB.out) | (with_reducible refine Kd.C_alloc ?_ _) | (with_reducible refine Kd.C_drewN ?_ _) | (with_reducible refine Kd.C_drew ?_)))
     (case side2 => exact HC1_3.out)
     rintro e w44 ⟨v515, rfl, ho0, hb⟩
     refine ⟨_, rfl, ?_⟩
     have HO516 := Aside0.mk (Kd.R_lower (Kd.R_new' (Kd.R_new' ho0 (Kd.R_lt (ra_ HO493.out))) (Kd.R_lt (ra_ HO504.out))) (below_size (bw_ HB).out))
     replace HO493 := Aside0.mk (Kd.R_elder' (ra_ HO493.out) (Kd.R_base ho0) hb)
     replace HO504 := Aside0.mk (Kd.R_elder' (ra_ HO504.out) (Kd.R_base ho0) hb)
     replace BK485 := bb_ BK485 hb
     replace BK486 := bb_ BK486 hb
     replace BK505 := bb_ BK505 hb
     replace HB := bt_ HB hb
     (try clear hb)
     (try clear hb2)
     (try clear hk)
     (try clear hi)
     (try clear ho0)
     obtain ⟨Ao45, co45, eo45⟩ := Kd.R_slice HO516.out
     (first | subst eo45 | (injection eo45 with f1_ f2_ f3_; have f4_ := f1_.symm; have f5_ := f3_.symm; clear f1_ f2_ f3_; subst f4_; subst f5_))
     refine hK.out _ _ ⟨(blk_cell BK505.out 0).trans rfl, (blk_cell BK505.out 1).trans rfl, (blk_cell BK505.out 2).trans rfl, (blk_cell BK505.out 3).trans rfl, (blk_cell BK485.out 0).trans rfl, (blk_cell BK485.out 1).trans rfl, (blk_cell BK485.out 2).trans rfl, (blk_cell BK485.out 3).trans rfl⟩ (fun hHeld => ?_)
     clear hK K
     refine norm_ (a' := ?_) ?_ ?_
     rotate_left
     ·show Act.put _ (some 47) _ = _
      simp only [Act.put, lstS, lstZ, lstC, i64_w, i32_w]
      rfl
     refine one_ (i := 3) (N := some 48) (bv_ 5 15) rfl rfl (by kernel_rfl) (by decide) (fun K hK => ?_)
     refine goes_ Try.func12 (by kernel_rfl) rfl #[.agg #[.int .i64 t499, .int .i64 t500, .int .i64 t501, .slice Ao38 t502.length co38], .agg #[.int .i64 t511, .int .i64 t512, .int .i64 t513, .slice Ao45 t514.length co45]] (by rfl) rfl rfl (by (try simp only [List.map_toArray, List.map_cons, List.map_nil]); first | done | rfl | (simp only [List.length_drop, List.length_take]; rfl)) ?_
     with_reducible refine (laws_eqMeasure.calls k t499 t500 t501 _ _ t502 t511 t512 t513 _ _ t514 true _ ?side1 ?side2 ?side3 ?side4 A20.out).mono ?_
     (case side1 => repeat (first | exact (Kd.R_reads' HO504.out).2.2 | (with_reducible refine Kd.C_alloc ?_ _) | (with_reducible refine Kd.C_drewN ?_ _) | (with_reducible refine Kd.C_drew ?_)))
     (case side2 => exact (Kd.R_reads' HO504.out).2.1)
     (case side3 => repeat (first | exact (Kd.R_reads' HO516.out).2.2 | (with_reducible refine Kd.C_alloc ?_ _) | (with_reducible refine Kd.C_drewN ?_ _) | (with_reducible refine Kd.C_drew ?_)))
     (case side4 => exact (Kd.R_reads' HO516.out).2.1)
     rintro e w46 ⟨rfl, hb⟩
     refine ⟨_, rfl, ?_⟩
     replace HO493 := Aside0.mk (Kd.R_below (ra_ HO493.out) hb)
     replace HO504 := Aside0.mk (Kd.R_below (ra_ HO504.out) hb)
     replace HO516 := Aside0.mk (Kd.R_below (ra_ HO516.out) hb)
     replace BK485 := bb_ BK485 hb
     replace BK486 := bb_ BK486 hb
     replace BK505 := bb_ BK505 hb
     replace HB := bt_ HB hb
     (try clear hb)
     (try clear hb2)
     (try clear hk)
     (try clear hi)
     refine hK.out _ _ ⟨(blk_cell BK505.out 0).trans rfl, (blk_cell BK505.out 1).trans rfl, (blk_cell BK505.out 2).trans rfl, (blk_cell BK505.out 3).trans rfl, (blk_cell BK485.out 0).trans rfl, (blk_cell BK485.out 1).trans rfl, (blk_cell BK485.out 2).trans rfl, (blk_cell BK485.out 3).trans rfl⟩ (fun hHeld => ?_)
     clear hK K
     refine norm_ (a' := ?_) ?_ ?_
     rotate_left
     ·show Act.put _ (some 48) _ = _
      simp only [Act.put, lstS, lstZ, lstC, i64_w, i32_w]
      rfl
     refine pure_ (i := 4) (N := some 49) (v := ?_) (a' := ?_) (bv_ 5 31) rfl rfl (by kernel_rfl) (fun _ _ _ h => h) (Or.inl ⟨by rfl, ?_⟩) ?_ ?_
     rotate_left
     ·intro w'
      go_simp
      with_reducible rfl
     rotate_left
     ·simp only [Act.put, lstS, lstZ, lstC, i64_w, i32_w]
      rfl
     refine done_ (by kernel_rfl) ?_
     try go_wp2
     go_ret
     exact ⟨by first | rfl | (simp [errW_none, errW_some] <;> rfl) | (simp [*, errW_none, errW_some] <;> rfl), by repeat (first | (with_reducible first | exact HB.out | apply below_alloc | apply pw_below_drewN | apply below_drew1 | refine below_set ?_ GE485.out | refine below_set ?_ GE486.out | refine below_set ?_ GE505.out) | exact HB.out)⟩
    ·replace c21 := Bool.eq_false_iff.mpr c21
     subst c21
     have H1 : (none) = some r := by rw [if_neg (show ¬ (false = true) by decide)] at H; exact H
     clear H
     have H := H1
     clear H1
     exact absurd H (by simp)
   ·rw [if_neg c18] at H
    exact absurd H (by simp)
  ·rw [if_neg c17] at H
   exact absurd H (by simp)
def laws_FnExactWeightOf.Pure : Prop := ∀ (a0 : Int) (a1_0 : Int) (a1_1 : Int) (a1_2 : Int) (l1_3 : List (S95)) (a2_0 : Int) (a2_1 : Int) (a2_2 : Int), (Lit.int .i64 a0).wf = true → (Lit.int .i64 a1_0).wf = true → (Lit.int .i64 a1_1).wf = true → (Lit.int .i64 a1_2).wf = true → l1_3.length ≤ maxLen → (∀ z ∈ l1_3, wfS95 z) → (Lit.int .i64 a2_0).wf = true → (Lit.int .i64 a2_1).wf = true → (Lit.int .i64 a2_2).wf = true → ∃ k, laws_FnExactWeightOf.f k a0 a1_0 a1_1 a1_2 l1_3 a2_0 a2_1 a2_2 = some true
end Go.Proofs.Ytoiailmmgfokjaa.QC
