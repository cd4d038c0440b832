import Derived.Test.YtbilincmcnnonaaQSx8
import Derived.Test.YtbilincmcnnonaaQSx27
namespace Go.Proofs.Ytbilincmcnnonaa.QS
set_option maxHeartbeats 8000000
set_option maxRecDepth 100000
open Go.RowKit Go.Proofs.YtbilincmcnnonaaW.PrintWords Go.Proofs.YtbilincmcnnonaaW.PrintLast Go.Proofs.YtbilincmcnnonaaW.PrintMore
attribute [local go_sem] isSome_setCell max2_int min2_int max_two min_two max_three min_three max_four min_four
set_option linter.unusedVariables false
set_option linter.unusedSimpArgs false

/-! ### spec_l04Inverse: function 79 -/
def spec_l04Inverse.f (k : Nat) (a0_0 : Int) (a0_1 : Int) (a0_2 : Int) (a0_3 : Int) : Option (Int × Int × Int × Int) := (spec_l04Reduce.f k a0_3 (wrap64 (-a0_1)) (wrap64 (-a0_2)) a0_0).bind fun bt211 => (some (bt211.1, bt211.2.1, bt211.2.2.1, bt211.2.2.2.1))
theorem spec_l04Inverse.calls (k : Nat) (a0_0 : Int) (a0_1 : Int) (a0_2 : Int) (a0_3 : Int) (r1 : Int) (r2 : Int) (r3 : Int) (r4 : Int) (w : World) (h : spec_l04Inverse.f k a0_0 a0_1 a0_2 a0_3 = some (r1, r2, r3, r4)) :
  Calls Try.prog 79 #[.agg #[.int .i64 a0_0, .int .i64 a0_1, .int .i64 a0_2, .int .i64 a0_3]] w fun e w' => e = .returned (.agg #[.int .i64 r1, .int .i64 r2, .int .i64 r3, .int .i64 r4]) ∧ Below w.heap.size w w' := by
 have hu26 := Try.underlying26
 have hu24 := Try.underlying24
 have HB := Aside0.mk (Below.refl w.heap.size w)
 have H : ((spec_l04Reduce.f k a0_3 (wrap64 (-a0_1)) (wrap64 (-a0_2)) a0_0).bind fun bt211 => (some (bt211.1, bt211.2.1, bt211.2.2.1, bt211.2.2.2.1))) = some (r1, r2, r3, r4) := h
 clear h
 replace H := ob_ H
 obtain ⟨⟨t211, t212, t213, t214, t215⟩, A20, H⟩ := H
 have A2 := Aside0.mk A20
 clear A20
 simp only [Option.some.injEq, Prod.mk.injEq] at H
 obtain ⟨rfl, rfl, rfl, rfl⟩ := H
 go_enter Try.func79, Try.ntmps79
 go_wp2_with (first | (refine bx_ 1 #[.int .i64 a0_0, .int .i64 a0_1, .int .i64 a0_2, .int .i64 a0_3] 26 ?_; intro gb209 hg w3 hbox hb; have BK209 := Aside0.mk (hbox); have GW209 := bs_ HB hg; have GE209 := bs_ HB hg; replace HB := bt_ HB hb; clear hb hbox hg) | (refine bx_ 2 #[.int .i64 0, .int .i64 0, .int .i64 0, .int .i64 0] 26 ?_; intro gb210 hg w4 hbox hb; have BK210 := Aside0.mk (hbox); have GW210 := bs_ HB hg; have GE210 := bs_ HB hg; have NB209_210 := bm_ BK209 hg; have NB210_209 := bn_ BK209 hg; replace BK209 := bb_ BK209 hb; replace HB := bt_ HB hb; clear hb hbox hg; have hnb5 := NB209_210.out; have hnc5 := NB210_209.out; obtain ⟨hcz6_0, hcz6_1, hcz6_2, hcz6_3, hfz6_0, hfz6_1, hfz6_2, hfz6_3⟩ := ch4_ BK209) | (refine ge_ 23 Try.func77 #[.agg #[.int .i64 a0_3, .int .i64 (wrap64 (-a0_1)), .int .i64 (wrap64 (-a0_2)), .int .i64 a0_0]] ?_; (with_reducible refine (spec_l04Reduce.calls k a0_3 (wrap64 (-a0_1)) (wrap64 (-a0_2)) a0_0 t211 t212 t213 t214 t215 _ A2.out).mono ?_); rintro e w7 ⟨rfl, hb⟩; refine ⟨_, rfl, ?_⟩; replace BK209 := bb_ BK209 hb; replace BK210 := bb_ BK210 hb; replace HB := bt_ HB hb; (try clear hb); (try clear hb2); (try clear hk); (try clear hi)) | (refine bx_ 3 #[.int .i64 0, .int .i64 0, .int .i64 0, .int .i64 0] 26 ?_; intro gb216 hg w8 hbox hb; have BK216 := Aside0.mk (hbox); have GW216 := bs_ HB hg; have GE216 := bs_ HB hg; have NB209_216 := bm_ BK209 hg; have NB216_209 := bn_ BK209 hg; have NB210_216 := bm_ BK210 hg; have NB216_210 := bn_ BK210 hg; replace BK209 := bb_ BK209 hb; replace BK210 := bb_ BK210 hb; replace HB := bt_ HB hb; clear hb hbox hg; have hnb9 := NB216_209.out; have hnc9 := NB209_216.out; have hnb10 := NB216_210.out; have hnc10 := NB210_216.out; obtain ⟨hcz11_0, hcz11_1, hcz11_2, hcz11_3, hfz11_0, hfz11_1, hfz11_2, hfz11_3⟩ := ch4_ BK216; obtain ⟨hcz12_0, hcz12_1, hcz12_2, hcz12_3, hfz12_0, hfz12_1, hfz12_2, hfz12_3⟩ := ch4_ BK210))
 refine bodyPost_ret (results_cell_row rfl _ _ gb210 26 #[.int .i64 t211, .int .i64 t212, .int .i64 t213, .int .i64 t214] (0, 0) _ rfl (bp_ BK210).out Try.underlying26 rfl (by kernel_rfl)) rfl ?_
 exact ⟨es_, (bw_ HB).out⟩
/-! ### spec_l09Letter: function 117 -/
def spec_l09Letter.f (k : Nat) (l0 : List (S26)) (a1 : Int) : Option (Int × Int × Int × Int) := if a1 > 0 then (if 0 ≤ (wrap64 (a1 - 1)) then (if (wrap64 (a1 - 1)) < (l0.length : Int) then (some ((rd_T26 l0 (wrap64 (a1 - 1))).f0.f0, (rd_T26 l0 (wrap64 (a1 - 1))).f0.f1, (rd_T26 l0 (wrap64 (a1 - 1))).f1.f0, (rd_T26 l0 (wrap64 (a1 - 1))).f1.f1)) else (none)) else (none)) else (if 0 ≤ (wrap64 ((wrap64 (-a1)) - 1)) then (if (wrap64 ((wrap64 (-a1)) - 1)) < (l0.length : Int) then ((spec_l04Inverse.f k ((rd_T26 l0 (wrap64 ((wrap64 (-a1)) - 1))).f0.f0) ((rd_T26 l0 (wrap64 ((wrap64 (-a1)) - 1))).f0.f1) ((rd_T26 l0 (wrap64 ((wrap64 (-a1)) - 1))).f1.f0) ((rd_T26 l0 (wrap64 ((wrap64 (-a1)) - 1))).f1.f1)).bind fun bt220 => (some (bt220.1, bt220.2.1, bt220.2.2.1, bt220.2.2.2))) else (none)) else (none))
theorem spec_l09Letter.calls (k : Nat) (A0 : Option Addr) (c0 : Nat) (l0 : List (S26)) (a1 : Int) (r1 : Int) (r2 : Int) (r3 : Int) (r4 : Int) (w : World) (hr0 : Kd.C k26 w A0 l0.length l0) (hc0 : l0.length ≤ c0) (h : spec_l09Letter.f k l0 a1 = some (r1, r2, r3, r4)) :
  Calls Try.prog 117 #[.slice A0 l0.length c0, .int .i64 a1] w fun e w' => e = .returned (.agg #[.int .i64 r1, .int .i64 r2, .int .i64 r3, .int .i64 r4]) ∧ Below w.heap.size w w' := by
 have hu26 := Try.underlying26
 have HR0 := Aside0.mk hr0
 have HC0 := Aside0.mk hc0
 clear hr0 hc0
 have HB := Aside0.mk (Below.refl w.heap.size w)
 have H : (if a1 > 0 then (if 0 ≤ (wrap64 (a1 - 1)) then (if (wrap64 (a1 - 1)) < (l0.length : Int) then (some ((rd_T26 l0 (wrap64 (a1 - 1))).f0.f0, (rd_T26 l0 (wrap64 (a1 - 1))).f0.f1, (rd_T26 l0 (wrap64 (a1 - 1))).f1.f0, (rd_T26 l0 (wrap64 (a1 - 1))).f1.f1)) else (none)) else (none)) else (if 0 ≤ (wrap64 ((wrap64 (-a1)) - 1)) then (if (wrap64 ((wrap64 (-a1)) - 1)) < (l0.length : Int) then ((spec_l04Inverse.f k ((rd_T26 l0 (wrap64 ((wrap64 (-a1)) - 1))).f0.f0) ((rd_T26 l0 (wrap64 ((wrap64 (-a1)) - 1))).f0.f1) ((rd_T26 l0 (wrap64 ((wrap64 (-a1)) - 1))).f1.f0) ((rd_T26 l0 (wrap64 ((wrap64 (-a1)) - 1))).f1.f1)).bind fun bt220 => (some (bt220.1, bt220.2.1, bt220.2.2.1, bt220.2.2.2))) else (none)) else (none))) = some (r1, r2, r3, r4) := h
 clear h
 by_cases c3 : a1 > 0
 ·rw [if_pos c3] at H
  have c3b0 : decide (0 < a1) = true := decide_eq_true c3
  clear c3
  obtain ⟨ji4, hji4⟩ : ∃ j_ : Int, (wrap64 (a1 - 1)) = j_ := ⟨_, rfl⟩
  replace H : (if 0 ≤ (ji4) then (if (ji4) < (l0.length : Int) then (some ((rd_T26 l0 (ji4)).f0.f0, (rd_T26 l0 (ji4)).f0.f1, (rd_T26 l0 (ji4)).f1.f0, (rd_T26 l0 (ji4)).f1.f1)) else (none)) else (none)) = some (r1, r2, r3, r4) := by first | (rw [hji4] at H; exact H) | (simp only [hji4] at H ⊢; exact H)
  have hji4w : (IntKind.i64.wrap (a1 - 1)) = ji4 := (i64_w _).trans hji4
  by_cases c5 : 0 ≤ (ji4)
  ·rw [if_pos c5] at H
   have c5b0 : decide (0 ≤ (ji4)) = true := decide_eq_true c5
   clear c5
   by_cases c6 : (ji4) < (l0.length : Int)
   ·rw [if_pos c6] at H
    have c6b0 : decide ((ji4) < (l0.length : Int)) = true := decide_eq_true c6
    clear c6
    simp only [Option.some.injEq, Prod.mk.injEq] at H
    obtain ⟨rfl, rfl, rfl, rfl⟩ := H
    go_enter Try.func117, Try.ntmps117
    go_wp2_with (first | (refine bx_ 4 #[.int .i64 0, .int .i64 0, .int .i64 0, .int .i64 0] 26 ?_; intro gb217 hg w7 hbox hb; have BK217 := Aside0.mk (hbox); have GW217 := bs_ HB hg; have GE217 := bs_ HB hg; replace HB := bt_ HB hb; clear hb hbox hg; have p218 : 0 ≤ ((ji4) : Int) := od_; have q218 : (ji4) < (l0.length : Int) := od_; obtain ⟨ad218, e218, hx218_0, hx218_1, hx218_2, hx218_3⟩ := at_T26 HR0.out (ji4) p218 q218; cases e218; replace hx218_0 := clTr HB.out hx218_0; replace hx218_1 := clTr HB.out hx218_1; replace hx218_2 := clTr HB.out hx218_2; replace hx218_3 := clTr HB.out hx218_3; replace p218 := eq_true p218; replace q218 := eq_true q218; obtain ⟨hcz8_0, hcz8_1, hcz8_2, hcz8_3, hfz8_0, hfz8_1, hfz8_2, hfz8_3⟩ := ch4_ BK217))
    refine bodyPost_ret (results_cell_row rfl _ _ gb217 26 #[.int .i64 ((rd_T26 l0 (ji4)).f0.f0), .int .i64 ((rd_T26 l0 (ji4)).f0.f1), .int .i64 ((rd_T26 l0 (ji4)).f1.f0), .int .i64 ((rd_T26 l0 (ji4)).f1.f1)] (0, 0) _ rfl (bp_ BK217).out Try.underlying26 rfl (by kernel_rfl)) rfl ?_
    exact ⟨by first | rfl | (simp [errW_none, errW_some] <;> rfl) | (simp only [← hji4]; first | rfl | (simp [errW_none, errW_some] <;> rfl)) | (simp [*, errW_none, errW_some] <;> rfl), (bw_ HB).out⟩
   ·rw [if_neg c6] at H
    exact absurd H (by simp)
  ·rw [if_neg c5] at H
   exact absurd H (by simp)
 ·rw [if_neg c3] at H
  have c3b0 : decide (0 < a1) = false := decide_eq_false c3
  clear c3
  obtain ⟨ji9, hji9⟩ : ∃ j_ : Int, (wrap64 ((wrap64 (-a1)) - 1)) = j_ := ⟨_, rfl⟩
  replace H : (if 0 ≤ (ji9) then (if (ji9) < (l0.length : Int) then ((spec_l04Inverse.f k ((rd_T26 l0 (ji9)).f0.f0) ((rd_T26 l0 (ji9)).f0.f1) ((rd_T26 l0 (ji9)).f1.f0) ((rd_T26 l0 (ji9)).f1.f1)).bind fun bt220 => (some (bt220.1, bt220.2.1, bt220.2.2.1, bt220.2.2.2))) else (none)) else (none)) = some (r1, r2, r3, r4) := by first | (rw [hji9] at H; exact H) | (simp only [hji9] at H ⊢; exact H)
  have hji9w : (IntKind.i64.wrap ((wrap64 (-a1)) - 1)) = ji9 := (i64_w _).trans hji9
  by_cases c10 : 0 ≤ (ji9)
  ·rw [if_pos c10] at H
   have c10b0 : decide (0 ≤ (ji9)) = true := decide_eq_true c10
   clear c10
   by_cases c11 : (ji9) < (l0.length : Int)
   ·rw [if_pos c11] at H
    have c11b0 : decide ((ji9) < (l0.length : Int)) = true := decide_eq_true c11
    clear c11
    replace H := ob_ H
    obtain ⟨⟨t220, t221, t222, t223⟩, A120, H⟩ := H
    have A12 := Aside0.mk A120
    clear A120
    simp only [Option.some.injEq, Prod.mk.injEq] at H
    obtain ⟨rfl, rfl, rfl, rfl⟩ := H
    go_enter Try.func117, Try.ntmps117
    go_wp2_with (first | (refine bx_ 4 #[.int .i64 0, .int .i64 0, .int .i64 0, .int .i64 0] 26 ?_; intro gb217 hg w13 hbox hb; have BK217 := Aside0.mk (hbox); have GW217 := bs_ HB hg; have GE217 := bs_ HB hg; replace HB := bt_ HB hb; clear hb hbox hg; have p219 : 0 ≤ ((ji9) : Int) := od_; have q219 : (ji9) < (l0.length : Int) := od_; obtain ⟨ad219, e219, hx219_0, hx219_1, hx219_2, hx219_3⟩ := at_T26 HR0.out (ji9) p219 q219; cases e219; replace hx219_0 := clTr HB.out hx219_0; replace hx219_1 := clTr HB.out hx219_1; replace hx219_2 := clTr HB.out hx219_2; replace hx219_3 := clTr HB.out hx219_3; replace p219 := eq_true p219; replace q219 := eq_true q219) | (refine ge_ 18 Try.func79 #[.agg #[.int .i64 ((rd_T26 l0 (ji9)).f0.f0), .int .i64 ((rd_T26 l0 (ji9)).f0.f1), .int .i64 ((rd_T26 l0 (ji9)).f1.f0), .int .i64 ((rd_T26 l0 (ji9)).f1.f1)]] ?_ (hargs := by (try simp only [List.map_toArray, List.map_cons, List.map_nil]); first | done | (simp only [hji9]; rfl) | rfl | (simp only [List.length_drop, List.length_take]; rfl)); (with_reducible refine (spec_l04Inverse.calls k ((rd_T26 l0 (ji9)).f0.f0) ((rd_T26 l0 (ji9)).f0.f1) ((rd_T26 l0 (ji9)).f1.f0) ((rd_T26 l0 (ji9)).f1.f1) t220 t221 t222 t223 _ A12.out).mono ?_); rintro e w14 ⟨rfl, hb⟩; refine ⟨_, rfl, ?_⟩; replace BK217 := bb_ BK217 hb; replace HB := bt_ HB hb; (try clear hb); (try clear hb2); (try clear hk); (try clear hi); obtain ⟨hcz15_0, hcz15_1, hcz15_2, hcz15_3, hfz15_0, hfz15_1, hfz15_2, hfz15_3⟩ := ch4_ BK217))
    refine bodyPost_ret (results_cell_row rfl _ _ gb217 26 #[.int .i64 t220, .int .i64 t221, .int .i64 t222, .int .i64 t223] (0, 0) _ rfl (bp_ BK217).out Try.underlying26 rfl (by kernel_rfl)) rfl ?_
    exact ⟨by first | rfl | (simp [errW_none, errW_some] <;> rfl) | (simp only [← hji9]; first | rfl | (simp [errW_none, errW_some] <;> rfl)) | (simp [*, errW_none, errW_some] <;> rfl), (bw_ HB).out⟩
   ·rw [if_neg c11] at H
    exact absurd H (by simp)
  ·rw [if_neg c10] at H
   exact absurd H (by simp)
end Go.Proofs.Ytbilincmcnnonaa.QS
