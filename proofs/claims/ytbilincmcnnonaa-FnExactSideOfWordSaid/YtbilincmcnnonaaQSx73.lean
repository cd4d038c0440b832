import Derived.Test.YtbilincmcnnonaaQSx8
import Derived.Test.YtbilincmcnnonaaQSx71
namespace Go.Proofs.Ytbilincmcnnonaa.QS
set_option maxHeartbeats 8000000
set_option maxRecDepth 100000
open Go.RowKit Go.Proofs.YtbilincmcnnonaaW.PrintWords Go.Proofs.YtbilincmcnnonaaW.PrintLast Go.Proofs.YtbilincmcnnonaaW.PrintMore
attribute [local go_sem] isSome_setCell max2_int min2_int max_two min_two max_three min_three max_four min_four
set_option linter.unusedVariables false
set_option linter.unusedSimpArgs false

/-! ### impl_inverted: function 78 -/
def impl_inverted.f (k : Nat) (a0_0 : Int) (a0_1 : Int) (a0_2 : Int) (a0_3 : Int) : Option (Int × Int × Int × Int) := (impl_reduce.f k a0_3 (wrap64 (-a0_1)) (wrap64 (-a0_2)) a0_0).bind fun bt431 => (some (bt431.1, bt431.2.1, bt431.2.2.1, bt431.2.2.2))
theorem impl_inverted.calls (k : Nat) (a0_0 : Int) (a0_1 : Int) (a0_2 : Int) (a0_3 : Int) (r1 : Int) (r2 : Int) (r3 : Int) (r4 : Int) (w : World) (h : impl_inverted.f k a0_0 a0_1 a0_2 a0_3 = some (r1, r2, r3, r4)) :
  Calls Try.prog 78 #[.agg #[.int .i64 a0_0, .int .i64 a0_1, .int .i64 a0_2, .int .i64 a0_3]] w fun e w' => e = .returned (.agg #[.int .i64 r1, .int .i64 r2, .int .i64 r3, .int .i64 r4]) ∧ Below w.heap.size w w' := by
 have hu26 := Try.underlying26
 have hu24 := Try.underlying24
 have HB := Aside0.mk (Below.refl w.heap.size w)
 have H : ((impl_reduce.f k a0_3 (wrap64 (-a0_1)) (wrap64 (-a0_2)) a0_0).bind fun bt431 => (some (bt431.1, bt431.2.1, bt431.2.2.1, bt431.2.2.2))) = some (r1, r2, r3, r4) := h
 clear h
 replace H := ob_ H
 obtain ⟨⟨t431, t432, t433, t434⟩, A20, H⟩ := H
 have A2 := Aside0.mk A20
 clear A20
 simp only [Option.some.injEq, Prod.mk.injEq] at H
 obtain ⟨rfl, rfl, rfl, rfl⟩ := H
 go_enter Try.func78, Try.ntmps78
 go_wp2_with (first | (refine bx_ 1 #[.int .i64 a0_0, .int .i64 a0_1, .int .i64 a0_2, .int .i64 a0_3] 26 ?_; intro gb429 hg w3 hbox hb; have BK429 := Aside0.mk (hbox); have GW429 := bs_ HB hg; have GE429 := bs_ HB hg; replace HB := bt_ HB hb; clear hb hbox hg) | (refine bx_ 2 #[.int .i64 0, .int .i64 0, .int .i64 0, .int .i64 0] 26 ?_; intro gb430 hg w4 hbox hb; have BK430 := Aside0.mk (hbox); have GW430 := bs_ HB hg; have GE430 := bs_ HB hg; have NB429_430 := bm_ BK429 hg; have NB430_429 := bn_ BK429 hg; replace BK429 := bb_ BK429 hb; replace HB := bt_ HB hb; clear hb hbox hg; have hnb5 := NB429_430.out; have hnc5 := NB430_429.out; obtain ⟨hcz6_0, hcz6_1, hcz6_2, hcz6_3, hfz6_0, hfz6_1, hfz6_2, hfz6_3⟩ := ch4_ BK429) | (refine ge_ 20 Try.func76 #[.agg #[.int .i64 a0_3, .int .i64 (wrap64 (-a0_1)), .int .i64 (wrap64 (-a0_2)), .int .i64 a0_0]] ?_; (with_reducible refine (impl_reduce.calls k a0_3 (wrap64 (-a0_1)) (wrap64 (-a0_2)) a0_0 t431 t432 t433 t434 _ A2.out).mono ?_); rintro e w7 ⟨rfl, hb⟩; refine ⟨_, rfl, ?_⟩; replace BK429 := bb_ BK429 hb; replace BK430 := bb_ BK430 hb; replace HB := bt_ HB hb; (try clear hb); (try clear hb2); (try clear hk); (try clear hi); obtain ⟨hcz8_0, hcz8_1, hcz8_2, hcz8_3, hfz8_0, hfz8_1, hfz8_2, hfz8_3⟩ := ch4_ BK430))
 refine bodyPost_ret (results_cell_row rfl _ _ gb430 26 #[.int .i64 t431, .int .i64 t432, .int .i64 t433, .int .i64 t434] (0, 0) _ rfl (bp_ BK430).out Try.underlying26 rfl (by kernel_rfl)) rfl ?_
 exact ⟨es_, (bw_ HB).out⟩
/-! ### impl_letterMatrix: function 125 -/
def impl_letterMatrix.f (k : Nat) (l0 : List (S26)) (a1 : Int) : Option (Int × Int × Int × Int) := if a1 < 0 then (if 0 ≤ (wrap64 ((wrap64 (-a1)) - 1)) then (if (wrap64 ((wrap64 (-a1)) - 1)) < (l0.length : Int) then ((impl_inverted.f k ((rd_T26 l0 (wrap64 ((wrap64 (-a1)) - 1))).f0.f0) ((rd_T26 l0 (wrap64 ((wrap64 (-a1)) - 1))).f0.f1) ((rd_T26 l0 (wrap64 ((wrap64 (-a1)) - 1))).f1.f0) ((rd_T26 l0 (wrap64 ((wrap64 (-a1)) - 1))).f1.f1)).bind fun bt437 => (some (bt437.1, bt437.2.1, bt437.2.2.1, bt437.2.2.2))) else (none)) else (none)) else (if 0 ≤ (wrap64 (a1 - 1)) then (if (wrap64 (a1 - 1)) < (l0.length : Int) then ((impl_reduce.f k ((rd_T26 l0 (wrap64 (a1 - 1))).f0.f0) ((rd_T26 l0 (wrap64 (a1 - 1))).f0.f1) ((rd_T26 l0 (wrap64 (a1 - 1))).f1.f0) ((rd_T26 l0 (wrap64 (a1 - 1))).f1.f1)).bind fun bt442 => (some (bt442.1, bt442.2.1, bt442.2.2.1, bt442.2.2.2))) else (none)) else (none))
theorem impl_letterMatrix.calls (k : Nat) (A0 : Option Addr) (c0 : Nat) (l0 : List (S26)) (a1 : Int) (r1 : Int) (r2 : Int) (r3 : Int) (r4 : Int) (w : World) (hr0 : Kd.C k26 w A0 l0.length l0) (hc0 : l0.length ≤ c0) (h : impl_letterMatrix.f k l0 a1 = some (r1, r2, r3, r4)) :
  Calls Try.prog 125 #[.slice A0 l0.length c0, .int .i64 a1] w fun e w' => e = .returned (.agg #[.int .i64 r1, .int .i64 r2, .int .i64 r3, .int .i64 r4]) ∧ Below w.heap.size w w' := by
 have hu26 := Try.underlying26
 have HR0 := Aside0.mk hr0
 have HC0 := Aside0.mk hc0
 clear hr0 hc0
 have HB := Aside0.mk (Below.refl w.heap.size w)
 have H : (if a1 < 0 then (if 0 ≤ (wrap64 ((wrap64 (-a1)) - 1)) then (if (wrap64 ((wrap64 (-a1)) - 1)) < (l0.length : Int) then ((impl_inverted.f k ((rd_T26 l0 (wrap64 ((wrap64 (-a1)) - 1))).f0.f0) ((rd_T26 l0 (wrap64 ((wrap64 (-a1)) - 1))).f0.f1) ((rd_T26 l0 (wrap64 ((wrap64 (-a1)) - 1))).f1.f0) ((rd_T26 l0 (wrap64 ((wrap64 (-a1)) - 1))).f1.f1)).bind fun bt437 => (some (bt437.1, bt437.2.1, bt437.2.2.1, bt437.2.2.2))) else (none)) else (none)) else (if 0 ≤ (wrap64 (a1 - 1)) then (if (wrap64 (a1 - 1)) < (l0.length : Int) then ((impl_reduce.f k ((rd_T26 l0 (wrap64 (a1 - 1))).f0.f0) ((rd_T26 l0 (wrap64 (a1 - 1))).f0.f1) ((rd_T26 l0 (wrap64 (a1 - 1))).f1.f0) ((rd_T26 l0 (wrap64 (a1 - 1))).f1.f1)).bind fun bt442 => (some (bt442.1, bt442.2.1, bt442.2.2.1, bt442.2.2.2))) else (none)) else (none))) = some (r1, r2, r3, r4) := h
 clear h
 by_cases c3 : a1 < 0
 ·rw [if_pos c3] at H
  have c3b0 : decide (a1 < 0) = true := decide_eq_true c3
  clear c3
  obtain ⟨ji4, hji4⟩ : ∃ j_ : Int, (wrap64 ((wrap64 (-a1)) - 1)) = j_ := ⟨_, rfl⟩
  replace H : (if 0 ≤ (ji4) then (if (ji4) < (l0.length : Int) then ((impl_inverted.f k ((rd_T26 l0 (ji4)).f0.f0) ((rd_T26 l0 (ji4)).f0.f1) ((rd_T26 l0 (ji4)).f1.f0) ((rd_T26 l0 (ji4)).f1.f1)).bind fun bt437 => (some (bt437.1, bt437.2.1, bt437.2.2.1, bt437.2.2.2))) else (none)) else (none)) = some (r1, r2, r3, r4) := by first | (rw [hji4] at H; exact H) | (simp only [hji4] at H ⊢; exact H)
  have hji4w : (IntKind.i64.wrap ((wrap64 (-a1)) - 1)) = ji4 := (i64_w _).trans hji4
  by_cases c5 : 0 ≤ (ji4)
  ·rw [if_pos c5] at H
   have c5b0 : decide (0 ≤ (ji4)) = true := decide_eq_true c5
   clear c5
   by_cases c6 : (ji4) < (l0.length : Int)
   ·rw [if_pos c6] at H
    have c6b0 : decide ((ji4) < (l0.length : Int)) = true := decide_eq_true c6
    clear c6
    replace H := ob_ H
    obtain ⟨⟨t437, t438, t439, t440⟩, A70, H⟩ := H
    have A7 := Aside0.mk A70
    clear A70
    simp only [Option.some.injEq, Prod.mk.injEq] at H
    obtain ⟨rfl, rfl, rfl, rfl⟩ := H
    go_enter Try.func125, Try.ntmps125
    go_wp2_with (first | (refine bx_ 4 #[.int .i64 0, .int .i64 0, .int .i64 0, .int .i64 0] 26 ?_; intro gb435 hg w8 hbox hb; have BK435 := Aside0.mk (hbox); have GW435 := bs_ HB hg; have GE435 := bs_ HB hg; replace HB := bt_ HB hb; clear hb hbox hg; have p436 : 0 ≤ ((ji4) : Int) := od_; have q436 : (ji4) < (l0.length : Int) := od_; obtain ⟨ad436, e436, hx436_0, hx436_1, hx436_2, hx436_3⟩ := at_T26 HR0.out (ji4) p436 q436; cases e436; replace hx436_0 := clTr HB.out hx436_0; replace hx436_1 := clTr HB.out hx436_1; replace hx436_2 := clTr HB.out hx436_2; replace hx436_3 := clTr HB.out hx436_3; replace p436 := eq_true p436; replace q436 := eq_true q436) | (refine ge_ 13 Try.func78 #[.agg #[.int .i64 ((rd_T26 l0 (ji4)).f0.f0), .int .i64 ((rd_T26 l0 (ji4)).f0.f1), .int .i64 ((rd_T26 l0 (ji4)).f1.f0), .int .i64 ((rd_T26 l0 (ji4)).f1.f1)]] ?_ (hargs := by (try simp only [List.map_toArray, List.map_cons, List.map_nil]); first | done | (simp only [hji4]; rfl) | rfl | (simp only [List.length_drop, List.length_take]; rfl)); (with_reducible refine (impl_inverted.calls k ((rd_T26 l0 (ji4)).f0.f0) ((rd_T26 l0 (ji4)).f0.f1) ((rd_T26 l0 (ji4)).f1.f0) ((rd_T26 l0 (ji4)).f1.f1) t437 t438 t439 t440 _ A7.out).mono ?_); rintro e w9 ⟨rfl, hb⟩; refine ⟨_, rfl, ?_⟩; replace BK435 := bb_ BK435 hb; replace HB := bt_ HB hb; (try clear hb); (try clear hb2); (try clear hk); (try clear hi); obtain ⟨hcz10_0, hcz10_1, hcz10_2, hcz10_3, hfz10_0, hfz10_1, hfz10_2, hfz10_3⟩ := ch4_ BK435))
    refine bodyPost_ret (results_cell_row rfl _ _ gb435 26 #[.int .i64 t437, .int .i64 t438, .int .i64 t439, .int .i64 t440] (0, 0) _ rfl (bp_ BK435).out Try.underlying26 rfl (by kernel_rfl)) rfl ?_
    exact ⟨by first | rfl | (simp [errW_none, errW_some] <;> rfl) | (simp only [← hji4]; first | rfl | (simp [errW_none, errW_some] <;> rfl)) | (simp [*, errW_none, errW_some] <;> rfl), (bw_ HB).out⟩
   ·rw [if_neg c6] at H
    exact absurd H (by simp)
  ·rw [if_neg c5] at H
   exact absurd H (by simp)
 ·rw [if_neg c3] at H
  have c3b0 : decide (a1 < 0) = false := decide_eq_false c3
  clear c3
  obtain ⟨ji11, hji11⟩ : ∃ j_ : Int, (wrap64 (a1 - 1)) = j_ := ⟨_, rfl⟩
  replace H : (if 0 ≤ (ji11) then (if (ji11) < (l0.length : Int) then ((impl_reduce.f k ((rd_T26 l0 (ji11)).f0.f0) ((rd_T26 l0 (ji11)).f0.f1) ((rd_T26 l0 (ji11)).f1.f0) ((rd_T26 l0 (ji11)).f1.f1)).bind fun bt442 => (some (bt442.1, bt442.2.1, bt442.2.2.1, bt442.2.2.2))) else (none)) else (none)) = some (r1, r2, r3, r4) := by first | (rw [hji11] at H; exact H) | (simp only [hji11] at H ⊢; exact H)
  have hji11w : (IntKind.i64.wrap (a1 - 1)) = ji11 := (i64_w _).trans hji11
  by_cases c12 : 0 ≤ (ji11)
  ·rw [if_pos c12] at H
   have c12b0 : decide (0 ≤ (ji11)) = true := decide_eq_true c12
   clear c12
   by_cases c13 : (ji11) < (l0.length : Int)
   ·rw [if_pos c13] at H
    have c13b0 : decide ((ji11) < (l0.length : Int)) = true := decide_eq_true c13
    clear c13
    replace H := ob_ H
    obtain ⟨⟨t442, t443, t444, t445⟩, A140, H⟩ := H
    have A14 := Aside0.mk A140
    clear A140
    simp only [Option.some.injEq, Prod.mk.injEq] at H
    obtain ⟨rfl, rfl, rfl, rfl⟩ := H
    go_enter Try.func125, Try.ntmps125
    go_wp2_with (first | (refine bx_ 4 #[.int .i64 0, .int .i64 0, .int .i64 0, .int .i64 0] 26 ?_; intro gb435 hg w15 hbox hb; have BK435 := Aside0.mk (hbox); have GW435 := bs_ HB hg; have GE435 := bs_ HB hg; replace HB := bt_ HB hb; clear hb hbox hg; have p441 : 0 ≤ ((ji11) : Int) := od_; have q441 : (ji11) < (l0.length : Int) := od_; obtain ⟨ad441, e441, hx441_0, hx441_1, hx441_2, hx441_3⟩ := at_T26 HR0.out (ji11) p441 q441; cases e441; replace hx441_0 := clTr HB.out hx441_0; replace hx441_1 := clTr HB.out hx441_1; replace hx441_2 := clTr HB.out hx441_2; replace hx441_3 := clTr HB.out hx441_3; replace p441 := eq_true p441; replace q441 := eq_true q441) | (refine ge_ 19 Try.func76 #[.agg #[.int .i64 ((rd_T26 l0 (ji11)).f0.f0), .int .i64 ((rd_T26 l0 (ji11)).f0.f1), .int .i64 ((rd_T26 l0 (ji11)).f1.f0), .int .i64 ((rd_T26 l0 (ji11)).f1.f1)]] ?_ (hargs := by (try simp only [List.map_toArray, List.map_cons, List.map_nil]); first | done | (simp only [hji11]; rfl) | rfl | (simp only [List.length_drop, List.length_take]; rfl)); (with_reducible refine (impl_reduce.calls k ((rd_T26 l0 (ji11)).f0.f0) ((rd_T26 l0 (ji11)).f0.f1) ((rd_T26 l0 (ji11)).f1.f0) ((rd_T26 l0 (ji11)).f1.f1) t442 t443 t444 t445 _ A14.out).mono ?_); rintro e w16 ⟨rfl, hb⟩; refine ⟨_, rfl, ?_⟩; replace BK435 := bb_ BK435 hb; replace HB := bt_ HB hb; (try clear hb); (try clear hb2); (try clear hk); (try clear hi); obtain ⟨hcz17_0, hcz17_1, hcz17_2, hcz17_3, hfz17_0, hfz17_1, hfz17_2, hfz17_3⟩ := ch4_ BK435))
    refine bodyPost_ret (results_cell_row rfl _ _ gb435 26 #[.int .i64 t442, .int .i64 t443, .int .i64 t444, .int .i64 t445] (0, 0) _ rfl (bp_ BK435).out Try.underlying26 rfl (by kernel_rfl)) rfl ?_
    exact ⟨by first | rfl | (simp [errW_none, errW_some] <;> rfl) | (simp only [← hji11]; first | rfl | (simp [errW_none, errW_some] <;> rfl)) | (simp [*, errW_none, errW_some] <;> rfl), (bw_ HB).out⟩
   ·rw [if_neg c13] at H
    exact absurd H (by simp)
  ·rw [if_neg c12] at H
   exact absurd H (by simp)
end Go.Proofs.Ytbilincmcnnonaa.QS
