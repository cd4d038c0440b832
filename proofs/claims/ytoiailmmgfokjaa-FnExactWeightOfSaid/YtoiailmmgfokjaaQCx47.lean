-- Written by a program of this session out of Lean's own print of the loaded program; Lean checks it.
import Derived.Test.YtoiailmmgfokjaaQCx6
import Derived.Test.YtoiailmmgfokjaaQCx18
import Derived.Test.YtoiailmmgfokjaaQCx21
import Derived.Test.YtoiailmmgfokjaaQCx24
namespace Go.Proofs.Ytoiailmmgfokjaa.QC
open Go.RowKit Go.Proofs.YtoiailmmgfokjaaW.PrintWords Go.Proofs.YtoiailmmgfokjaaW.PrintLast Go.Proofs.YtoiailmmgfokjaaW.PrintMore
attribute [local go_sem] isSome_setCell max2_int min2_int max_two min_two max_three min_three max_four min_four   -- for this text's walks alone
set_option linter.unusedVariables false
set_option linter.unusedSimpArgs false

/-! ### spec_l08Code: function 25 -/
def spec_l08Code.j0 : Nat → Int → Bool → Int → Int → Int → List (S63) → Int → Int → Int → Option (Int)
 | 0, _, _, _, _, _, _, _, _, _ => none
 | k + 1, x0, x7, x444000, x444001, x444002, x444003, x445000, x445001, x445002 => if x7 = true then (some 1) else ((spec_l01Holds.f k x0 x444000 x444001 x444002 x445000 x445001 x445002).bind fun t447 => (if t447 = true then (some 0) else (some 2)))
def spec_l08Code.f (k : Nat) (a0 : Int) (a1_0 : Int) (a1_1 : Int) (a1_2 : Int) (l1_3 : List (S63)) (a2_0 : Int) (a2_1 : Int) (a2_2 : Int) : Option (Int) := (spec_l08Is.f k a0 a1_0 a1_1 a1_2 l1_3).bind fun t445 => (if t445 = true then ((spec_l01Is.f k a0 a2_0 a2_1 a2_2).bind fun t446 => (spec_l08Code.j0 k a0 (!t446) a1_0 a1_1 a1_2 l1_3 a2_0 a2_1 a2_2)) else (spec_l08Code.j0 k a0 true a1_0 a1_1 a1_2 l1_3 a2_0 a2_1 a2_2))
set_option maxHeartbeats 8000000 in
set_option maxRecDepth 100000 in
theorem spec_l08Code.calls (k : Nat) (a0 : Int) (a1_0 : Int) (a1_1 : Int) (a1_2 : Int) (A1_3 : Option Addr) (c1_3 : Nat) (l1_3 : List (S63)) (a2_0 : Int) (a2_1 : Int) (a2_2 : Int) (r : Int) (w : World) (hr1_3 : Kd.C k63 w A1_3 l1_3.length l1_3) (hc1_3 : l1_3.length ≤ c1_3) (h : spec_l08Code.f k a0 a1_0 a1_1 a1_2 l1_3 a2_0 a2_1 a2_2 = some r) :
  Calls Try.prog 25 #[.int .i64 a0, .agg #[.int .i64 a1_0, .int .i64 a1_1, .int .i64 a1_2, .slice A1_3 l1_3.length c1_3], .agg #[.int .i64 a2_0, .int .i64 a2_1, .int .i64 a2_2]] w fun e w' => e = .returned (.int .i64 r) ∧ Below w.heap.size w w' := by
 have hu33 := Try.underlying33
 have hu30 := Try.underlying30
 have HR1_3 := Aside0.mk hr1_3
 have HC1_3 := Aside0.mk hc1_3
 clear hr1_3 hc1_3
 have HB := Aside0.mk (Below.refl w.heap.size w)
 have H : ((spec_l08Is.f k a0 a1_0 a1_1 a1_2 l1_3).bind fun t445 => (if t445 = true then ((spec_l01Is.f k a0 a2_0 a2_1 a2_2).bind fun t446 => (spec_l08Code.j0 k a0 (!t446) a1_0 a1_1 a1_2 l1_3 a2_0 a2_1 a2_2)) else (spec_l08Code.j0 k a0 true a1_0 a1_1 a1_2 l1_3 a2_0 a2_1 a2_2))) = some r := h
 clear h
 have HC4 := Aside0.mk H
 clear H
 go_enter Try.func25, Try.ntmps25
 go_upto_region 1 with (first | ((with_reducible refine gate_dst (N := 4) rfl ?_); refine bx_ 4 #[.int .i64 a1_0, .int .i64 a1_1, .int .i64 a1_2, .slice A1_3 l1_3.length c1_3] 33 ?_; intro gb443 hg w5 hbox hb; have BK443 := Aside0.mk (hbox); have GW443 := bs_ HB hg; have GE443 := bs_ HB hg; replace HB := bt_ HB hb; clear hb hbox hg) | ((with_reducible refine gate_dst (N := 5) rfl ?_); refine bx_ 5 #[.int .i64 a2_0, .int .i64 a2_1, .int .i64 a2_2] 30 ?_; intro gb444 hg w6 hbox hb; have BK444 := Aside0.mk (hbox); have GW444 := bs_ HB hg; have GE444 := bs_ HB hg; have NB443_444 := bm_ BK443 hg; have NB444_443 := bn_ BK443 hg; replace BK443 := bb_ BK443 hb; replace HB := bt_ HB hb; clear hb hbox hg))
 (try simp only [Act.put, lstS, lstZ, lstC])
 go_cut [7] (fun v7 wc => ∃ (kq : Nat) (x7_3 : Bool), v7 = .bool x7_3 ∧ Aside0 (spec_l08Code.j0 kq a0 x7_3 a1_0 a1_1 a1_2 l1_3 a2_0 a2_1 a2_2 = some r) ∧ Aside0 (kq ≤ k) ∧ Aside0 (wc.heap[gb443]? = some (.cells #[.int .i64 a1_0, .int .i64 a1_1, .int .i64 a1_2, (.slice A1_3 l1_3.length c1_3)] 33 (0, 0))) ∧ Aside0 (wc.heap[gb444]? = some (.cells #[.int .i64 a2_0, .int .i64 a2_1, .int .i64 a2_2] 30 (0, 0))) ∧ Aside0 (Below w.heap.size w wc))
 case first =>
  have H := HC4.out
  clear HC4
  replace H := Option.bind_eq_some_iff.mp H
  obtain ⟨t445, A70, H⟩ := H
  have A7 := Aside0.mk A70
  clear A70
  by_cases c8 : t445 = true
  ·subst c8
   have H1 : ((spec_l01Is.f k a0 a2_0 a2_1 a2_2).bind fun t446 => (spec_l08Code.j0 k a0 (!t446) a1_0 a1_1 a1_2 l1_3 a2_0 a2_1 a2_2)) = some r := by rw [if_pos rfl] at H; exact H
   clear H
   have H := H1
   clear H1
   replace H := Option.bind_eq_some_iff.mp H
   obtain ⟨t446, A90, H⟩ := H
   have A9 := Aside0.mk A90
   clear A90
   have H' := Aside0.mk H
   clear H
   have hnb10 := NB443_444.out
   have hnc10 := NB444_443.out
   have hcz11_0 : w6.cell? ⟨gb443, 0, none⟩ = some (.int .i64 a1_0) := cz_ BK443 0
   have hcz11_1 : w6.cell? ⟨gb443, 1, none⟩ = some (.int .i64 a1_1) := cz_ BK443 1
   have hcz11_2 : w6.cell? ⟨gb443, 2, none⟩ = some (.int .i64 a1_2) := cz_ BK443 2
   have hcz11_3 : w6.cell? ⟨gb443, 3, none⟩ = some (.slice A1_3 l1_3.length c1_3) := cz_ BK443 3
   have hfz11_0 := fz_ BK443 0
   have hfz11_1 := fz_ BK443 1
   have hfz11_2 := fz_ BK443 2
   have hfz11_3 := fz_ BK443 3
   go_wp2_with (first | ((with_reducible refine gate_callee (f := 34) rfl ?_); refine ge_ 10 Try.func34 #[.int .i64 a0, .agg #[.int .i64 a1_0, .int .i64 a1_1, .int .i64 a1_2, .slice A1_3 l1_3.length c1_3]] ?_; (with_reducible refine (spec_l08Is.calls k a0 a1_0 a1_1 a1_2 _ _ l1_3 true _ ?side1 ?side2 A7.out).mono ?_); (case side1 => repeat (first | exact (Kd.C_below HR1_3.out (bw_ HB).out) | (with_reducible refine Kd.C_alloc ?_ _) | (with_reducible refine Kd.C_drewN ?_ _) | (with_reducible refine Kd.C_drew ?_))); (case side2 => exact HC1_3.out); rintro e w12 ⟨rfl, hb⟩; refine ⟨_, rfl, ?_⟩; replace BK443 := bb_ BK443 hb; replace BK444 := bb_ BK444 hb; replace HB := bt_ HB hb; (try clear hb); (try clear hb2); (try clear hk); (try clear hi); have hcz13_0 : w12.cell? ⟨gb444, 0, none⟩ = some (.int .i64 a2_0) := cz_ BK444 0; have hcz13_1 : w12.cell? ⟨gb444, 1, none⟩ = some (.int .i64 a2_1) := cz_ BK444 1; have hcz13_2 : w12.cell? ⟨gb444, 2, none⟩ = some (.int .i64 a2_2) := cz_ BK444 2; have hfz13_0 := fz_ BK444 0; have hfz13_1 := fz_ BK444 1; have hfz13_2 := fz_ BK444 2) | (go_at_call 53; (with_reducible refine (spec_l01Is.calls k a0 a2_0 a2_1 a2_2 t446 _ A9.out).mono ?_); rintro e w14 ⟨rfl, hb⟩; replace BK443 := bb_ BK443 hb; replace BK444 := bb_ BK444 hb; replace HB := bt_ HB hb; (try clear hb); (try clear hb2); (try clear hk); (try clear hi)))
   go_meet
   case rel => exact ⟨_, (!t446), (by first | rfl | (simp; done) | (simp [*]; done) | (simp [wrap64]; done)), H', ⟨by first | omega | exact Nat.le_refl _⟩, bl_ BK443, bl_ BK444, bw_ HB⟩
  ·replace c8 := Bool.eq_false_iff.mpr c8
   subst c8
   have H1 : (spec_l08Code.j0 k a0 true a1_0 a1_1 a1_2 l1_3 a2_0 a2_1 a2_2) = some r := by rw [if_neg (show ¬ (false = true) by decide)] at H; exact H
   clear H
   have H := H1
   clear H1
   have H' := Aside0.mk H
   clear H
   have hnb15 := NB443_444.out
   have hnc15 := NB444_443.out
   have hcz16_0 : w6.cell? ⟨gb443, 0, none⟩ = some (.int .i64 a1_0) := cz_ BK443 0
   have hcz16_1 : w6.cell? ⟨gb443, 1, none⟩ = some (.int .i64 a1_1) := cz_ BK443 1
   have hcz16_2 : w6.cell? ⟨gb443, 2, none⟩ = some (.int .i64 a1_2) := cz_ BK443 2
   have hcz16_3 : w6.cell? ⟨gb443, 3, none⟩ = some (.slice A1_3 l1_3.length c1_3) := cz_ BK443 3
   have hfz16_0 := fz_ BK443 0
   have hfz16_1 := fz_ BK443 1
   have hfz16_2 := fz_ BK443 2
   have hfz16_3 := fz_ BK443 3
   go_wp2_with (first | ((with_reducible refine gate_callee (f := 34) rfl ?_); refine ge_ 10 Try.func34 #[.int .i64 a0, .agg #[.int .i64 a1_0, .int .i64 a1_1, .int .i64 a1_2, .slice A1_3 l1_3.length c1_3]] ?_; (with_reducible refine (spec_l08Is.calls k a0 a1_0 a1_1 a1_2 _ _ l1_3 false _ ?side1 ?side2 A7.out).mono ?_); (case side1 => repeat (first | exact (Kd.C_below HR1_3.out (bw_ HB).out) | (with_reducible refine Kd.C_alloc ?_ _) | (with_reducible refine Kd.C_drewN ?_ _) | (with_reducible refine Kd.C_drew ?_))); (case side2 => exact HC1_3.out); rintro e w17 ⟨rfl, hb⟩; refine ⟨_, rfl, ?_⟩; replace BK443 := bb_ BK443 hb; replace BK444 := bb_ BK444 hb; replace HB := bt_ HB hb; (try clear hb); (try clear hb2); (try clear hk); (try clear hi)))
   go_meet
   case rel => exact ⟨_, (true), (by first | rfl | (simp; done) | (simp [*]; done) | (simp [wrap64]; done)), H', ⟨by first | omega | exact Nat.le_refl _⟩, bl_ BK443, bl_ BK444, bw_ HB⟩
 case rest =>
  clear HC4
  try clear c1
  try clear c2
  try clear p2
  try clear c3
  try clear c8
  try clear c10
  try clear c15
  try clear hcz11_0
  try clear hcz11_1
  try clear hcz11_2
  try clear hcz11_3
  try clear hcz13_0
  try clear hcz13_1
  try clear hcz13_2
  try clear hcz16_0
  try clear hcz16_1
  try clear hcz16_2
  try clear hcz16_3
  try clear hfz11_0
  try clear hfz11_1
  try clear hfz11_2
  try clear hfz11_3
  try clear hfz13_0
  try clear hfz13_1
  try clear hfz13_2
  try clear hfz16_0
  try clear hfz16_1
  try clear hfz16_2
  try clear hfz16_3
  obtain ⟨kq, x7_3, rfl, HA, HJ3, BK443, BK444, HB⟩ := hcut
  cases kq with
  | zero => exact absurd HA.out (by simp [spec_l08Code.j0])
  | succ kj3 =>
   have H := HA.out
   clear HA
   simp only [spec_l08Code.j0] at H
   by_cases c18 : x7_3 = true
   ·subst c18
    have H1 : (some 1) = some r := by rw [if_pos rfl] at H; exact H
    clear H
    have H := H1
    clear H1
    obtain rfl := Option.some.inj H
    go_wp2
    go_ret
    exact ⟨by first | rfl | (simp [errW_none, errW_some] <;> rfl) | (simp [*, errW_none, errW_some] <;> rfl), by repeat (first | (with_reducible first | exact HB.out | apply below_alloc | apply pw_below_drewN | apply below_drew1 | refine below_set ?_ GE443.out | refine below_set ?_ GE444.out) | exact HB.out)⟩
   ·replace c18 := Bool.eq_false_iff.mpr c18
    subst c18
    have H1 : ((spec_l01Holds.f kj3 a0 a1_0 a1_1 a1_2 a2_0 a2_1 a2_2).bind fun t447 => (if t447 = true then (some 0) else (some 2))) = some r := by rw [if_neg (show ¬ (false = true) by decide)] at H; exact H
    clear H
    have H := H1
    clear H1
    replace H := Option.bind_eq_some_iff.mp H
    obtain ⟨t447, A190, H⟩ := H
    have A19 := Aside0.mk A190
    clear A190
    by_cases c20 : t447 = true
    ·subst c20
     have H1 : (some 0) = some r := by rw [if_pos rfl] at H; exact H
     clear H
     have H := H1
     clear H1
     obtain rfl := Option.some.inj H
     have hnb21 := NB443_444.out
     have hnc21 := NB444_443.out
     have hcz22_0 : wc.cell? ⟨gb443, 0, none⟩ = some (.int .i64 a1_0) := cz_ BK443 0
     have hcz22_1 : wc.cell? ⟨gb443, 1, none⟩ = some (.int .i64 a1_1) := cz_ BK443 1
     have hcz22_2 : wc.cell? ⟨gb443, 2, none⟩ = some (.int .i64 a1_2) := cz_ BK443 2
     have hcz22_3 : wc.cell? ⟨gb443, 3, none⟩ = some (.slice A1_3 l1_3.length c1_3) := cz_ BK443 3
     have hfz22_0 := fz_ BK443 0
     have hfz22_1 := fz_ BK443 1
     have hfz22_2 := fz_ BK443 2
     have hfz22_3 := fz_ BK443 3
     have hcz23_0 : wc.cell? ⟨gb444, 0, none⟩ = some (.int .i64 a2_0) := cz_ BK444 0
     have hcz23_1 : wc.cell? ⟨gb444, 1, none⟩ = some (.int .i64 a2_1) := cz_ BK444 1
     have hcz23_2 : wc.cell? ⟨gb444, 2, none⟩ = some (.int .i64 a2_2) := cz_ BK444 2
     have hfz23_0 := fz_ BK444 0
     have hfz23_1 := fz_ BK444 1
     have hfz23_2 := fz_ BK444 2
     go_wp2_with (first | ((with_reducible refine gate_callee (f := 54) rfl ?_); refine ge_ 23 Try.func54 #[.int .i64 a0, .agg #[.int .i64 a1_0, .int .i64 a1_1, .int .i64 a1_2], .agg #[.int .i64 a2_0, .int .i64 a2_1, .int .i64 a2_2]] ?_; (with_reducible refine (spec_l01Holds.calls kj3 a0 a1_0 a1_1 a1_2 a2_0 a2_1 a2_2 true _ A19.out).mono ?_); rintro e w24 ⟨rfl, hb⟩; refine ⟨_, rfl, ?_⟩; replace BK443 := bb_ BK443 hb; replace BK444 := bb_ BK444 hb; replace HB := bt_ HB hb; (try clear hb); (try clear hb2); (try clear hk); (try clear hi)))
     go_ret
     exact ⟨by first | rfl | (simp [errW_none, errW_some] <;> rfl) | (simp [*, errW_none, errW_some] <;> rfl), by repeat (first | (with_reducible first | exact HB.out | apply below_alloc | apply pw_below_drewN | apply below_drew1 | refine below_set ?_ GE443.out | refine below_set ?_ GE444.out) | exact HB.out)⟩
    ·replace c20 := Bool.eq_false_iff.mpr c20
     subst c20
     have H1 : (some 2) = some r := by rw [if_neg (show ¬ (false = true) by decide)] at H; exact H
     clear H
     have H := H1
     clear H1
     obtain rfl := Option.some.inj H
     have hnb25 := NB443_444.out
     have hnc25 := NB444_443.out
     have hcz26_0 : wc.cell? ⟨gb443, 0, none⟩ = some (.int .i64 a1_0) := cz_ BK443 0
     have hcz26_1 : wc.cell? ⟨gb443, 1, none⟩ = some (.int .i64 a1_1) := cz_ BK443 1
     have hcz26_2 : wc.cell? ⟨gb443, 2, none⟩ = some (.int .i64 a1_2) := cz_ BK443 2
     have hcz26_3 : wc.cell? ⟨gb443, 3, none⟩ = some (.slice A1_3 l1_3.length c1_3) := cz_ BK443 3
     have hfz26_0 := fz_ BK443 0
     have hfz26_1 := fz_ BK443 1
     have hfz26_2 := fz_ BK443 2
     have hfz26_3 := fz_ BK443 3
     have hcz27_0 : wc.cell? ⟨gb444, 0, none⟩ = some (.int .i64 a2_0) := cz_ BK444 0
     have hcz27_1 : wc.cell? ⟨gb444, 1, none⟩ = some (.int .i64 a2_1) := cz_ BK444 1
     have hcz27_2 : wc.cell? ⟨gb444, 2, none⟩ = some (.int .i64 a2_2) := cz_ BK444 2
     have hfz27_0 := fz_ BK444 0
     have hfz27_1 := fz_ BK444 1
     have hfz27_2 := fz_ BK444 2
     go_wp2_with (first | ((with_reducible refine gate_callee (f := 54) rfl ?_); refine ge_ 23 Try.func54 #[.int .i64 a0, .agg #[.int .i64 a1_0, .int .i64 a1_1, .int .i64 a1_2], .agg #[.int .i64 a2_0, .int .i64 a2_1, .int .i64 a2_2]] ?_; (with_reducible refine (spec_l01Holds.calls kj3 a0 a1_0 a1_1 a1_2 a2_0 a2_1 a2_2 false _ A19.out).mono ?_); rintro e w28 ⟨rfl, hb⟩; refine ⟨_, rfl, ?_⟩; replace BK443 := bb_ BK443 hb; replace BK444 := bb_ BK444 hb; replace HB := bt_ HB hb; (try clear hb); (try clear hb2); (try clear hk); (try clear hi)))
     go_ret
     exact ⟨by first | rfl | (simp [errW_none, errW_some] <;> rfl) | (simp [*, errW_none, errW_some] <;> rfl), by repeat (first | (with_reducible first | exact HB.out | apply below_alloc | apply pw_below_drewN | apply below_drew1 | refine below_set ?_ GE443.out | refine below_set ?_ GE444.out) | exact HB.out)⟩
attribute [local go_sem high] eqA30
/-! ### spec_l08Within: function 26 -/
def spec_l08Within.l0 : Nat → Int → Int → Int → Int → Int → List (S63) → Int → Int → Int → Option (Bool × Bool)
 | 0, _, _, _, _, _, _, _, _, _ => none
 | k + 1, x0, x8, x449000, x449001, x449002, x449003, x450000, x450001, x450002 => if x8 < (x449003.length : Int) then (if 0 ≤ x8 then ((spec_l01Holds.f k x0 ((rd_T63 x449003 x8).f0.f0) ((rd_T63 x449003 x8).f0.f1) ((rd_T63 x449003 x8).f0.f2) x450000 x450001 x450002).bind fun t451 => (if t451 = true then (some (true, (((rd_T63 x449003 x8).f0.f0) == x450000 && (((rd_T63 x449003 x8).f0.f1) == x450001 && (((rd_T63 x449003 x8).f0.f2) == x450002))))) else (spec_l08Within.l0 k x0 (wrap64 (x8 + 1)) x449000 x449001 x449002 x449003 x450000 x450001 x450002))) else (none)) else (some (false, false))
def spec_l08Within.f (k : Nat) (a0 : Int) (a1_0 : Int) (a1_1 : Int) (a1_2 : Int) (l1_3 : List (S63)) (a2_0 : Int) (a2_1 : Int) (a2_2 : Int) : Option (Bool × Bool) := spec_l08Within.l0 k a0 0 a1_0 a1_1 a1_2 l1_3 a2_0 a2_1 a2_2
def spec_l08Within.T4 : Bool × List (List Nat × List Nat) := (true, [([], []), ([], []), ([1], [1]), ([], []), ([2, 3], [2, 3]), ([4], [4]), ([5], [5]), ([], []), ([0, 6, 7], [0, 6, 7])])
def spec_l08Within.B4 : List Nat := [0, 0, 2, 0, 14, 30, 62, 0, 255]
theorem spec_l08Within.tab4 : rtab .any (opsOf Try.f26 4) = spec_l08Within.T4 := by kernel_rfl
theorem spec_l08Within.bits4 : waitsOk spec_l08Within.T4.2 spec_l08Within.B4 = true := by kernel_rfl
def spec_l08Within.T5 : Bool × List (List Nat × List Nat) := (true, [([], []), ([0], [0]), ([], []), ([1, 2], [1, 2]), ([3], [3]), ([4], [4]), ([], []), ([5, 6], [5, 6]), ([], []), ([7, 8, 0, 1, 2, 3, 4, 5, 6, 7, 8], [7])])
def spec_l08Within.B5 : List Nat := [0, 1, 0, 7, 15, 31, 0, 127, 0, 511]
theorem spec_l08Within.tab5 : rtab .any (opsOf Try.f26 5) = spec_l08Within.T5 := by kernel_rfl
theorem spec_l08Within.bits5 : waitsOk spec_l08Within.T5.2 spec_l08Within.B5 = true := by kernel_rfl
set_option maxHeartbeats 8000000 in
set_option maxRecDepth 100000 in
theorem spec_l08Within.calls (k : Nat) (a0 : Int) (a1_0 : Int) (a1_1 : Int) (a1_2 : Int) (A1_3 : Option Addr) (c1_3 : Nat) (l1_3 : List (S63)) (a2_0 : Int) (a2_1 : Int) (a2_2 : Int) (r1 : Bool) (r2 : Bool) (w : World) (hr1_3 : Kd.C k63 w A1_3 l1_3.length l1_3) (hc1_3 : l1_3.length ≤ c1_3) (h : spec_l08Within.f k a0 a1_0 a1_1 a1_2 l1_3 a2_0 a2_1 a2_2 = some (r1, r2)) :
  Calls Try.prog 26 #[.int .i64 a0, .agg #[.int .i64 a1_0, .int .i64 a1_1, .int .i64 a1_2, .slice A1_3 l1_3.length c1_3], .agg #[.int .i64 a2_0, .int .i64 a2_1, .int .i64 a2_2]] w fun e w' => e = .returned (.tuple #[.bool r1, .bool r2]) ∧ Below w.heap.size w w' := by
 have hu33 := Try.underlying33
 have hu30 := Try.underlying30
 have hu63 := Try.underlying63
 have HR1_3 := Aside0.mk hr1_3
 have HC1_3 := Aside0.mk hc1_3
 clear hr1_3 hc1_3
 have HB := Aside0.mk (Below.refl w.heap.size w)
 have H : (spec_l08Within.l0 k a0 0 a1_0 a1_1 a1_2 l1_3 a2_0 a2_1 a2_2) = some (r1, r2) := h
 clear h
 have H' := Aside0.mk H
 clear H
 go_enter Try.func26, Try.ntmps26
 go_wp2_with (first | ((with_reducible refine gate_dst (N := 4) rfl ?_); refine bx_ 4 #[.int .i64 a1_0, .int .i64 a1_1, .int .i64 a1_2, .slice A1_3 l1_3.length c1_3] 33 ?_; intro gb448 hg w4 hbox hb; have BK448 := Aside0.mk (hbox); have GW448 := bs_ HB hg; have GE448 := bs_ HB hg; replace HB := bt_ HB hb; clear hb hbox hg) | ((with_reducible refine gate_dst (N := 5) rfl ?_); refine bx_ 5 #[.int .i64 a2_0, .int .i64 a2_1, .int .i64 a2_2] 30 ?_; intro gb449 hg w5 hbox hb; have BK449 := Aside0.mk (hbox); have GW449 := bs_ HB hg; have GE449 := bs_ HB hg; have NB448_449 := bm_ BK448 hg; have NB449_448 := bn_ BK448 hg; replace BK448 := bb_ BK448 hb; replace HB := bt_ HB hb; clear hb hbox hg))
 go_loopg [8] k (fun kq v8 w' => ∃ (x8_1 : Int), v8 = .int .i64 x8_1 ∧ Aside0 (spec_l08Within.l0 kq a0 x8_1 a1_0 a1_1 a1_2 l1_3 a2_0 a2_1 a2_2 = some (r1, r2)) ∧ Aside0 (kq ≤ k) ∧ Aside0 (w'.heap[gb448]? = some (.cells #[.int .i64 a1_0, .int .i64 a1_1, .int .i64 a1_2, (.slice A1_3 l1_3.length c1_3)] 33 (0, 0))) ∧ Aside0 (w'.heap[gb449]? = some (.cells #[.int .i64 a2_0, .int .i64 a2_1, .int .i64 a2_2] 30 (0, 0))) ∧ Aside0 (Below w.heap.size w w'))
 case atStart => exact ⟨(0), (by first | rfl | (simp; done) | (simp [*]; done) | (simp [wrap64]; done)), H', ⟨Nat.le_refl _⟩, bl_ BK448, bl_ BK449, bw_ HB⟩
 case round =>
  clear H'
  try clear c1
  try clear c2
  try clear p2
  obtain ⟨x8_1, rfl, HA, HK1, BK448, BK449, HB⟩ := hrel
  cases gk with
  | zero => exact absurd HA.out (by simp [spec_l08Within.l0])
  | succ k1 =>
   have H := HA.out
   clear HA
   simp only [spec_l08Within.l0] at H
   by_cases c6 : x8_1 < (l1_3.length : Int)
   ·rw [if_pos c6] at H
    have c6b0 : decide (x8_1 < (l1_3.length : Int)) = true := decide_eq_true c6
    clear c6
    by_cases c7 : 0 ≤ x8_1
    ·rw [if_pos c7] at H
     have c7b0 : decide (0 ≤ x8_1) = true := decide_eq_true c7
     clear c7
     replace H := Option.bind_eq_some_iff.mp H
     obtain ⟨t451, A80, H⟩ := H
     have A8 := Aside0.mk A80
     clear A80
     by_cases c9 : t451 = true
     ·subst c9
      have H1 : (some (true, (((rd_T63 l1_3 x8_1).f0.f0) == a2_0 && (((rd_T63 l1_3 x8_1).f0.f1) == a2_1 && (((rd_T63 l1_3 x8_1).f0.f2) == a2_2))))) = some (r1, r2) := by rw [if_pos rfl] at H; exact H
      clear H
      have H := H1
      clear H1
      simp only [Option.some.injEq, Prod.mk.injEq] at H
      obtain ⟨rfl, rfl⟩ := H
      have hnb10 := NB448_449.out
      have hnc10 := NB449_448.out
      have hcz11_0 : wr.cell? ⟨gb448, 0, none⟩ = some (.int .i64 a1_0) := cz_ BK448 0
      have hcz11_1 : wr.cell? ⟨gb448, 1, none⟩ = some (.int .i64 a1_1) := cz_ BK448 1
      have hcz11_2 : wr.cell? ⟨gb448, 2, none⟩ = some (.int .i64 a1_2) := cz_ BK448 2
      have hcz11_3 : wr.cell? ⟨gb448, 3, none⟩ = some (.slice A1_3 l1_3.length c1_3) := cz_ BK448 3
      have hfz11_0 := fz_ BK448 0
      have hfz11_1 := fz_ BK448 1
      have hfz11_2 := fz_ BK448 2
      have hfz11_3 := fz_ BK448 3
      try go_wp2
      replace BK448 := Aside0.mk (blk_drew BK448.out)
      replace BK449 := Aside0.mk (blk_drew BK449.out)
      replace HB := Aside0.mk (below_drew1 HB.out)
      have p450 : 0 ≤ (x8_1 : Int) := of_decide_eq_true (by first | (with_reducible assumption) | assumption)
      have q450 : x8_1 < (l1_3.length : Int) := of_decide_eq_true (by first | (with_reducible assumption) | assumption)
      obtain ⟨ad450, e450, hx450_0, hx450_1, hx450_2, hx450_3⟩ := at_T63 HR1_3.out x8_1 p450 q450
      have hw450_3 := hx450_3
      have hw450_2 := hx450_2
      have hw450_1 := hx450_1
      have hw450_0 := hx450_0
      cases e450
      replace hx450_0 := clTr HB.out hx450_0
      replace hx450_1 := clTr HB.out hx450_1
      replace hx450_2 := clTr HB.out hx450_2
      replace hx450_3 := clTr HB.out hx450_3
      replace p450 := eq_true p450
      replace q450 := eq_true q450
      refine start_ (n := 9) (S := fun w' => w'.cell? ⟨gb448, 0, none⟩ = some (.int .i64 a1_0) ∧ w'.cell? ⟨gb448, 1, none⟩ = some (.int .i64 a1_1) ∧ w'.cell? ⟨gb448, 2, none⟩ = some (.int .i64 a1_2) ∧ w'.cell? ⟨gb448, 3, none⟩ = some (.slice (some ad450) l1_3.length c1_3) ∧ w'.cell? ⟨gb449, 0, none⟩ = some (.int .i64 a2_0) ∧ w'.cell? ⟨gb449, 1, none⟩ = some (.int .i64 a2_1) ∧ w'.cell? ⟨gb449, 2, none⟩ = some (.int .i64 a2_2) ∧ w'.cell? (ad450.add ((x8_1).toNat * 4)) = some (.int .i64 ((rd_T63 l1_3 x8_1).f0.f0)) ∧ w'.cell? ⟨(ad450.add ((x8_1).toNat * 4)).block, (ad450.add ((x8_1).toNat * 4)).off + 1, none⟩ = some (.int .i64 ((rd_T63 l1_3 x8_1).f0.f1)) ∧ w'.cell? ⟨(ad450.add ((x8_1).toNat * 4)).block, (ad450.add ((x8_1).toNat * 4)).off + 2, none⟩ = some (.int .i64 ((rd_T63 l1_3 x8_1).f0.f2)) ∧ w'.cell? ⟨(ad450.add ((x8_1).toNat * 4)).block, (ad450.add ((x8_1).toNat * 4)).off + 3, none⟩ = some (.int .i64 ((rd_T63 l1_3 x8_1).f1))) (ds := []) (bv_ 9 0) (by kernel_rfl) rfl rfl ⟨(blk_cell BK448.out 0).trans rfl, (blk_cell BK448.out 1).trans rfl, (blk_cell BK448.out 2).trans rfl, (blk_cell BK448.out 3).trans rfl, (blk_cell BK449.out 0).trans rfl, (blk_cell BK449.out 1).trans rfl, (blk_cell BK449.out 2).trans rfl, (clTr HB.out hw450_0 :), (clTr HB.out hw450_1 :), (clTr HB.out hw450_2 :), (clTr HB.out hw450_3 :)⟩ (fun hHeld => ?_); refine with_tabW spec_l08Within.tab4 spec_l08Within.bits4 (fun HT_ HW_ => ?_)
      generalize wr.drew = w12 at BK448 BK449 HB hx450_0 hx450_1 hx450_2 hx450_3 hHeld ⊢
      refine pu_ HT_ 0 (some 16) (bv_ 9 1) ?_
      refine pu_ HT_ 1 (some 17) (bv_ 9 3) ?_
      refine pu_ HT_ 3 (some 19) (bv_ 9 11) ?_
      refine ta_ HT_ HW_ 2 (some 18) (bv_ 9 15) hHeld ?_ (hy := by rintro w' ⟨s0, s1, s2, s3, s4, s5, s6, s7, s8, s9, s10⟩; go_simp; with_reducible rfl)
      refine pu_ HT_ 4 (some 20) (bv_ 9 31) ?_
      refine pu_ HT_ 5 (some 21) (bv_ 9 63) ?_
      refine ta_ HT_ HW_ 6 (some 22) (bv_ 9 127) hHeld ?_ (hy := by rintro w' ⟨s0, s1, s2, s3, s4, s5, s6, s7, s8, s9, s10⟩; go_simp; with_reducible rfl)
      refine ta_ HT_ HW_ 7 (some 23) (bv_ 9 255) hHeld ?_ (hy := by rintro w' ⟨s0, s1, s2, s3, s4, s5, s6, s7, s8, s9, s10⟩; go_simp; with_reducible rfl)
      refine one_ (i := 8) (N := some 24) (bv_ 9 511) rfl rfl (one_of HT_.out (by kernel_rfl)) (by decide) (fun K hK => ?_)
      refine goes_ Try.func54 (by kernel_rfl) rfl #[.int .i64 a0, .agg #[.int .i64 ((rd_T63 l1_3 x8_1).f0.f0), .int .i64 ((rd_T63 l1_3 x8_1).f0.f1), .int .i64 ((rd_T63 l1_3 x8_1).f0.f2)], .agg #[.int .i64 a2_0, .int .i64 a2_1, .int .i64 a2_2]] (by rfl) rfl rfl (by (try simp only [List.map_toArray, List.map_cons, List.map_nil]); first | done | rfl | (simp only [List.length_drop, List.length_take]; rfl)) ?_
      with_reducible refine (spec_l01Holds.calls k1 a0 ((rd_T63 l1_3 x8_1).f0.f0) ((rd_T63 l1_3 x8_1).f0.f1) ((rd_T63 l1_3 x8_1).f0.f2) a2_0 a2_1 a2_2 true _ A8.out).mono ?_
      rintro e w13 ⟨rfl, hb⟩
      refine ⟨_, rfl, ?_⟩
      replace BK448 := bb_ BK448 hb
      replace BK449 := bb_ BK449 hb
      replace HB := bt_ HB hb
      (try clear hb)
      (try clear hb2)
      (try clear hk)
      (try clear hi)
      refine hK.out _ _ ⟨(blk_cell BK448.out 0).trans rfl, (blk_cell BK448.out 1).trans rfl, (blk_cell BK448.out 2).trans rfl, (blk_cell BK448.out 3).trans rfl, (blk_cell BK449.out 0).trans rfl, (blk_cell BK449.out 1).trans rfl, (blk_cell BK449.out 2).trans rfl, (clTr HB.out hw450_0 :), (clTr HB.out hw450_1 :), (clTr HB.out hw450_2 :), (clTr HB.out hw450_3 :)⟩ (fun hHeld => ?_)
      clear hK K
      refine norm_ (a' := ?_) ?_ ?_
      rotate_left
      ·show Act.put _ (some 24) _ = _
       simp only [Act.put, lstS, lstZ, lstC, i64_w, i32_w]
       rfl
      refine done_ (done_of HT_.out (by kernel_rfl)) ?_
      try go_wp2
      replace BK448 := Aside0.mk (blk_drew BK448.out)
      replace BK449 := Aside0.mk (blk_drew BK449.out)
      replace HB := Aside0.mk (below_drew1 HB.out)
      have p452 : 0 ≤ (x8_1 : Int) := of_decide_eq_true (by first | (with_reducible assumption) | assumption)
      have q452 : x8_1 < (l1_3.length : Int) := of_decide_eq_true (by first | (with_reducible assumption) | assumption)
      obtain ⟨ad452, e452, hx452_0, hx452_1, hx452_2, hx452_3⟩ := at_T63 HR1_3.out x8_1 p452 q452
      have hw452_3 := hx452_3
      have hw452_2 := hx452_2
      have hw452_1 := hx452_1
      have hw452_0 := hx452_0
      obtain rfl : ad450 = ad452 := (by injection e452)
      replace hx452_0 := clTr HB.out hx452_0
      replace hx452_1 := clTr HB.out hx452_1
      replace hx452_2 := clTr HB.out hx452_2
      replace hx452_3 := clTr HB.out hx452_3
      replace p452 := eq_true p452
      replace q452 := eq_true q452
      refine start_ (n := 10) (S := fun w' => w'.cell? ⟨gb448, 0, none⟩ = some (.int .i64 a1_0) ∧ w'.cell? ⟨gb448, 1, none⟩ = some (.int .i64 a1_1) ∧ w'.cell? ⟨gb448, 2, none⟩ = some (.int .i64 a1_2) ∧ w'.cell? ⟨gb448, 3, none⟩ = some (.slice (some ad450) l1_3.length c1_3) ∧ w'.cell? ⟨gb449, 0, none⟩ = some (.int .i64 a2_0) ∧ w'.cell? ⟨gb449, 1, none⟩ = some (.int .i64 a2_1) ∧ w'.cell? ⟨gb449, 2, none⟩ = some (.int .i64 a2_2) ∧ w'.cell? (ad450.add ((x8_1).toNat * 4)) = some (.int .i64 ((rd_T63 l1_3 x8_1).f0.f0)) ∧ w'.cell? ⟨(ad450.add ((x8_1).toNat * 4)).block, (ad450.add ((x8_1).toNat * 4)).off + 1, none⟩ = some (.int .i64 ((rd_T63 l1_3 x8_1).f0.f1)) ∧ w'.cell? ⟨(ad450.add ((x8_1).toNat * 4)).block, (ad450.add ((x8_1).toNat * 4)).off + 2, none⟩ = some (.int .i64 ((rd_T63 l1_3 x8_1).f0.f2)) ∧ w'.cell? ⟨(ad450.add ((x8_1).toNat * 4)).block, (ad450.add ((x8_1).toNat * 4)).off + 3, none⟩ = some (.int .i64 ((rd_T63 l1_3 x8_1).f1))) (ds := []) (bv_ 10 0) (by kernel_rfl) rfl rfl ⟨(blk_cell BK448.out 0).trans rfl, (blk_cell BK448.out 1).trans rfl, (blk_cell BK448.out 2).trans rfl, (blk_cell BK448.out 3).trans rfl, (blk_cell BK449.out 0).trans rfl, (blk_cell BK449.out 1).trans rfl, (blk_cell BK449.out 2).trans rfl, (clTr HB.out hw452_0 :), (clTr HB.out hw452_1 :), (clTr HB.out hw452_2 :), (clTr HB.out hw452_3 :)⟩ (fun hHeld => ?_); refine with_tabW spec_l08Within.tab5 spec_l08Within.bits5 (fun HT_ HW_ => ?_)
      generalize w13.drew = w14 at BK448 BK449 HB hx452_0 hx452_1 hx452_2 hx452_3 hHeld ⊢
      refine pu_ HT_ 0 (some 25) (bv_ 10 1) ?_
      refine pu_ HT_ 2 (some 27) (bv_ 10 5) ?_
      refine pu_ HT_ 8 (some 6) (bv_ 10 261) ?_
      refine ta_ HT_ HW_ 1 (some 26) (bv_ 10 263) hHeld ?_ (hy := by rintro w' ⟨s0, s1, s2, s3, s4, s5, s6, s7, s8, s9, s10⟩; go_simp; with_reducible rfl)
      refine pu_ HT_ 3 (some 28) (bv_ 10 271) ?_
      refine pu_ HT_ 4 (some 29) (bv_ 10 287) ?_
      refine ta_ HT_ HW_ 5 (some 30) (bv_ 10 319) hHeld ?_ (hy := by rintro w' ⟨s0, s1, s2, s3, s4, s5, s6, s7, s8, s9, s10⟩; go_simp; with_reducible rfl)
      refine ta_ HT_ HW_ 6 (some 31) (bv_ 10 383) hHeld ?_ (hy := by rintro w' ⟨s0, s1, s2, s3, s4, s5, s6, s7, s8, s9, s10⟩; go_simp; with_reducible rfl)
      refine pu_ HT_ 7 (some 32) (bv_ 10 511) ?_
      refine pu_ HT_ 9 (some 7) (bv_ 10 1023) ?_
      refine done_ (done_of HT_.out (by kernel_rfl)) ?_
      try go_wp2
      go_ret2
      exact ⟨by first | rfl | (simp [errW_none, errW_some] <;> rfl) | (simp [*, errW_none, errW_some] <;> rfl), by repeat (first | (with_reducible first | exact HB.out | apply below_alloc | apply pw_below_drewN | apply below_drew1 | refine below_set ?_ GE448.out | refine below_set ?_ GE449.out) | exact HB.out)⟩
     ·replace c9 := Bool.eq_false_iff.mpr c9
      subst c9
      have H1 : (spec_l08Within.l0 k1 a0 (wrap64 (x8_1 + 1)) a1_0 a1_1 a1_2 l1_3 a2_0 a2_1 a2_2) = some (r1, r2) := by rw [if_neg (show ¬ (false = true) by decide)] at H; exact H
      clear H
      have H := H1
      clear H1
      have H' := Aside0.mk H
      clear H
      have hnb15 := NB448_449.out
      have hnc15 := NB449_448.out
      have hcz16_0 : wr.cell? ⟨gb448, 0, none⟩ = some (.int .i64 a1_0) := cz_ BK448 0
      have hcz16_1 : wr.cell? ⟨gb448, 1, none⟩ = some (.int .i64 a1_1) := cz_ BK448 1
      have hcz16_2 : wr.cell? ⟨gb448, 2, none⟩ = some (.int .i64 a1_2) := cz_ BK448 2
      have hcz16_3 : wr.cell? ⟨gb448, 3, none⟩ = some (.slice A1_3 l1_3.length c1_3) := cz_ BK448 3
      have hfz16_0 := fz_ BK448 0
      have hfz16_1 := fz_ BK448 1
      have hfz16_2 := fz_ BK448 2
      have hfz16_3 := fz_ BK448 3
      try go_wp2
      replace BK448 := Aside0.mk (blk_drew BK448.out)
      replace BK449 := Aside0.mk (blk_drew BK449.out)
      replace HB := Aside0.mk (below_drew1 HB.out)
      have p450 : 0 ≤ (x8_1 : Int) := of_decide_eq_true (by first | (with_reducible assumption) | assumption)
      have q450 : x8_1 < (l1_3.length : Int) := of_decide_eq_true (by first | (with_reducible assumption) | assumption)
      obtain ⟨ad450, e450, hx450_0, hx450_1, hx450_2, hx450_3⟩ := at_T63 HR1_3.out x8_1 p450 q450
      have hw450_3 := hx450_3
      have hw450_2 := hx450_2
      have hw450_1 := hx450_1
      have hw450_0 := hx450_0
      cases e450
      replace hx450_0 := clTr HB.out hx450_0
      replace hx450_1 := clTr HB.out hx450_1
      replace hx450_2 := clTr HB.out hx450_2
      replace hx450_3 := clTr HB.out hx450_3
      replace p450 := eq_true p450
      replace q450 := eq_true q450
      refine start_ (n := 9) (S := fun w' => w'.cell? ⟨gb448, 0, none⟩ = some (.int .i64 a1_0) ∧ w'.cell? ⟨gb448, 1, none⟩ = some (.int .i64 a1_1) ∧ w'.cell? ⟨gb448, 2, none⟩ = some (.int .i64 a1_2) ∧ w'.cell? ⟨gb448, 3, none⟩ = some (.slice (some ad450) l1_3.length c1_3) ∧ w'.cell? ⟨gb449, 0, none⟩ = some (.int .i64 a2_0) ∧ w'.cell? ⟨gb449, 1, none⟩ = some (.int .i64 a2_1) ∧ w'.cell? ⟨gb449, 2, none⟩ = some (.int .i64 a2_2) ∧ w'.cell? (ad450.add ((x8_1).toNat * 4)) = some (.int .i64 ((rd_T63 l1_3 x8_1).f0.f0)) ∧ w'.cell? ⟨(ad450.add ((x8_1).toNat * 4)).block, (ad450.add ((x8_1).toNat * 4)).off + 1, none⟩ = some (.int .i64 ((rd_T63 l1_3 x8_1).f0.f1)) ∧ w'.cell? ⟨(ad450.add ((x8_1).toNat * 4)).block, (ad450.add ((x8_1).toNat * 4)).off + 2, none⟩ = some (.int .i64 ((rd_T63 l1_3 x8_1).f0.f2)) ∧ w'.cell? ⟨(ad450.add ((x8_1).toNat * 4)).block, (ad450.add ((x8_1).toNat * 4)).off + 3, none⟩ = some (.int .i64 ((rd_T63 l1_3 x8_1).f1))) (ds := []) (bv_ 9 0) (by kernel_rfl) rfl rfl ⟨(blk_cell BK448.out 0).trans rfl, (blk_cell BK448.out 1).trans rfl, (blk_cell BK448.out 2).trans rfl, (blk_cell BK448.out 3).trans rfl, (blk_cell BK449.out 0).trans rfl, (blk_cell BK449.out 1).trans rfl, (blk_cell BK449.out 2).trans rfl, (clTr HB.out hw450_0 :), (clTr HB.out hw450_1 :), (clTr HB.out hw450_2 :), (clTr HB.out hw450_3 :)⟩ (fun hHeld => ?_); refine with_tabW spec_l08Within.tab4 spec_l08Within.bits4 (fun HT_ HW_ => ?_)
      generalize wr.drew = w17 at BK448 BK449 HB hx450_0 hx450_1 hx450_2 hx450_3 hHeld ⊢
      refine pu_ HT_ 0 (some 16) (bv_ 9 1) ?_
      refine pu_ HT_ 1 (some 17) (bv_ 9 3) ?_
      refine pu_ HT_ 3 (some 19) (bv_ 9 11) ?_
      refine ta_ HT_ HW_ 2 (some 18) (bv_ 9 15) hHeld ?_ (hy := by rintro w' ⟨s0, s1, s2, s3, s4, s5, s6, s7, s8, s9, s10⟩; go_simp; with_reducible rfl)
      refine pu_ HT_ 4 (some 20) (bv_ 9 31) ?_
      refine pu_ HT_ 5 (some 21) (bv_ 9 63) ?_
      refine ta_ HT_ HW_ 6 (some 22) (bv_ 9 127) hHeld ?_ (hy := by rintro w' ⟨s0, s1, s2, s3, s4, s5, s6, s7, s8, s9, s10⟩; go_simp; with_reducible rfl)
      refine ta_ HT_ HW_ 7 (some 23) (bv_ 9 255) hHeld ?_ (hy := by rintro w' ⟨s0, s1, s2, s3, s4, s5, s6, s7, s8, s9, s10⟩; go_simp; with_reducible rfl)
      refine one_ (i := 8) (N := some 24) (bv_ 9 511) rfl rfl (one_of HT_.out (by kernel_rfl)) (by decide) (fun K hK => ?_)
      refine goes_ Try.func54 (by kernel_rfl) rfl #[.int .i64 a0, .agg #[.int .i64 ((rd_T63 l1_3 x8_1).f0.f0), .int .i64 ((rd_T63 l1_3 x8_1).f0.f1), .int .i64 ((rd_T63 l1_3 x8_1).f0.f2)], .agg #[.int .i64 a2_0, .int .i64 a2_1, .int .i64 a2_2]] (by rfl) rfl rfl (by (try simp only [List.map_toArray, List.map_cons, List.map_nil]); first | done | rfl | (simp only [List.length_drop, List.length_take]; rfl)) ?_
      with_reducible refine (spec_l01Holds.calls k1 a0 ((rd_T63 l1_3 x8_1).f0.f0) ((rd_T63 l1_3 x8_1).f0.f1) ((rd_T63 l1_3 x8_1).f0.f2) a2_0 a2_1 a2_2 false _ A8.out).mono ?_
      rintro e w18 ⟨rfl, hb⟩
      refine ⟨_, rfl, ?_⟩
      replace BK448 := bb_ BK448 hb
      replace BK449 := bb_ BK449 hb
      replace HB := bt_ HB hb
      (try clear hb)
      (try clear hb2)
      (try clear hk)
      (try clear hi)
      refine hK.out _ _ ⟨(blk_cell BK448.out 0).trans rfl, (blk_cell BK448.out 1).trans rfl, (blk_cell BK448.out 2).trans rfl, (blk_cell BK448.out 3).trans rfl, (blk_cell BK449.out 0).trans rfl, (blk_cell BK449.out 1).trans rfl, (blk_cell BK449.out 2).trans rfl, (clTr HB.out hw450_0 :), (clTr HB.out hw450_1 :), (clTr HB.out hw450_2 :), (clTr HB.out hw450_3 :)⟩ (fun hHeld => ?_)
      clear hK K
      refine norm_ (a' := ?_) ?_ ?_
      rotate_left
      ·show Act.put _ (some 24) _ = _
       simp only [Act.put, lstS, lstZ, lstC, i64_w, i32_w]
       rfl
      refine done_ (done_of HT_.out (by kernel_rfl)) ?_
      try go_wp2
      go_roundg k1
      case measure => have := HK1.out; omega
      case rel => exact ⟨(wrap64 (x8_1 + 1)), (by first | rfl | (simp; done) | (simp [*]; done) | (simp [wrap64]; done)), H', ⟨by have := HK1.out; omega⟩, bl_ BK448, bl_ BK449, bw_ HB⟩
    ·rw [if_neg c7] at H
     exact absurd H (by simp)
   ·rw [if_neg c6] at H
    have c6b0 : decide (x8_1 < (l1_3.length : Int)) = false := decide_eq_false c6
    clear c6
    simp only [Option.some.injEq, Prod.mk.injEq] at H
    obtain ⟨rfl, rfl⟩ := H
    have hnb19 := NB448_449.out
    have hnc19 := NB449_448.out
    have hcz20_0 : wr.cell? ⟨gb448, 0, none⟩ = some (.int .i64 a1_0) := cz_ BK448 0
    have hcz20_1 : wr.cell? ⟨gb448, 1, none⟩ = some (.int .i64 a1_1) := cz_ BK448 1
    have hcz20_2 : wr.cell? ⟨gb448, 2, none⟩ = some (.int .i64 a1_2) := cz_ BK448 2
    have hcz20_3 : wr.cell? ⟨gb448, 3, none⟩ = some (.slice A1_3 l1_3.length c1_3) := cz_ BK448 3
    have hfz20_0 := fz_ BK448 0
    have hfz20_1 := fz_ BK448 1
    have hfz20_2 := fz_ BK448 2
    have hfz20_3 := fz_ BK448 3
    go_wp2
    go_ret2
    exact ⟨by first | rfl | (simp [errW_none, errW_some] <;> rfl) | (simp [*, errW_none, errW_some] <;> rfl), by repeat (first | (with_reducible first | exact HB.out | apply below_alloc | apply pw_below_drewN | apply below_drew1 | refine below_set ?_ GE448.out | refine below_set ?_ GE449.out) | exact HB.out)⟩
end Go.Proofs.Ytoiailmmgfokjaa.QC
