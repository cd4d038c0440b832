-- Written by a program of this session out of Lean's own print of the loaded program; Lean checks it.
import Derived.Test.YtbldceikdajdlaaQCx5
import Derived.Test.YtbldceikdajdlaaQCx22
import Derived.Test.YtbldceikdajdlaaQCx27
import Derived.Test.YtbldceikdajdlaaQCx30
import Derived.Test.YtbldceikdajdlaaQCx52
namespace Go.Proofs.Ytbldceikdajdlaa.QC
open Go.RowKit Go.Proofs.YtbldceikdajdlaaW.PrintWords Go.Proofs.YtbldceikdajdlaaW.PrintLast Go.Proofs.YtbldceikdajdlaaW.PrintMore
attribute [local go_sem] isSome_setCell max2_int min2_int max_two min_two max_three min_three max_four min_four   -- for this text's walks alone
set_option linter.unusedVariables false
set_option linter.unusedSimpArgs false

/-! ### impl_DigitMeasure: function 10 -/
mutual
def impl_DigitMeasure.j0 : Nat → Int → Int → List Int → Bool → Int → Int → Int → Option (Int × Int × Int × (List (S52)) × Int)
 | 0, _, _, _, _, _, _, _ => none
 | k + 1, x0, x2, x3, x24, x283000, x283001, x283002 => if x24 = true then (some (0, 0, 0, ([] : List (S52)), 2)) else ((impl_power.f k x0 x2).bind fun t286 => (if t286 > 64 then (some (0, 0, 0, ([] : List (S52)), 3)) else ((impl_isLevel.f (wrap64 (x283000 + x2))).bind fun t287 => (if t287 = true then (impl_DigitMeasure.l0 k x0 x3 (([(⟨(⟨x283000, x283001, x283002⟩ : S25), 1⟩ : S52)] : List (S52))) x2 0 x283000 x283001 x283002) else (some (0, 0, 0, ([] : List (S52)), 3))))))
def impl_DigitMeasure.l0 : Nat → Int → List Int → List (S52) → Int → Int → Int → Int → Int → Option (Int × Int × Int × (List (S52)) × Int)
 | 0, _, _, _, _, _, _, _, _ => none
 | k + 1, x0, x3, x10, x60, x61, x283000, x283001, x283002 => if x61 < x60 then (impl_DigitMeasure.l1 k x0 x3 (([] : List (S52))) x60 x61 x10 (x10.length : Int) 0 x283000 x283001 x283002) else ((impl_sorted.f k x0 x283000 x283001 x283002 x10).bind fun bt291 => (some (bt291.1, bt291.2.1, bt291.2.2.1, bt291.2.2.2, 0)))
def impl_DigitMeasure.l1 : Nat → Int → List Int → List (S52) → Int → Int → List (S52) → Int → Int → Int → Int → Int → Option (Int × Int × Int × (List (S52)) × Int)
 | 0, _, _, _, _, _, _, _, _, _, _, _ => none
 | k + 1, x0, x3, x11, x60, x61, x64, x65, x66, x283000, x283001, x283002 => if x66 < x65 then (if 0 ≤ x66 then (if x66 < (x64.length : Int) then (impl_DigitMeasure.l2 k x0 x3 x11 x60 x61 x64 x65 x66 x3 (x3.length : Int) 0 x283000 x283001 x283002 ((rd_T52 x64 x66).f0.f0) ((rd_T52 x64 x66).f0.f1) ((rd_T52 x64 x66).f0.f2) ((rd_T52 x64 x66).f1)) else (none)) else (none)) else (impl_DigitMeasure.l0 k x0 x3 x11 x60 (wrap64 (x61 + 1)) x283000 x283001 x283002)
def impl_DigitMeasure.l2 : Nat → Int → List Int → List (S52) → Int → Int → List (S52) → Int → Int → List Int → Int → Int → Int → Int → Int → Int → Int → Int → Int → Option (Int × Int × Int × (List (S52)) × Int)
 | 0, _, _, _, _, _, _, _, _, _, _, _, _, _, _, _, _, _, _ => none
 | k + 1, x0, x3, x11, x60, x61, x64, x65, x66, x70, x71, x72, x283000, x283001, x283002, x302000, x302001, x302002, x302003 => if x72 < x71 then (if 0 ≤ x72 then (if x72 < (x70.length : Int) then ((impl_child.f k x0 x302000 x302001 x302002 x72).bind fun bt303 => ((impl_isWeight.f k (([wrap64 (x302003 * (rd x70 x72))] : List Int))).bind fun t311 => (if t311 = true then (if x11.length < 4398046511104 then (impl_DigitMeasure.l2 k x0 x3 (x11 ++ [(⟨(⟨bt303.1, bt303.2.1, bt303.2.2.1⟩ : S25), wrap64 (x302003 * (rd x70 x72))⟩ : S52)]) x60 x61 x64 x65 x66 x70 x71 (wrap64 (x72 + 1)) x283000 x283001 x283002 x302000 x302001 x302002 x302003) else (none)) else (some (0, 0, 0, ([] : List (S52)), 3))))) else (none)) else (none)) else (impl_DigitMeasure.l1 k x0 x3 x11 x60 x61 x64 x65 (wrap64 (x66 + 1)) x283000 x283001 x283002)
end
def impl_DigitMeasure.f (k : Nat) (a0 : Int) (a1_0 : Int) (a1_1 : Int) (a1_2 : Int) (a2 : Int) (l3 : List Int) : Option (Int × Int × Int × (List (S52)) × Int) := (impl_IsBall.f k a0 a1_0 a1_1 a1_2).bind fun t284 => (if t284 = true then (if a2 < 0 then (impl_DigitMeasure.j0 k a0 a2 l3 true a1_0 a1_1 a1_2) else (if a2 > 6 then (impl_DigitMeasure.j0 k a0 a2 l3 true a1_0 a1_1 a1_2) else (if (l3.length : Int) = a0 then ((impl_isWeight.f k l3).bind fun t285 => (impl_DigitMeasure.j0 k a0 a2 l3 (!t285) a1_0 a1_1 a1_2)) else (impl_DigitMeasure.j0 k a0 a2 l3 true a1_0 a1_1 a1_2)))) else (some (0, 0, 0, ([] : List (S52)), 1)))
set_option maxHeartbeats 8000000 in
set_option maxRecDepth 100000 in
theorem impl_DigitMeasure.calls (k : Nat) (a0 : Int) (a1_0 : Int) (a1_1 : Int) (a1_2 : Int) (a2 : Int) (A3 : Option Addr) (c3 : Nat) (l3 : List Int) (r1 : Int) (r2 : Int) (r3 : Int) (r4 : List (S52)) (r5 : Int) (w : World) (hr3 : Kd.C (Kd.int .i64) w A3 l3.length l3) (hc3 : l3.length ≤ c3) (h : impl_DigitMeasure.f k a0 a1_0 a1_1 a1_2 a2 l3 = some (r1, r2, r3, r4, r5)) :
  Calls Try.prog 10 #[.int .i64 a0, .agg #[.int .i64 a1_0, .int .i64 a1_1, .int .i64 a1_2], .int .i64 a2, .slice A3 l3.length c3] w fun e w' => ∃ v3_ : Value, e = .returned (.tuple #[.agg #[.int .i64 r1, .int .i64 r2, .int .i64 r3, v3_], .int .i64 r5]) ∧ Kd.R k52 52 w' w.heap.size (fun _ => True) v3_ r4 ∧ Below w.heap.size w w' := by
 have hu25 := Try.underlying25
 have hu28 := Try.underlying28
 have hu52 := Try.underlying52
 have HR3 := Aside0.mk hr3
 have HC3 := Aside0.mk hc3
 clear hr3 hc3
 have HB := Aside0.mk (Below.refl w.heap.size w)
 have H : ((impl_IsBall.f k a0 a1_0 a1_1 a1_2).bind fun t284 => (if t284 = true then (if a2 < 0 then (impl_DigitMeasure.j0 k a0 a2 l3 true a1_0 a1_1 a1_2) else (if a2 > 6 then (impl_DigitMeasure.j0 k a0 a2 l3 true a1_0 a1_1 a1_2) else (if (l3.length : Int) = a0 then ((impl_isWeight.f k l3).bind fun t285 => (impl_DigitMeasure.j0 k a0 a2 l3 (!t285) a1_0 a1_1 a1_2)) else (impl_DigitMeasure.j0 k a0 a2 l3 true a1_0 a1_1 a1_2)))) else (some (0, 0, 0, ([] : List (S52)), 1)))) = some (r1, r2, r3, r4, r5) := h
 clear h
 replace H := Option.bind_eq_some_iff.mp H
 obtain ⟨t284, A50, H⟩ := H
 have A5 := Aside0.mk A50
 clear A50
 by_cases c6 : t284 = true
 ·subst c6
  have H1 : (if a2 < 0 then (impl_DigitMeasure.j0 k a0 a2 l3 true a1_0 a1_1 a1_2) else (if a2 > 6 then (impl_DigitMeasure.j0 k a0 a2 l3 true a1_0 a1_1 a1_2) else (if (l3.length : Int) = a0 then ((impl_isWeight.f k l3).bind fun t285 => (impl_DigitMeasure.j0 k a0 a2 l3 (!t285) a1_0 a1_1 a1_2)) else (impl_DigitMeasure.j0 k a0 a2 l3 true a1_0 a1_1 a1_2)))) = some (r1, r2, r3, r4, r5) := by rw [if_pos rfl] at H; exact H
  clear H
  have H := H1
  clear H1
  have HC7 := Aside0.mk H
  clear H
  go_enter Try.func10, Try.ntmps10
  go_upto_region 3 with (first | ((with_reducible refine gate_dst (N := 5) rfl ?_); (try (refine gate_guard (by rfl) ?_; dsimp only)); refine bx_ 5 #[.int .i64 a1_0, .int .i64 a1_1, .int .i64 a1_2] 25 ?_; intro gb282 hg w8 hbox hb; have BK282 := Aside0.mk (hbox); have GW282 := bs_ HB hg; have GE282 := bs_ HB hg; replace HB := bt_ HB hb; clear hb hbox hg) | ((with_reducible refine gate_dst (N := 8) rfl ?_); (try (refine gate_guard (by rfl) ?_; dsimp only)); refine bx_ 8 #[.int .i64 0, .int .i64 0, .int .i64 0, .slice none 0 0] 28 ?_; intro gb283 hg w9 hbox hb; have BK283 := Aside0.mk (hbox); have GW283 := bs_ HB hg; have GE283 := bs_ HB hg; have NB282_283 := bm_ BK282 hg; have NB283_282 := bn_ BK282 hg; replace BK282 := bb_ BK282 hb; replace HB := bt_ HB hb; clear hb hbox hg; have hnb10 := NB282_283.out; have hnc10 := NB283_282.out; have hcz11_0 : w9.cell? ⟨gb282, 0, none⟩ = some (.int .i64 a1_0) := cz_ BK282 0; have hcz11_1 : w9.cell? ⟨gb282, 1, none⟩ = some (.int .i64 a1_1) := cz_ BK282 1; have hcz11_2 : w9.cell? ⟨gb282, 2, none⟩ = some (.int .i64 a1_2) := cz_ BK282 2; have hfz11_0 := fz_ BK282 0; have hfz11_1 := fz_ BK282 1; have hfz11_2 := fz_ BK282 2) | ((with_reducible refine gate_callee (f := 28) rfl ?_); refine ge_ 21 Try.func28 #[.int .i64 a0, .agg #[.int .i64 a1_0, .int .i64 a1_1, .int .i64 a1_2]] ?_; (with_reducible refine (impl_IsBall.calls k a0 a1_0 a1_1 a1_2 true _ A5.out).mono ?_); rintro e w12 ⟨rfl, hb⟩; refine ⟨_, rfl, ?_⟩; replace BK282 := bb_ BK282 hb; replace BK283 := bb_ BK283 hb; replace HB := bt_ HB hb; (try clear hb); (try clear hb2); (try clear hk); (try clear hi)))
  (try simp only [Act.put, lstS, lstZ, lstC])
  go_cut [24] (fun v24 wc => ∃ (kq : Nat) (x24_6 : Bool), v24 = .bool x24_6 ∧ Aside0 (impl_DigitMeasure.j0 kq a0 a2 l3 x24_6 a1_0 a1_1 a1_2 = some (r1, r2, r3, r4, r5)) ∧ Aside0 (kq ≤ k) ∧ Aside0 (wc.heap[gb282]? = some (.cells #[.int .i64 a1_0, .int .i64 a1_1, .int .i64 a1_2] 25 (0, 0))) ∧ Aside0 (wc.heap[gb283]? = some (.cells #[.int .i64 0, .int .i64 0, .int .i64 0, (.slice none 0 0)] 28 (0, 0))) ∧ Aside0 (Below w.heap.size w wc))
  case first =>
   have H := HC7.out
   clear HC7
   by_cases c13 : a2 < 0
   ·rw [if_pos c13] at H
    have c13b0 : decide (a2 < 0) = true := decide_eq_true c13
    clear c13
    (first | rw [c13b0] | (simp only [i64_w, i32_w]; rw [c13b0]) | skip)
    have H' := Aside0.mk H
    clear H
    go_wp2
    go_meet
    case rel => exact ⟨_, (true), (by first | rfl | (simp; done) | (simp [*]; done) | (simp [wrap64]; done)), H', ⟨by first | omega | exact Nat.le_refl _⟩, bl_ BK282, bl_ BK283, bw_ HB⟩
   ·rw [if_neg c13] at H
    have c13b0 : decide (a2 < 0) = false := decide_eq_false c13
    clear c13
    (first | rw [c13b0] | (simp only [i64_w, i32_w]; rw [c13b0]) | skip)
    by_cases c14 : a2 > 6
    ·rw [if_pos c14] at H
     have c14b0 : decide (6 < a2) = true := decide_eq_true c14
     clear c14
     have H' := Aside0.mk H
     clear H
     go_wp2
     go_meet
     case rel => exact ⟨_, (true), (by first | rfl | (simp; done) | (simp [*]; done) | (simp [wrap64]; done)), H', ⟨by first | omega | exact Nat.le_refl _⟩, bl_ BK282, bl_ BK283, bw_ HB⟩
    ·rw [if_neg c14] at H
     have c14b0 : decide (6 < a2) = false := decide_eq_false c14
     clear c14
     by_cases c15 : (l3.length : Int) = a0
     ·rw [if_pos c15] at H
      have c15b0 : ((l3.length : Int) == a0) = true := beq_iff_eq.mpr c15
      have c15b1 : ((l3.length : Int) != a0) = false := bne_eq_false_iff_eq.mpr c15
      clear c15
      replace H := Option.bind_eq_some_iff.mp H
      obtain ⟨t285, A160, H⟩ := H
      have A16 := Aside0.mk A160
      clear A160
      have H' := Aside0.mk H
      clear H
      go_wp2_with (first | (go_at_call 29; (with_reducible refine (impl_isWeight.calls k _ _ l3 t285 _ ?side1 ?side2 A16.out).mono ?_); (case side1 => repeat (first | exact (Kd.C_below HR3.out (bw_ HB).out) | (with_reducible refine Kd.C_alloc ?_ _) | (with_reducible refine Kd.C_drewN ?_ _) | (with_reducible refine Kd.C_drew ?_))); (case side2 => exact HC3.out); rintro e w' ⟨rfl, ⟨nd, rfl⟩⟩))
      go_meet
      case rel => exact ⟨_, (!t285), (by first | rfl | (simp; done) | (simp [*]; done) | (simp [wrap64]; done)), H', ⟨by first | omega | exact Nat.le_refl _⟩, bl_ BK282, bl_ BK283, bw_ HB⟩
     ·rw [if_neg c15] at H
      have c15b0 : ((l3.length : Int) == a0) = false := beq_eq_false_iff_ne.mpr c15
      have c15b1 : ((l3.length : Int) != a0) = true := bne_iff_ne.mpr c15
      have H' := Aside0.mk H
      clear H
      go_wp2
      go_meet
      case rel => exact ⟨_, (true), (by first | rfl | (simp; done) | (simp [*]; done) | (simp [wrap64]; done)), H', ⟨by first | omega | exact Nat.le_refl _⟩, bl_ BK282, bl_ BK283, bw_ HB⟩
  case rest =>
   clear HC7
   try clear c1
   try clear c2
   try clear p2
   try clear c3
   try clear c6
   try clear c10
   try clear c13
   try clear c13b0
   try clear c14
   try clear c14b0
   try clear c15
   try clear c15b0
   try clear c15b1
   try clear hcz11_0
   try clear hcz11_1
   try clear hcz11_2
   try clear hfz11_0
   try clear hfz11_1
   try clear hfz11_2
   obtain ⟨kq, x24_6, rfl, HA, HJ6, BK282, BK283, HB⟩ := hcut
   cases kq with
   | zero => exact absurd HA.out (by simp [impl_DigitMeasure.j0])
   | succ kj6 =>
    have H := HA.out
    clear HA
    simp only [impl_DigitMeasure.j0] at H
    by_cases c17 : x24_6 = true
    ·subst c17
     have H1 : (some (0, 0, 0, ([] : List (S52)), 2)) = some (r1, r2, r3, r4, r5) := by rw [if_pos rfl] at H; exact H
     clear H
     have H := H1
     clear H1
     simp only [Option.some.injEq, Prod.mk.injEq] at H
     obtain ⟨rfl, rfl, rfl, rfl, rfl⟩ := H
     have hnb18 := NB283_282.out
     have hnc18 := NB282_283.out
     have hcz19_0 : wc.cell? ⟨gb283, 0, none⟩ = some (.int .i64 0) := cz_ BK283 0
     have hcz19_1 : wc.cell? ⟨gb283, 1, none⟩ = some (.int .i64 0) := cz_ BK283 1
     have hcz19_2 : wc.cell? ⟨gb283, 2, none⟩ = some (.int .i64 0) := cz_ BK283 2
     have hcz19_3 : wc.cell? ⟨gb283, 3, none⟩ = some (.slice none 0 0) := cz_ BK283 3
     have hfz19_0 := fz_ BK283 0
     have hfz19_1 := fz_ BK283 1
     have hfz19_2 := fz_ BK283 2
     have hfz19_3 := fz_ BK283 3
     go_wp2
     refine bodyPost_ret (results_ct rfl _ _ gb283 28 #[.int .i64 0, .int .i64 0, .int .i64 0, .slice none 0 0] (0, 0) _ rfl (by (with_reducible repeat first | apply blk_drewN | apply blk_drew | apply blk_alloc); refine blk_put (cs := #[.int .i64 0, .int .i64 0, .int .i64 0, .slice none 0 0]) ?_ 3 _ rfl; (with_reducible repeat first | apply blk_drewN | apply blk_drew | apply blk_alloc); refine blk_put (cs := #[.int .i64 0, .int .i64 0, .int .i64 0, .slice none 0 0]) ?_ 2 _ rfl; (with_reducible repeat first | apply blk_drewN | apply blk_drew | apply blk_alloc); refine blk_put (cs := #[.int .i64 0, .int .i64 0, .int .i64 0, .slice none 0 0]) ?_ 1 _ rfl; (with_reducible repeat first | apply blk_drewN | apply blk_drew | apply blk_alloc); refine blk_put (cs := #[.int .i64 0, .int .i64 0, .int .i64 0, .slice none 0 0]) ?_ 0 _ rfl; (with_reducible repeat first | apply blk_drewN | apply blk_drew | apply blk_alloc); exact BK283.out) Try.underlying28 rfl (by kernel_rfl)) rfl ?_
     exact ⟨_, by first | rfl | (simp [errW_none, errW_some] <;> rfl) | (simp [*, errW_none, errW_some] <;> rfl), by first | exact Kd.R_nil _ _ _ _ _ | exact Kd.N_nil _ _ _ _ _ | exact Kd.V_nil _ _ _ _ _ | exact Kd.Q_nil _ _ _ _ _ | exact Kd.S_nil _ _ _ _ _, by repeat (first | (with_reducible first | exact HB.out | apply below_alloc | apply pw_below_drewN | apply below_drew1 | refine below_set ?_ GE282.out | refine below_set ?_ GE283.out) | exact HB.out)⟩
    ·replace c17 := Bool.eq_false_iff.mpr c17
     subst c17
     have H1 : ((impl_power.f kj6 a0 a2).bind fun t286 => (if t286 > 64 then (some (0, 0, 0, ([] : List (S52)), 3)) else ((impl_isLevel.f (wrap64 (a1_0 + a2))).bind fun t287 => (if t287 = true then (impl_DigitMeasure.l0 kj6 a0 l3 (([(⟨(⟨a1_0, a1_1, a1_2⟩ : S25), 1⟩ : S52)] : List (S52))) a2 0 a1_0 a1_1 a1_2) else (some (0, 0, 0, ([] : List (S52)), 3)))))) = some (r1, r2, r3, r4, r5) := by rw [if_neg (show ¬ (false = true) by decide)] at H; exact H
     clear H
     have H := H1
     clear H1
     replace H := Option.bind_eq_some_iff.mp H
     obtain ⟨t286, A200, H⟩ := H
     have A20 := Aside0.mk A200
     clear A200
     by_cases c21 : t286 > 64
     ·rw [if_pos c21] at H
      have c21b0 : decide (64 < t286) = true := decide_eq_true c21
      clear c21
      simp only [Option.some.injEq, Prod.mk.injEq] at H
      obtain ⟨rfl, rfl, rfl, rfl, rfl⟩ := H
      go_wp2_with (first | ((with_reducible refine gate_callee (f := 30) rfl ?_); refine ge_ 46 Try.func30 #[.int .i64 a0, .int .i64 a2] ?_; (with_reducible refine (impl_power.calls kj6 a0 a2 t286 _ A20.out).mono ?_); rintro e w' ⟨rfl, ⟨nd, rfl⟩⟩; refine ⟨_, rfl, ?_⟩; (try (rw [drewN_self wc]; generalize hq_ : World.drewN wc _ = wc; have n0_ : Aside0 (wc.heap[gb282]? = some (.cells #[.int .i64 a1_0, .int .i64 a1_1, .int .i64 a1_2] 25 (0, 0))) := ⟨by rw [← hq_]; exact (bl_ BK282).out⟩; have n1_ : Aside0 (wc.heap[gb283]? = some (.cells #[.int .i64 0, .int .i64 0, .int .i64 0, .slice none 0 0] 28 (0, 0))) := ⟨by rw [← hq_]; exact (bl_ BK283).out⟩; have n2_ : Aside0 (Below w.heap.size w wc) := ⟨by rw [← hq_]; exact (bw_ HB).out⟩; clear BK282 BK283 HB hq_; have BK282 := n0_; have BK283 := n1_; have HB := n2_; clear n0_ n1_ n2_)); have hnb22 := NB283_282.out; have hnc22 := NB282_283.out; have hcz23_0 : wc.cell? ⟨gb283, 0, none⟩ = some (.int .i64 0) := cz_ BK283 0; have hcz23_1 : wc.cell? ⟨gb283, 1, none⟩ = some (.int .i64 0) := cz_ BK283 1; have hcz23_2 : wc.cell? ⟨gb283, 2, none⟩ = some (.int .i64 0) := cz_ BK283 2; have hcz23_3 : wc.cell? ⟨gb283, 3, none⟩ = some (.slice none 0 0) := cz_ BK283 3; have hfz23_0 := fz_ BK283 0; have hfz23_1 := fz_ BK283 1; have hfz23_2 := fz_ BK283 2; have hfz23_3 := fz_ BK283 3))
      refine bodyPost_ret (results_ct rfl _ _ gb283 28 #[.int .i64 0, .int .i64 0, .int .i64 0, .slice none 0 0] (0, 0) _ rfl (by (with_reducible repeat first | apply blk_drewN | apply blk_drew | apply blk_alloc); refine blk_put (cs := #[.int .i64 0, .int .i64 0, .int .i64 0, .slice none 0 0]) ?_ 3 _ rfl; (with_reducible repeat first | apply blk_drewN | apply blk_drew | apply blk_alloc); refine blk_put (cs := #[.int .i64 0, .int .i64 0, .int .i64 0, .slice none 0 0]) ?_ 2 _ rfl; (with_reducible repeat first | apply blk_drewN | apply blk_drew | apply blk_alloc); refine blk_put (cs := #[.int .i64 0, .int .i64 0, .int .i64 0, .slice none 0 0]) ?_ 1 _ rfl; (with_reducible repeat first | apply blk_drewN | apply blk_drew | apply blk_alloc); refine blk_put (cs := #[.int .i64 0, .int .i64 0, .int .i64 0, .slice none 0 0]) ?_ 0 _ rfl; (with_reducible repeat first | apply blk_drewN | apply blk_drew | apply blk_alloc); exact BK283.out) Try.underlying28 rfl (by kernel_rfl)) rfl ?_
      exact ⟨_, by first | rfl | (simp [errW_none, errW_some] <;> rfl) | (simp [*, errW_none, errW_some] <;> rfl), by first | exact Kd.R_nil _ _ _ _ _ | exact Kd.N_nil _ _ _ _ _ | exact Kd.V_nil _ _ _ _ _ | exact Kd.Q_nil _ _ _ _ _ | exact Kd.S_nil _ _ _ _ _, by repeat (first | (with_reducible first | exact HB.out | apply below_alloc | apply pw_below_drewN | apply below_drew1 | refine below_set ?_ GE282.out | refine below_set ?_ GE283.out) | exact HB.out)⟩
     ·rw [if_neg c21] at H
      have c21b0 : decide (64 < t286) = false := decide_eq_false c21
      clear c21
      replace H := Option.bind_eq_some_iff.mp H
      obtain ⟨t287, A240, H⟩ := H
      have A24 := Aside0.mk A240
      clear A240
      by_cases c25 : t287 = true
      ·subst c25
       have H1 : (impl_DigitMeasure.l0 kj6 a0 l3 (([(⟨(⟨a1_0, a1_1, a1_2⟩ : S25), 1⟩ : S52)] : List (S52))) a2 0 a1_0 a1_1 a1_2) = some (r1, r2, r3, r4, r5) := by rw [if_pos rfl] at H; exact H
       clear H
       have H := H1
       clear H1
       obtain ⟨y288, hy288⟩ : ∃ y_ : List (S52), y_ = (([(⟨(⟨a1_0, a1_1, a1_2⟩ : S25), 1⟩ : S52)] : List (S52))) := ⟨_, rfl⟩
       replace H : (impl_DigitMeasure.l0 kj6 a0 l3 y288 a2 0 a1_0 a1_1 a1_2) = some (r1, r2, r3, r4, r5) := by first | (rw [hy288]; with_reducible exact H) | (have H2_ := (Option.bind_some _ _).symm.trans H; rw [hy288]; with_reducible exact H2_) | (have H2_ := (Option.bind_some _ _).symm.trans H; with_reducible exact H2_) | with_reducible exact H | (rw [hy288]; exact H) | exact H
       have Ny288 := Aside0.mk hy288
       clear hy288
       have H' := Aside0.mk H
       clear H
       go_wp2_with (first | ((with_reducible refine gate_callee (f := 30) rfl ?_); refine ge_ 46 Try.func30 #[.int .i64 a0, .int .i64 a2] ?_; (with_reducible refine (impl_power.calls kj6 a0 a2 t286 _ A20.out).mono ?_); rintro e w' ⟨rfl, ⟨nd, rfl⟩⟩; refine ⟨_, rfl, ?_⟩; have hnb26 := NB282_283.out; have hnc26 := NB283_282.out; have hcz27_0 : wc.cell? ⟨gb282, 0, none⟩ = some (.int .i64 a1_0) := cz_ BK282 0; have hcz27_1 : wc.cell? ⟨gb282, 1, none⟩ = some (.int .i64 a1_1) := cz_ BK282 1; have hcz27_2 : wc.cell? ⟨gb282, 2, none⟩ = some (.int .i64 a1_2) := cz_ BK282 2; have hfz27_0 := fz_ BK282 0; have hfz27_1 := fz_ BK282 1; have hfz27_2 := fz_ BK282 2) | (go_at_call 31; (with_reducible refine (impl_isLevel.calls (wrap64 (a1_0 + a2)) true _ A24.out).mono ?_); rintro e w' ⟨rfl, ⟨nd, rfl⟩⟩) | ((with_reducible refine gate_dst (N := 59) rfl ?_); (try (refine gate_guard (by rfl) ?_; dsimp only)); refine Kd.R_lit k52 _ 52 ?hg (N := 59) ?hd (xs := ([(⟨(⟨a1_0, a1_1, a1_2⟩ : S25), 1⟩ : S52)] : List (S52))) (inner := [.int .i64 a1_0, .int .i64 a1_1, .int .i64 a1_2, .int .i64 1]) (ok := fun _ => True) (okp := fun _ => True) ?hr ?hp (fun _ hk => hk) trivial (Below.refl _ _) (Nat.le_refl _) (by simp) ?_; (case hd => rfl); (case hg => rfl); (case hr => first | (go_simp; done) | (go_simp; rfl)); (case hp => exact (Reps.c4 (show Kd.M k52 _ _ _ (⟨(⟨a1_0, a1_1, a1_2⟩ : S25), 1⟩ : S52) [.int .i64 a1_0, .int .i64 a1_1, .int .i64 a1_2, .int .i64 1] from (k52_mkM _ _ _ (⟨(⟨a1_0, a1_1, a1_2⟩ : S25), 1⟩ : S52) )) (Reps.none _ _))); intro v289 w28 ho29 hb hg_ hnew_; clear hg_ hnew_; (first | rw [← Ny288.out] at ho29 | (simp only [Int.reduceToNat] at ho29; rw [← Ny288.out] at ho29)); have HO290 := Aside0.mk (Kd.R_lower ho29 (below_size (bw_ HB).out)); replace BK282 := bb_ BK282 hb; replace BK283 := bb_ BK283 hb; replace HB := bt_ HB hb; clear hb ho29))
       go_loopg [10, 61] kj6 (fun kq v10 v61 w' => ∃ (x10_2 : List (S52)) (x61_2 : Int) (x284000_2 : Int) (x284001_2 : Int) (x284002_2 : Int), v61 = .int .i64 x61_2 ∧ Aside0 (impl_DigitMeasure.l0 kq a0 l3 x10_2 a2 x61_2 a1_0 a1_1 a1_2 = some (r1, r2, r3, r4, r5)) ∧ Aside0 (kq ≤ kj6) ∧ Aside0 (Kd.R k52 52 w' w.heap.size (fun _ => True) v10 x10_2) ∧ Aside0 (w'.heap[gb282]? = some (.cells #[.int .i64 a1_0, .int .i64 a1_1, .int .i64 a1_2] 25 (0, 0))) ∧ Aside0 (w'.heap[gb283]? = some (.cells #[.int .i64 x284000_2, .int .i64 x284001_2, .int .i64 x284002_2, (.slice none 0 0)] 28 (0, 0))) ∧ Aside0 (Below w.heap.size w w'))
       case atStart => exact ⟨(y288), (0), (0), (0), (0), (by first | rfl | (simp; done) | (simp [*]; done) | (simp [wrap64]; done)), H', ⟨Nat.le_refl _⟩, ⟨by (with_reducible repeat (first | apply Kd.R_alloc | apply Kd.R_drewN | apply Kd.R_drew)); exact HO290.out⟩, bl_ BK282, bl_ BK283, bw_ HB⟩
       case round =>
        clear H'
        try clear c1
        try clear c2
        try clear p2
        try clear c3
        try clear c4
        try clear c6
        try clear p6
        try clear c10
        try clear c13
        try clear c13b0
        try clear c14
        try clear c14b0
        try clear c15
        try clear c15b0
        try clear c15b1
        try clear c17
        try clear c18
        try clear c21
        try clear c21b0
        try clear c22
        try clear c25
        try clear c26
        try clear c28
        try clear hcz11_0
        try clear hcz11_1
        try clear hcz11_2
        try clear hcz19_0
        try clear hcz19_1
        try clear hcz19_2
        try clear hcz19_3
        try clear hcz23_0
        try clear hcz23_1
        try clear hcz23_2
        try clear hcz23_3
        try clear hcz27_0
        try clear hcz27_1
        try clear hcz27_2
        try clear hfz11_0
        try clear hfz11_1
        try clear hfz11_2
        try clear hfz19_0
        try clear hfz19_1
        try clear hfz19_2
        try clear hfz19_3
        try clear hfz23_0
        try clear hfz23_1
        try clear hfz23_2
        try clear hfz23_3
        try clear hfz27_0
        try clear hfz27_1
        try clear hfz27_2
        try clear p2
        obtain ⟨x10_2, x61_2, x284000_2, x284001_2, x284002_2, rfl, HA, HK2, HO_10, BK282, BK283, HB⟩ := hrel
        cases gk with
        | zero => exact absurd HA.out (by simp [impl_DigitMeasure.l0])
        | succ k2 =>
         have H := HA.out
         clear HA
         simp only [impl_DigitMeasure.l0] at H
         by_cases c30 : x61_2 < a2
         ·rw [if_pos c30] at H
          have c30b0 : decide (x61_2 < a2) = true := decide_eq_true c30
          clear c30
          obtain ⟨y297, hy297⟩ : ∃ y_ : List (S52), y_ = (([] : List (S52))) := ⟨_, rfl⟩
          replace H : (impl_DigitMeasure.l1 k2 a0 l3 y297 a2 x61_2 x10_2 (x10_2.length : Int) 0 a1_0 a1_1 a1_2) = some (r1, r2, r3, r4, r5) := by first | (rw [hy297]; with_reducible exact H) | (have H2_ := (Option.bind_some _ _).symm.trans H; rw [hy297]; with_reducible exact H2_) | (have H2_ := (Option.bind_some _ _).symm.trans H; with_reducible exact H2_) | with_reducible exact H | (rw [hy297]; exact H) | exact H
          have Ny297 := Aside0.mk hy297
          clear hy297
          have H' := Aside0.mk H
          clear H
          go_wp2_with (first | ((with_reducible refine gate_dst (N := 63) rfl ?_); (try (refine gate_guard (by rfl) ?_; dsimp only)); refine Kd.R_lit k52 _ 52 ?hg (N := 63) ?hd (xs := ([] : List (S52))) (inner := []) (ok := fun _ => True) (okp := fun _ => True) ?hr ?hp (fun _ hk => hk) trivial (Below.refl _ _) (Nat.le_refl _) (by simp) ?_; (case hd => rfl); (case hg => rfl); (case hr => first | (go_simp; done) | (go_simp; rfl)); (case hp => exact (Reps.none _ _)); intro v298 w31 ho32 hb hg_ hnew_; clear hg_ hnew_; (first | rw [← Ny297.out] at ho32 | (simp only [Int.reduceToNat] at ho32; rw [← Ny297.out] at ho32)); have HO299 := Aside0.mk (Kd.R_lower (Kd.R_new' ho32 (Kd.R_lt (ra_ HO_10.out))) (below_size (bw_ HB).out)); replace HO_10 := Aside0.mk (Kd.R_elder' (ra_ HO_10.out) (Kd.R_base ho32) hb); replace BK282 := bb_ BK282 hb; replace BK283 := bb_ BK283 hb; replace HB := bt_ HB hb; clear hb ho32; obtain ⟨Ao33, co33, eo33⟩ := Kd.R_slice HO_10.out; subst eo33))
          go_loopg [11, 66] k2 (fun kq v11 v66 w' => ∃ (x11_3 : List (S52)) (x66_3 : Int) (x284000_3 : Int) (x284001_3 : Int) (x284002_3 : Int), v66 = .int .i64 x66_3 ∧ Aside0 (impl_DigitMeasure.l1 kq a0 l3 x11_3 a2 x61_2 x10_2 (x10_2.length : Int) x66_3 a1_0 a1_1 a1_2 = some (r1, r2, r3, r4, r5)) ∧ Aside0 (kq ≤ k2) ∧ Aside0 (Kd.R k52 52 w' w.heap.size (fun k_ => some k_ ≠ ((.slice Ao33 x10_2.length co33) : Value).ownBlock) v11 x11_3) ∧ Aside0 (Kd.R k52 52 w' w.heap.size (fun k_ => some k_ ≠ (v11 : Value).ownBlock) (.slice Ao33 x10_2.length co33) x10_2) ∧ Aside0 (w'.heap[gb282]? = some (.cells #[.int .i64 a1_0, .int .i64 a1_1, .int .i64 a1_2] 25 (0, 0))) ∧ Aside0 (w'.heap[gb283]? = some (.cells #[.int .i64 x284000_3, .int .i64 x284001_3, .int .i64 x284002_3, (.slice none 0 0)] 28 (0, 0))) ∧ Aside0 (Below w.heap.size w w'))
          case atStart => exact ⟨(y297), (0), (x284000_2), (x284001_2), (x284002_2), (by first | rfl | (simp; done) | (simp [*]; done) | (simp [wrap64]; done)), H', ⟨Nat.le_refl _⟩, ⟨by (with_reducible repeat (first | apply Kd.R_alloc | apply Kd.R_drewN | apply Kd.R_drew)); exact Kd.R_mono HO299.out (fun _ hk => hk.2)⟩, ⟨by (with_reducible repeat (first | apply Kd.R_alloc | apply Kd.R_drewN | apply Kd.R_drew)); exact Kd.R_mono HO_10.out (fun _ hk => hk.2)⟩, bl_ BK282, bl_ BK283, bw_ HB⟩
          case round =>
           clear H'
           try clear c1
           try clear c2
           try clear p2
           try clear c3
           try clear c4
           try clear c6
           try clear p6
           try clear c10
           try clear c13
           try clear c13b0
           try clear c14
           try clear c14b0
           try clear c15
           try clear c15b0
           try clear c15b1
           try clear c17
           try clear c18
           try clear c21
           try clear c21b0
           try clear c22
           try clear c25
           try clear c26
           try clear c28
           try clear c30
           try clear c30b0
           try clear hcz11_0
           try clear hcz11_1
           try clear hcz11_2
           try clear hcz19_0
           try clear hcz19_1
           try clear hcz19_2
           try clear hcz19_3
           try clear hcz23_0
           try clear hcz23_1
           try clear hcz23_2
           try clear hcz23_3
           try clear hcz27_0
           try clear hcz27_1
           try clear hcz27_2
           try clear hfz11_0
           try clear hfz11_1
           try clear hfz11_2
           try clear hfz19_0
           try clear hfz19_1
           try clear hfz19_2
           try clear hfz19_3
           try clear hfz23_0
           try clear hfz23_1
           try clear hfz23_2
           try clear hfz23_3
           try clear hfz27_0
           try clear hfz27_1
           try clear hfz27_2
           try clear p2
           try clear p6
           obtain ⟨x11_3, x66_3, x284000_3, x284001_3, x284002_3, rfl, HA, HK3, HO_11, HO_64, BK282, BK283, HB⟩ := hrel
           cases gk with
           | zero => exact absurd HA.out (by simp [impl_DigitMeasure.l1])
           | succ k3 =>
            have H := HA.out
            clear HA
            simp only [impl_DigitMeasure.l1] at H
            by_cases c34 : x66_3 < (x10_2.length : Int)
            ·rw [if_pos c34] at H
             have c34b0 : decide (x66_3 < (x10_2.length : Int)) = true := decide_eq_true c34
             clear c34
             by_cases c35 : 0 ≤ x66_3
             ·rw [if_pos c35] at H
              have c35b0 : decide (0 ≤ x66_3) = true := decide_eq_true c35
              clear c35
              by_cases c36 : x66_3 < (x10_2.length : Int)
              ·rw [if_pos c36] at H
               have c36b0 : decide (x66_3 < (x10_2.length : Int)) = true := decide_eq_true c36
               clear c36
               have H' := Aside0.mk H
               clear H
               have p300 : 0 ≤ (x66_3 : Int) := of_decide_eq_true (by first | (with_reducible assumption) | assumption)
               have q300 : x66_3 < (x10_2.length : Int) := of_decide_eq_true (by first | (with_reducible assumption) | assumption)
               obtain ⟨ad300, e300, hx300_0, hx300_1, hx300_2, hx300_3⟩ := at_T52 (Kd.R_reads' HO_64.out).2.2 x66_3 p300 q300
               cases e300
               replace p300 := eq_true p300
               replace q300 := eq_true q300
               go_wp2_with (first | ((with_reducible refine gate_dst (N := 13) rfl ?_); (try (refine gate_guard (by rfl) ?_; dsimp only)); refine bx_ 13 #[.int .i64 0, .int .i64 0, .int .i64 0, .int .i64 0] 52 ?_; intro gb301 hg w37 hbox hb; have BK301 := Aside0.mk (hbox); have GW301 := bs_ HB hg; have GE301 := bs_ HB hg; have NB282_301 := bm_ BK282 hg; have NB301_282 := bn_ BK282 hg; have NB283_301 := bm_ BK283 hg; have NB301_283 := bn_ BK283 hg; replace HO_11 := Aside0.mk (Kd.R_below (Kd.R_elderB (ra_ HO_11.out) gb301 (Nat.le_of_eq hg.symm)) hb); replace HO_64 := Aside0.mk (Kd.R_below (Kd.R_elderB (ra_ HO_64.out) gb301 (Nat.le_of_eq hg.symm)) hb); replace BK282 := bb_ BK282 hb; replace BK283 := bb_ BK283 hb; replace HB := bt_ HB hb; clear hb hbox hg; have hnb38 := NB301_282.out; have hnc38 := NB282_301.out; have hnb39 := NB301_283.out; have hnc39 := NB283_301.out; have hcz40_0 : w37.cell? ⟨gb301, 0, none⟩ = some (.int .i64 0) := cz_ BK301 0; have hcz40_1 : w37.cell? ⟨gb301, 1, none⟩ = some (.int .i64 0) := cz_ BK301 1; have hcz40_2 : w37.cell? ⟨gb301, 2, none⟩ = some (.int .i64 0) := cz_ BK301 2; have hcz40_3 : w37.cell? ⟨gb301, 3, none⟩ = some (.int .i64 0) := cz_ BK301 3; have hfz40_0 := fz_ BK301 0; have hfz40_1 := fz_ BK301 1; have hfz40_2 := fz_ BK301 2; have hfz40_3 := fz_ BK301 3))
               go_loopg [11, 72] k3 (fun kq v11 v72 w' => ∃ (x11_4 : List (S52)) (x72_4 : Int) (x284000_4 : Int) (x284001_4 : Int) (x284002_4 : Int), v72 = .int .i64 x72_4 ∧ Aside0 (impl_DigitMeasure.l2 kq a0 l3 x11_4 a2 x61_2 x10_2 (x10_2.length : Int) x66_3 l3 (l3.length : Int) x72_4 a1_0 a1_1 a1_2 ((rd_T52 x10_2 x66_3).f0.f0) ((rd_T52 x10_2 x66_3).f0.f1) ((rd_T52 x10_2 x66_3).f0.f2) ((rd_T52 x10_2 x66_3).f1) = some (r1, r2, r3, r4, r5)) ∧ Aside0 (kq ≤ k3) ∧ Aside0 (Kd.R k52 52 w' w.heap.size (fun k_ => some k_ ≠ ((.slice (some ad300) x10_2.length co33) : Value).ownBlock ∧ k_ ≠ gb301) v11 x11_4) ∧ Aside0 (Kd.R k52 52 w' w.heap.size (fun k_ => some k_ ≠ (v11 : Value).ownBlock ∧ k_ ≠ gb301) (.slice (some ad300) x10_2.length co33) x10_2) ∧ Aside0 (w'.heap[gb282]? = some (.cells #[.int .i64 a1_0, .int .i64 a1_1, .int .i64 a1_2] 25 (0, 0))) ∧ Aside0 (w'.heap[gb283]? = some (.cells #[.int .i64 x284000_4, .int .i64 x284001_4, .int .i64 x284002_4, (.slice none 0 0)] 28 (0, 0))) ∧ Aside0 (w'.heap[gb301]? = some (.cells #[.int .i64 ((rd_T52 x10_2 x66_3).f0.f0), .int .i64 ((rd_T52 x10_2 x66_3).f0.f1), .int .i64 ((rd_T52 x10_2 x66_3).f0.f2), .int .i64 ((rd_T52 x10_2 x66_3).f1)] 52 (0, 0))) ∧ Aside0 (Below w.heap.size w w'))
               case atStart => exact ⟨(x11_3), (0), (x284000_3), (x284001_3), (x284002_3), (by first | rfl | (simp; done) | (simp [*]; done) | (simp [wrap64]; done)), H', ⟨Nat.le_refl _⟩, ⟨by (with_reducible repeat (first | apply Kd.R_alloc | apply Kd.R_drewN | apply Kd.R_drew)); exact Kd.R_mono (Kd.R_far (p := ⟨gb301, 3, none⟩) (Kd.R_far (p := ⟨gb301, 2, none⟩) (Kd.R_far (p := ⟨gb301, 1, none⟩) (Kd.R_far (p := ⟨gb301, 0, none⟩) (Kd.R_mono HO_11.out (fun k_ hk => (⟨hk, hk.2⟩ : _ ∧ k_ ≠ gb301))) (fun _ hk => hk.2) (.int .i64 ((rd_T52 x10_2 x66_3).f0.f0))) (fun _ hk => hk.2) (.int .i64 ((rd_T52 x10_2 x66_3).f0.f1))) (fun _ hk => hk.2) (.int .i64 ((rd_T52 x10_2 x66_3).f0.f2))) (fun _ hk => hk.2) (.int .i64 ((rd_T52 x10_2 x66_3).f1))) (fun _ hk => ⟨hk.1.1, hk.1.2⟩)⟩, ⟨by (with_reducible repeat (first | apply Kd.R_alloc | apply Kd.R_drewN | apply Kd.R_drew)); exact Kd.R_mono (Kd.R_far (p := ⟨gb301, 3, none⟩) (Kd.R_far (p := ⟨gb301, 2, none⟩) (Kd.R_far (p := ⟨gb301, 1, none⟩) (Kd.R_far (p := ⟨gb301, 0, none⟩) (Kd.R_mono HO_64.out (fun k_ hk => (⟨hk, hk.2⟩ : _ ∧ k_ ≠ gb301))) (fun _ hk => hk.2) (.int .i64 ((rd_T52 x10_2 x66_3).f0.f0))) (fun _ hk => hk.2) (.int .i64 ((rd_T52 x10_2 x66_3).f0.f1))) (fun _ hk => hk.2) (.int .i64 ((rd_T52 x10_2 x66_3).f0.f2))) (fun _ hk => hk.2) (.int .i64 ((rd_T52 x10_2 x66_3).f1))) (fun _ hk => ⟨hk.1.1, hk.1.2⟩)⟩, fl_ BK282 NB282_301, fl_ BK283 NB283_301, ⟨by (with_reducible repeat first | apply blk_drewN | apply blk_drew | apply blk_alloc); refine blk_put (cs := #[.int .i64 ((rd_T52 x10_2 x66_3).f0.f0), .int .i64 ((rd_T52 x10_2 x66_3).f0.f1), .int .i64 ((rd_T52 x10_2 x66_3).f0.f2), .int .i64 0]) ?_ 3 _ rfl; (with_reducible repeat first | apply blk_drewN | apply blk_drew | apply blk_alloc); refine blk_put (cs := #[.int .i64 ((rd_T52 x10_2 x66_3).f0.f0), .int .i64 ((rd_T52 x10_2 x66_3).f0.f1), .int .i64 0, .int .i64 0]) ?_ 2 _ rfl; (with_reducible repeat first | apply blk_drewN | apply blk_drew | apply blk_alloc); refine blk_put (cs := #[.int .i64 ((rd_T52 x10_2 x66_3).f0.f0), .int .i64 0, .int .i64 0, .int .i64 0]) ?_ 1 _ rfl; (with_reducible repeat first | apply blk_drewN | apply blk_drew | apply blk_alloc); refine blk_put (cs := #[.int .i64 0, .int .i64 0, .int .i64 0, .int .i64 0]) ?_ 0 _ rfl; (with_reducible repeat first | apply blk_drewN | apply blk_drew | apply blk_alloc); exact BK301.out⟩, bw_ HB⟩
               case round =>
                clear H'
                try clear c1
                try clear c2
                try clear p2
                try clear c3
                try clear p3
                try clear q3
                try clear hx3
                try clear c4
                try clear c6
                try clear p6
                try clear c10
                try clear c13
                try clear c13b0
                try clear c14
                try clear c14b0
                try clear c15
                try clear c15b0
                try clear c15b1
                try clear c17
                try clear c18
                try clear c21
                try clear c21b0
                try clear c22
                try clear c25
                try clear c26
                try clear c28
                try clear c30
                try clear c30b0
                try clear p30
                try clear q30
                try clear hx30
                try clear c34
                try clear c34b0
                try clear c35
                try clear c35b0
                try clear c36
                try clear c36b0
                try clear c38
                try clear c39
                try clear hcz11_0
                try clear hcz11_1
                try clear hcz11_2
                try clear hcz19_0
                try clear hcz19_1
                try clear hcz19_2
                try clear hcz19_3
                try clear hcz23_0
                try clear hcz23_1
                try clear hcz23_2
                try clear hcz23_3
                try clear hcz27_0
                try clear hcz27_1
                try clear hcz27_2
                try clear hcz40_0
                try clear hcz40_1
                try clear hcz40_2
                try clear hcz40_3
                try clear hfz11_0
                try clear hfz11_1
                try clear hfz11_2
                try clear hfz19_0
                try clear hfz19_1
                try clear hfz19_2
                try clear hfz19_3
                try clear hfz23_0
                try clear hfz23_1
                try clear hfz23_2
                try clear hfz23_3
                try clear hfz27_0
                try clear hfz27_1
                try clear hfz27_2
                try clear hfz40_0
                try clear hfz40_1
                try clear hfz40_2
                try clear hfz40_3
                try clear hx300_0
                try clear hx300_1
                try clear hx300_2
                try clear hx300_3
                try clear p2
                try clear p300
                try clear p6
                try clear q300
                obtain ⟨x11_4, x72_4, x284000_4, x284001_4, x284002_4, rfl, HA, HK4, HO_11, HO_64, BK282, BK283, BK301, HB⟩ := hrel
                cases gk with
                | zero => exact absurd HA.out (by simp [impl_DigitMeasure.l2])
                | succ k4 =>
                 have H := HA.out
                 clear HA
                 simp only [impl_DigitMeasure.l2] at H
                 by_cases c41 : x72_4 < (l3.length : Int)
                 ·rw [if_pos c41] at H
                  have c41b0 : decide (x72_4 < (l3.length : Int)) = true := decide_eq_true c41
                  clear c41
                  by_cases c42 : 0 ≤ x72_4
                  ·rw [if_pos c42] at H
                   have c42b0 : decide (0 ≤ x72_4) = true := decide_eq_true c42
                   clear c42
                   by_cases c43 : x72_4 < (l3.length : Int)
                   ·rw [if_pos c43] at H
                    have c43b0 : decide (x72_4 < (l3.length : Int)) = true := decide_eq_true c43
                    clear c43
                    replace H := Option.bind_eq_some_iff.mp H
                    obtain ⟨⟨t303, t304, t305, t306⟩, A440, H⟩ := H
                    have A44 := Aside0.mk A440
                    clear A440
                    obtain ⟨y308, hy308⟩ : ∃ y_ : List Int, y_ = (([wrap64 (((rd_T52 x10_2 x66_3).f1) * (rd l3 x72_4))] : List Int)) := ⟨_, rfl⟩
                    replace H : ((impl_isWeight.f k4 y308).bind fun t311 => (if t311 = true then (if x11_4.length < 4398046511104 then (impl_DigitMeasure.l2 k4 a0 l3 (x11_4 ++ [(⟨(⟨t303, t304, t305⟩ : S25), wrap64 (((rd_T52 x10_2 x66_3).f1) * (rd l3 x72_4))⟩ : S52)]) a2 x61_2 x10_2 (x10_2.length : Int) x66_3 l3 (l3.length : Int) (wrap64 (x72_4 + 1)) a1_0 a1_1 a1_2 ((rd_T52 x10_2 x66_3).f0.f0) ((rd_T52 x10_2 x66_3).f0.f1) ((rd_T52 x10_2 x66_3).f0.f2) ((rd_T52 x10_2 x66_3).f1)) else (none)) else (some (0, 0, 0, ([] : List (S52)), 3)))) = some (r1, r2, r3, r4, r5) := by first | (rw [hy308]; with_reducible exact H) | (have H2_ := (Option.bind_some _ _).symm.trans H; rw [hy308]; with_reducible exact H2_) | (have H2_ := (Option.bind_some _ _).symm.trans H; with_reducible exact H2_) | with_reducible exact H | (rw [hy308]; exact H) | exact H
                    have Ny308 := Aside0.mk hy308
                    clear hy308
                    replace H := Option.bind_eq_some_iff.mp H
                    obtain ⟨t311, A450, H⟩ := H
                    have A45 := Aside0.mk A450
                    clear A450
                    by_cases c46 : t311 = true
                    ·subst c46
                     have H1 : (if x11_4.length < 4398046511104 then (impl_DigitMeasure.l2 k4 a0 l3 (x11_4 ++ [(⟨(⟨t303, t304, t305⟩ : S25), wrap64 (((rd_T52 x10_2 x66_3).f1) * (rd l3 x72_4))⟩ : S52)]) a2 x61_2 x10_2 (x10_2.length : Int) x66_3 l3 (l3.length : Int) (wrap64 (x72_4 + 1)) a1_0 a1_1 a1_2 ((rd_T52 x10_2 x66_3).f0.f0) ((rd_T52 x10_2 x66_3).f0.f1) ((rd_T52 x10_2 x66_3).f0.f2) ((rd_T52 x10_2 x66_3).f1)) else (none)) = some (r1, r2, r3, r4, r5) := by rw [if_pos rfl] at H; exact H
                     clear H
                     have H := H1
                     clear H1
                     by_cases c47 : x11_4.length < 4398046511104
                     ·rw [if_pos c47] at H
                      have LMc47 := Aside0.mk c47
                      clear c47
                      obtain ⟨y312, hy312⟩ : ∃ y_ : List (S52), y_ = (x11_4 ++ [(⟨(⟨t303, t304, t305⟩ : S25), wrap64 (((rd_T52 x10_2 x66_3).f1) * (rd l3 x72_4))⟩ : S52)]) := ⟨_, rfl⟩
                      replace H : (impl_DigitMeasure.l2 k4 a0 l3 y312 a2 x61_2 x10_2 (x10_2.length : Int) x66_3 l3 (l3.length : Int) (wrap64 (x72_4 + 1)) a1_0 a1_1 a1_2 ((rd_T52 x10_2 x66_3).f0.f0) ((rd_T52 x10_2 x66_3).f0.f1) ((rd_T52 x10_2 x66_3).f0.f2) ((rd_T52 x10_2 x66_3).f1)) = some (r1, r2, r3, r4, r5) := by first | (rw [hy312]; with_reducible exact H) | (have H2_ := (Option.bind_some _ _).symm.trans H; rw [hy312]; with_reducible exact H2_) | (have H2_ := (Option.bind_some _ _).symm.trans H; with_reducible exact H2_) | with_reducible exact H | (rw [hy312]; exact H) | exact H
                      have Ny312 := Aside0.mk hy312
                      clear hy312
                      have H' := Aside0.mk H
                      clear H
                      have p302 : 0 ≤ (x72_4 : Int) := of_decide_eq_true (by first | (with_reducible assumption) | assumption)
                      have q302 : x72_4 < (l3.length : Int) := of_decide_eq_true (by first | (with_reducible assumption) | assumption)
                      obtain ⟨ad302, e302, hx302_0⟩ := Kd.at_int HR3.out x72_4 p302 q302
                      cases e302
                      replace hx302_0 := clTr HB.out hx302_0
                      replace p302 := eq_true p302
                      replace q302 := eq_true q302
                      have hnb48 := NB301_282.out
                      have hnc48 := NB282_301.out
                      have hnb49 := NB301_283.out
                      have hnc49 := NB283_301.out
                      have hcz50_0 : wr.cell? ⟨gb301, 0, none⟩ = some (.int .i64 ((rd_T52 x10_2 x66_3).f0.f0)) := cz_ BK301 0
                      have hcz50_1 : wr.cell? ⟨gb301, 1, none⟩ = some (.int .i64 ((rd_T52 x10_2 x66_3).f0.f1)) := cz_ BK301 1
                      have hcz50_2 : wr.cell? ⟨gb301, 2, none⟩ = some (.int .i64 ((rd_T52 x10_2 x66_3).f0.f2)) := cz_ BK301 2
                      have hcz50_3 : wr.cell? ⟨gb301, 3, none⟩ = some (.int .i64 ((rd_T52 x10_2 x66_3).f1)) := cz_ BK301 3
                      have hfz50_0 := fz_ BK301 0
                      have hfz50_1 := fz_ BK301 1
                      have hfz50_2 := fz_ BK301 2
                      have hfz50_3 := fz_ BK301 3
                      go_wp2_with (first | ((with_reducible refine gate_callee (f := 32) rfl ?_); refine ge_ 82 Try.func32 #[.int .i64 a0, .agg #[.int .i64 ((rd_T52 x10_2 x66_3).f0.f0), .int .i64 ((rd_T52 x10_2 x66_3).f0.f1), .int .i64 ((rd_T52 x10_2 x66_3).f0.f2)], .int .i64 x72_4] ?_; (with_reducible refine (impl_child.calls k4 a0 ((rd_T52 x10_2 x66_3).f0.f0) ((rd_T52 x10_2 x66_3).f0.f1) ((rd_T52 x10_2 x66_3).f0.f2) x72_4 t303 t304 t305 t306 _ A44.out).mono ?_); rintro e w51 ⟨rfl, hb⟩; refine ⟨_, rfl, ?_⟩; replace HO_11 := Aside0.mk (Kd.R_below (ra_ HO_11.out) hb); replace HO_64 := Aside0.mk (Kd.R_below (ra_ HO_64.out) hb); replace BK282 := bb_ BK282 hb; replace BK283 := bb_ BK283 hb; replace BK301 := bb_ BK301 hb; replace HB := bt_ HB hb; (try clear hb); (try clear hb2); (try clear hk); (try clear hi)) | ((with_reducible refine gate_dst (N := 16) rfl ?_); (try (refine gate_guard (by rfl) ?_; dsimp only)); refine bx_ 16 #[.int .i64 0, .int .i64 0, .int .i64 0] 25 ?_; intro gb307 hg w52 hbox hb; have BK307 := Aside0.mk (hbox); have GW307 := bs_ HB hg; have GE307 := bs_ HB hg; have NB282_307 := bm_ BK282 hg; have NB307_282 := bn_ BK282 hg; have NB283_307 := bm_ BK283 hg; have NB307_283 := bn_ BK283 hg; have NB301_307 := bm_ BK301 hg; have NB307_301 := bn_ BK301 hg; replace HO_11 := Aside0.mk (Kd.R_below (ra_ HO_11.out) hb); replace HO_64 := Aside0.mk (Kd.R_below (ra_ HO_64.out) hb); replace BK282 := bb_ BK282 hb; replace BK283 := bb_ BK283 hb; replace BK301 := bb_ BK301 hb; replace HB := bt_ HB hb; clear hb hbox hg; have hnb53 := NB307_282.out; have hnc53 := NB282_307.out; have hnb54 := NB307_283.out; have hnc54 := NB283_307.out; have hnb55 := NB307_301.out; have hnc55 := NB301_307.out; have hcz56_0 : w52.cell? ⟨gb307, 0, none⟩ = some (.int .i64 0) := cz_ BK307 0; have hcz56_1 : w52.cell? ⟨gb307, 1, none⟩ = some (.int .i64 0) := cz_ BK307 1; have hcz56_2 : w52.cell? ⟨gb307, 2, none⟩ = some (.int .i64 0) := cz_ BK307 2; have hfz56_0 := fz_ BK307 0; have hfz56_1 := fz_ BK307 1; have hfz56_2 := fz_ BK307 2; have hcz57_0 : w52.cell? ⟨gb301, 0, none⟩ = some (.int .i64 ((rd_T52 x10_2 x66_3).f0.f0)) := cz_ BK301 0; have hcz57_1 : w52.cell? ⟨gb301, 1, none⟩ = some (.int .i64 ((rd_T52 x10_2 x66_3).f0.f1)) := cz_ BK301 1; have hcz57_2 : w52.cell? ⟨gb301, 2, none⟩ = some (.int .i64 ((rd_T52 x10_2 x66_3).f0.f2)) := cz_ BK301 2; have hcz57_3 : w52.cell? ⟨gb301, 3, none⟩ = some (.int .i64 ((rd_T52 x10_2 x66_3).f1)) := cz_ BK301 3; have hfz57_0 := fz_ BK301 0; have hfz57_1 := fz_ BK301 1; have hfz57_2 := fz_ BK301 2; have hfz57_3 := fz_ BK301 3) | ((with_reducible refine gate_dst (N := 89) rfl ?_); (try (refine gate_guard (by rfl) ?_; dsimp only)); refine Kd.R_lit (Kd.int .i64) _ 2 ?hg (N := 89) ?hd (xs := ([wrap64 (((rd_T52 x10_2 x66_3).f1) * (rd l3 x72_4))] : List Int)) (inner := [.int .i64 (wrap64 (((rd_T52 x10_2 x66_3).f1) * (rd l3 x72_4)))]) (ok := fun _ => True) (okp := fun _ => True) ?hr ?hp (fun _ hk => hk) trivial (Below.refl _ _) (Nat.le_refl _) (by simp) ?_; (case hd => rfl); (case hg => rfl); (case hr => first | (go_simp; done) | (go_simp; rfl)); (case hp => exact (Reps.one (show Kd.M (Kd.int .i64) _ _ _ (wrap64 (((rd_T52 x10_2 x66_3).f1) * (rd l3 x72_4))) [.int .i64 (wrap64 (((rd_T52 x10_2 x66_3).f1) * (rd l3 x72_4)))] from rfl) (Reps.none _ _))); intro v309 w58 ho59 hb hg_ hnew_; clear hg_ hnew_; (first | rw [← Ny308.out] at ho59 | (simp only [Int.reduceToNat] at ho59; rw [← Ny308.out] at ho59)); have HO310 := Aside0.mk (Kd.R_lower ho59 (below_size (bw_ HB).out)); replace HO_11 := Aside0.mk (Kd.R_below (ra_ (rs3_ HO_11.out BK307.out)) hb); replace HO_64 := Aside0.mk (Kd.R_below (ra_ (rs3_ HO_64.out BK307.out)) hb); replace BK282 := fb_ BK282 NB282_307 hb; replace BK283 := fb_ BK283 NB283_307 hb; replace BK301 := fb_ BK301 NB301_307 hb; replace BK307 := Aside0.mk (blk_below (g := gb307) (o := .cells #[.int .i64 t303, .int .i64 t304, .int .i64 t305] 25 (0, 0)) (by (with_reducible repeat first | apply blk_drewN | apply blk_drew | apply blk_alloc); refine blk_put (cs := #[.int .i64 t303, .int .i64 t304, .int .i64 0]) ?_ 2 _ rfl; (with_reducible repeat first | apply blk_drewN | apply blk_drew | apply blk_alloc); refine blk_put (cs := #[.int .i64 t303, .int .i64 0, .int .i64 0]) ?_ 1 _ rfl; (with_reducible repeat first | apply blk_drewN | apply blk_drew | apply blk_alloc); refine blk_put (cs := #[.int .i64 0, .int .i64 0, .int .i64 0]) ?_ 0 _ rfl; (with_reducible repeat first | apply blk_drewN | apply blk_drew | apply blk_alloc); exact BK307.out) hb); replace HB := bt_ HB hb; clear hb ho59; obtain ⟨Ao60, co60, eo60⟩ := Kd.R_slice HO310.out; subst eo60) | ((with_reducible refine gate_callee (f := 29) rfl ?_); refine ge_ 90 Try.func29 #[.slice Ao60 y308.length co60] ?_; (with_reducible refine (impl_isWeight.calls k4 _ _ y308 true _ ?side1 ?side2 A45.out).mono ?_); (case side1 => repeat (first | exact (Kd.R_reads' HO310.out).2.2 | (with_reducible refine Kd.C_alloc ?_ _) | (with_reducible refine Kd.C_drewN ?_ _) | (with_reducible refine Kd.C_drew ?_))); (case side2 => exact (Kd.R_reads' HO310.out).2.1); rintro e w' ⟨rfl, ⟨nd, rfl⟩⟩; refine ⟨_, rfl, ?_⟩; have hcz61_0 : w58.cell? ⟨gb307, 0, none⟩ = some (.int .i64 t303) := cz_ BK307 0; have hcz61_1 : w58.cell? ⟨gb307, 1, none⟩ = some (.int .i64 t304) := cz_ BK307 1; have hcz61_2 : w58.cell? ⟨gb307, 2, none⟩ = some (.int .i64 t305) := cz_ BK307 2; have hfz61_0 := fz_ BK307 0; have hfz61_1 := fz_ BK307 1; have hfz61_2 := fz_ BK307 2; have hcz62_0 : w58.cell? ⟨gb301, 0, none⟩ = some (.int .i64 ((rd_T52 x10_2 x66_3).f0.f0)) := cz_ BK301 0; have hcz62_1 : w58.cell? ⟨gb301, 1, none⟩ = some (.int .i64 ((rd_T52 x10_2 x66_3).f0.f1)) := cz_ BK301 1; have hcz62_2 : w58.cell? ⟨gb301, 2, none⟩ = some (.int .i64 ((rd_T52 x10_2 x66_3).f0.f2)) := cz_ BK301 2; have hcz62_3 : w58.cell? ⟨gb301, 3, none⟩ = some (.int .i64 ((rd_T52 x10_2 x66_3).f1)) := cz_ BK301 3; have hfz62_0 := fz_ BK301 0; have hfz62_1 := fz_ BK301 1; have hfz62_2 := fz_ BK301 2; have hfz62_3 := fz_ BK301 3) | ((with_reducible refine gate_builtin (b := .append) (xs := #[.tmp 93, .tmp 100]) rfl ?_); (try (refine gate_guard (by rfl) ?_; dsimp only)); at_builtin; refine Kd.R_append k52 (w0 := w) w.heap.size rfl (.tmp 93) (.tmp 100) 26 52 (.agg #[(.int .i64 0), (.int .i64 0), (.int .i64 0), (.int .i64 0)]) 32 rfl Try.underlying26 info52 rfl (by decide) (by omega) u11 x11_4 (⟨(⟨t303, t304, t305⟩ : S25), wrap64 (((rd_T52 x10_2 x66_3).f1) * (rd l3 x72_4))⟩ : S52) [.int .i64 t303, .int .i64 t304, .int .i64 t305, .int .i64 (wrap64 (((rd_T52 x10_2 x66_3).f1) * (rd l3 x72_4)))] (fun k_ => some k_ ≠ (.slice (some ad300) x10_2.length co33 : Value).ownBlock ∧ k_ ≠ gb301) (fun _ => False) rfl rfl ?aP (fun _ hk => hk.elim) ?aF ?aO ?aB ?aS ?aL ?_; (case aP => exact k52_mkM _ _ _ (⟨(⟨t303, t304, t305⟩ : S25), wrap64 (((rd_T52 x10_2 x66_3).f1) * (rd l3 x72_4))⟩ : S52)); (case aB => exact (bw_ HB).out); (case aF => exact (fun k_ hk => ⟨Kd.fresh' (Kd.R_lt (ra_ HO_64.out)) k_ hk, Kd.freshB (g := gb301) (o := .cells #[.int .i64 ((rd_T52 x10_2 x66_3).f0.f0), .int .i64 ((rd_T52 x10_2 x66_3).f0.f1), .int .i64 ((rd_T52 x10_2 x66_3).f0.f2), .int .i64 ((rd_T52 x10_2 x66_3).f1)] 52 (0, 0)) (bl_ BK301).out k_ hk⟩)); (case aO => exact (ra_ HO_11.out)); (case aS => exact (below_size (bw_ HB).out)); (case aL => have := LMc47.out; omega); intro v313 w63 ho hb hg hat; rw [← Ny312.out] at ho; have n0_ := Aside0.mk (Kd.R_after (ok := (fun k_ => k_ ≠ gb301)) (by (with_reducible repeat (first | apply Kd.R_alloc | apply Kd.R_drewN | apply Kd.R_drew)); exact Kd.R_mono HO_64.out (fun _ hk => ⟨hk.2, hk.1⟩)) hg hat); have n1_ := Aside0.mk (blk_grown (g := gb282) (o := .cells #[.int .i64 a1_0, .int .i64 a1_1, .int .i64 a1_2] 25 (0, 0)) (bl_ BK282).out hg (Kd.R_ne HO_11.out BK282.out (by decide))); have n2_ := Aside0.mk (blk_grown (g := gb283) (o := .cells #[.int .i64 x284000_4, .int .i64 x284001_4, .int .i64 x284002_4, .slice none 0 0] 28 (0, 0)) (bl_ BK283).out hg (Kd.R_ne HO_11.out BK283.out (by decide))); have n3_ := Aside0.mk (blk_grown (g := gb301) (o := .cells #[.int .i64 ((rd_T52 x10_2 x66_3).f0.f0), .int .i64 ((rd_T52 x10_2 x66_3).f0.f1), .int .i64 ((rd_T52 x10_2 x66_3).f0.f2), .int .i64 ((rd_T52 x10_2 x66_3).f1)] 52 (0, 0)) (bl_ BK301).out hg (Kd.R_away HO_11.out (fun _ hk => hk.2))); have n4_ := Aside0.mk (blk_grown (g := gb307) (o := .cells #[.int .i64 t303, .int .i64 t304, .int .i64 t305] 25 (0, 0)) (bl_ BK307).out hg (Kd.R_ne HO_11.out BK307.out (by decide))); have n5_ := Aside0.mk (Kd.R_over' (ra_ HO310.out) (Kd.R_typed (ra_ HO_11.out)) (by decide) hg); have n6_ := Aside0.mk (hb); have n7_ := Aside0.mk (ho); clear HO_64; clear BK282; clear BK283; clear BK301; clear BK307; clear HO310; clear HB; clear HO_11; have HO_64 := n0_; have BK282 := n1_; have BK283 := n2_; have BK301 := n3_; have BK307 := n4_; have HO310 := n5_; have HB := n6_; have HO314 := n7_; clear n0_ n1_ n2_ n3_ n4_ n5_ n6_ n7_; clear ho hb hg hat))
                      go_roundg k4
                      case measure => have := HJ6.out; have := HK2.out; have := HK3.out; have := HK4.out; omega
                      case rel => exact ⟨(y312), (wrap64 (x72_4 + 1)), (x284000_4), (x284001_4), (x284002_4), (by first | rfl | (simp; done) | (simp [*]; done) | (simp [wrap64]; done)), H', ⟨by have := HJ6.out; have := HK2.out; have := HK3.out; have := HK4.out; omega⟩, ⟨by (with_reducible repeat (first | apply Kd.R_alloc | apply Kd.R_drewN | apply Kd.R_drew)); exact HO314.out⟩, ⟨by (with_reducible repeat (first | apply Kd.R_alloc | apply Kd.R_drewN | apply Kd.R_drew)); exact Kd.R_mono HO_64.out (fun _ hk => ⟨hk.2, hk.1⟩)⟩, bl_ BK282, bl_ BK283, bl_ BK301, bw_ HB⟩
                     ·rw [if_neg c47] at H
                      exact absurd H (by simp)
                    ·replace c46 := Bool.eq_false_iff.mpr c46
                     subst c46
                     have H1 : (some (0, 0, 0, ([] : List (S52)), 3)) = some (r1, r2, r3, r4, r5) := by rw [if_neg (show ¬ (false = true) by decide)] at H; exact H
                     clear H
                     have H := H1
                     clear H1
                     simp only [Option.some.injEq, Prod.mk.injEq] at H
                     obtain ⟨rfl, rfl, rfl, rfl, rfl⟩ := H
                     have p302 : 0 ≤ (x72_4 : Int) := of_decide_eq_true (by first | (with_reducible assumption) | assumption)
                     have q302 : x72_4 < (l3.length : Int) := of_decide_eq_true (by first | (with_reducible assumption) | assumption)
                     obtain ⟨ad302, e302, hx302_0⟩ := Kd.at_int HR3.out x72_4 p302 q302
                     cases e302
                     replace hx302_0 := clTr HB.out hx302_0
                     replace p302 := eq_true p302
                     replace q302 := eq_true q302
                     have hnb64 := NB301_282.out
                     have hnc64 := NB282_301.out
                     have hnb65 := NB301_283.out
                     have hnc65 := NB283_301.out
                     have hcz66_0 : wr.cell? ⟨gb301, 0, none⟩ = some (.int .i64 ((rd_T52 x10_2 x66_3).f0.f0)) := cz_ BK301 0
                     have hcz66_1 : wr.cell? ⟨gb301, 1, none⟩ = some (.int .i64 ((rd_T52 x10_2 x66_3).f0.f1)) := cz_ BK301 1
                     have hcz66_2 : wr.cell? ⟨gb301, 2, none⟩ = some (.int .i64 ((rd_T52 x10_2 x66_3).f0.f2)) := cz_ BK301 2
                     have hcz66_3 : wr.cell? ⟨gb301, 3, none⟩ = some (.int .i64 ((rd_T52 x10_2 x66_3).f1)) := cz_ BK301 3
                     have hfz66_0 := fz_ BK301 0
                     have hfz66_1 := fz_ BK301 1
                     have hfz66_2 := fz_ BK301 2
                     have hfz66_3 := fz_ BK301 3
                     go_wp2_with (first | ((with_reducible refine gate_callee (f := 32) rfl ?_); refine ge_ 82 Try.func32 #[.int .i64 a0, .agg #[.int .i64 ((rd_T52 x10_2 x66_3).f0.f0), .int .i64 ((rd_T52 x10_2 x66_3).f0.f1), .int .i64 ((rd_T52 x10_2 x66_3).f0.f2)], .int .i64 x72_4] ?_; (with_reducible refine (impl_child.calls k4 a0 ((rd_T52 x10_2 x66_3).f0.f0) ((rd_T52 x10_2 x66_3).f0.f1) ((rd_T52 x10_2 x66_3).f0.f2) x72_4 t303 t304 t305 t306 _ A44.out).mono ?_); rintro e w67 ⟨rfl, hb⟩; refine ⟨_, rfl, ?_⟩; replace HO_11 := Aside0.mk (Kd.R_below (ra_ HO_11.out) hb); replace HO_64 := Aside0.mk (Kd.R_below (ra_ HO_64.out) hb); replace BK282 := bb_ BK282 hb; replace BK283 := bb_ BK283 hb; replace BK301 := bb_ BK301 hb; replace HB := bt_ HB hb; (try clear hb); (try clear hb2); (try clear hk); (try clear hi)) | ((with_reducible refine gate_dst (N := 16) rfl ?_); (try (refine gate_guard (by rfl) ?_; dsimp only)); refine bx_ 16 #[.int .i64 0, .int .i64 0, .int .i64 0] 25 ?_; intro gb307 hg w68 hbox hb; have BK307 := Aside0.mk (hbox); have GW307 := bs_ HB hg; have GE307 := bs_ HB hg; have NB282_307 := bm_ BK282 hg; have NB307_282 := bn_ BK282 hg; have NB283_307 := bm_ BK283 hg; have NB307_283 := bn_ BK283 hg; have NB301_307 := bm_ BK301 hg; have NB307_301 := bn_ BK301 hg; replace HO_11 := Aside0.mk (Kd.R_below (ra_ HO_11.out) hb); replace HO_64 := Aside0.mk (Kd.R_below (ra_ HO_64.out) hb); replace BK282 := bb_ BK282 hb; replace BK283 := bb_ BK283 hb; replace BK301 := bb_ BK301 hb; replace HB := bt_ HB hb; clear hb hbox hg; have hnb69 := NB307_282.out; have hnc69 := NB282_307.out; have hnb70 := NB307_283.out; have hnc70 := NB283_307.out; have hnb71 := NB307_301.out; have hnc71 := NB301_307.out; have hcz72_0 : w68.cell? ⟨gb307, 0, none⟩ = some (.int .i64 0) := cz_ BK307 0; have hcz72_1 : w68.cell? ⟨gb307, 1, none⟩ = some (.int .i64 0) := cz_ BK307 1; have hcz72_2 : w68.cell? ⟨gb307, 2, none⟩ = some (.int .i64 0) := cz_ BK307 2; have hfz72_0 := fz_ BK307 0; have hfz72_1 := fz_ BK307 1; have hfz72_2 := fz_ BK307 2; have hcz73_0 : w68.cell? ⟨gb301, 0, none⟩ = some (.int .i64 ((rd_T52 x10_2 x66_3).f0.f0)) := cz_ BK301 0; have hcz73_1 : w68.cell? ⟨gb301, 1, none⟩ = some (.int .i64 ((rd_T52 x10_2 x66_3).f0.f1)) := cz_ BK301 1; have hcz73_2 : w68.cell? ⟨gb301, 2, none⟩ = some (.int .i64 ((rd_T52 x10_2 x66_3).f0.f2)) := cz_ BK301 2; have hcz73_3 : w68.cell? ⟨gb301, 3, none⟩ = some (.int .i64 ((rd_T52 x10_2 x66_3).f1)) := cz_ BK301 3; have hfz73_0 := fz_ BK301 0; have hfz73_1 := fz_ BK301 1; have hfz73_2 := fz_ BK301 2; have hfz73_3 := fz_ BK301 3) | ((with_reducible refine gate_dst (N := 89) rfl ?_); (try (refine gate_guard (by rfl) ?_; dsimp only)); refine Kd.R_lit (Kd.int .i64) _ 2 ?hg (N := 89) ?hd (xs := ([wrap64 (((rd_T52 x10_2 x66_3).f1) * (rd l3 x72_4))] : List Int)) (inner := [.int .i64 (wrap64 (((rd_T52 x10_2 x66_3).f1) * (rd l3 x72_4)))]) (ok := fun _ => True) (okp := fun _ => True) ?hr ?hp (fun _ hk => hk) trivial (Below.refl _ _) (Nat.le_refl _) (by simp) ?_; (case hd => rfl); (case hg => rfl); (case hr => first | (go_simp; done) | (go_simp; rfl)); (case hp => exact (Reps.one (show Kd.M (Kd.int .i64) _ _ _ (wrap64 (((rd_T52 x10_2 x66_3).f1) * (rd l3 x72_4))) [.int .i64 (wrap64 (((rd_T52 x10_2 x66_3).f1) * (rd l3 x72_4)))] from rfl) (Reps.none _ _))); intro v309 w74 ho75 hb hg_ hnew_; clear hg_ hnew_; (first | rw [← Ny308.out] at ho75 | (simp only [Int.reduceToNat] at ho75; rw [← Ny308.out] at ho75)); have HO310 := Aside0.mk (Kd.R_lower ho75 (below_size (bw_ HB).out)); replace HO_11 := Aside0.mk (Kd.R_below (ra_ (rs3_ HO_11.out BK307.out)) hb); replace HO_64 := Aside0.mk (Kd.R_below (ra_ (rs3_ HO_64.out BK307.out)) hb); replace BK282 := fb_ BK282 NB282_307 hb; replace BK283 := fb_ BK283 NB283_307 hb; replace BK301 := fb_ BK301 NB301_307 hb; replace BK307 := Aside0.mk (blk_below (g := gb307) (o := .cells #[.int .i64 t303, .int .i64 t304, .int .i64 t305] 25 (0, 0)) (by (with_reducible repeat first | apply blk_drewN | apply blk_drew | apply blk_alloc); refine blk_put (cs := #[.int .i64 t303, .int .i64 t304, .int .i64 0]) ?_ 2 _ rfl; (with_reducible repeat first | apply blk_drewN | apply blk_drew | apply blk_alloc); refine blk_put (cs := #[.int .i64 t303, .int .i64 0, .int .i64 0]) ?_ 1 _ rfl; (with_reducible repeat first | apply blk_drewN | apply blk_drew | apply blk_alloc); refine blk_put (cs := #[.int .i64 0, .int .i64 0, .int .i64 0]) ?_ 0 _ rfl; (with_reducible repeat first | apply blk_drewN | apply blk_drew | apply blk_alloc); exact BK307.out) hb); replace HB := bt_ HB hb; clear hb ho75; obtain ⟨Ao76, co76, eo76⟩ := Kd.R_slice HO310.out; subst eo76) | ((with_reducible refine gate_callee (f := 29) rfl ?_); refine ge_ 90 Try.func29 #[.slice Ao76 y308.length co76] ?_; (with_reducible refine (impl_isWeight.calls k4 _ _ y308 false _ ?side1 ?side2 A45.out).mono ?_); (case side1 => repeat (first | exact (Kd.R_reads' HO310.out).2.2 | (with_reducible refine Kd.C_alloc ?_ _) | (with_reducible refine Kd.C_drewN ?_ _) | (with_reducible refine Kd.C_drew ?_))); (case side2 => exact (Kd.R_reads' HO310.out).2.1); rintro e w' ⟨rfl, ⟨nd, rfl⟩⟩; refine ⟨_, rfl, ?_⟩; (try (rw [drewN_self w74]; generalize hq_ : World.drewN w74 _ = w74; have n0_ : Aside0 (Kd.R (Kd.int .i64) 2 w74 w.heap.size (fun _ => True) (.slice Ao76 y308.length co76) y308) := ⟨by rw [← hq_]; exact (ra_ HO310.out)⟩; have n1_ : Aside0 (Kd.R k52 52 w74 w.heap.size (fun k_ => some k_ ≠ (.slice (some ad300) x10_2.length co33 : Value).ownBlock ∧ k_ ≠ gb301) u11 x11_4) := ⟨by rw [← hq_]; exact (ra_ HO_11.out)⟩; have n2_ : Aside0 (Kd.R k52 52 w74 w.heap.size (fun k_ => some k_ ≠ (u11 : Value).ownBlock ∧ k_ ≠ gb301) (.slice (some ad300) x10_2.length co33) x10_2) := ⟨by rw [← hq_]; exact (ra_ HO_64.out)⟩; have n3_ : Aside0 (w74.heap[gb282]? = some (.cells #[.int .i64 a1_0, .int .i64 a1_1, .int .i64 a1_2] 25 (0, 0))) := ⟨by rw [← hq_]; exact (bl_ BK282).out⟩; have n4_ : Aside0 (w74.heap[gb283]? = some (.cells #[.int .i64 x284000_4, .int .i64 x284001_4, .int .i64 x284002_4, .slice none 0 0] 28 (0, 0))) := ⟨by rw [← hq_]; exact (bl_ BK283).out⟩; have n5_ : Aside0 (w74.heap[gb301]? = some (.cells #[.int .i64 ((rd_T52 x10_2 x66_3).f0.f0), .int .i64 ((rd_T52 x10_2 x66_3).f0.f1), .int .i64 ((rd_T52 x10_2 x66_3).f0.f2), .int .i64 ((rd_T52 x10_2 x66_3).f1)] 52 (0, 0))) := ⟨by rw [← hq_]; exact (bl_ BK301).out⟩; have n6_ : Aside0 (w74.heap[gb307]? = some (.cells #[.int .i64 t303, .int .i64 t304, .int .i64 t305] 25 (0, 0))) := ⟨by rw [← hq_]; exact (bl_ BK307).out⟩; have n7_ : Aside0 (Below w.heap.size w w74) := ⟨by rw [← hq_]; exact (bw_ HB).out⟩; clear HO310 HO_11 HO_64 BK282 BK283 BK301 BK307 HB hq_; have HO310 := n0_; have HO_11 := n1_; have HO_64 := n2_; have BK282 := n3_; have BK283 := n4_; have BK301 := n5_; have BK307 := n6_; have HB := n7_; clear n0_ n1_ n2_ n3_ n4_ n5_ n6_ n7_)); have hnb77 := NB283_282.out; have hnc77 := NB282_283.out; have hcz78_0 : w74.cell? ⟨gb283, 0, none⟩ = some (.int .i64 x284000_4) := cz_ BK283 0; have hcz78_1 : w74.cell? ⟨gb283, 1, none⟩ = some (.int .i64 x284001_4) := cz_ BK283 1; have hcz78_2 : w74.cell? ⟨gb283, 2, none⟩ = some (.int .i64 x284002_4) := cz_ BK283 2; have hcz78_3 : w74.cell? ⟨gb283, 3, none⟩ = some (.slice none 0 0) := cz_ BK283 3; have hfz78_0 := fz_ BK283 0; have hfz78_1 := fz_ BK283 1; have hfz78_2 := fz_ BK283 2; have hfz78_3 := fz_ BK283 3))
                     refine bodyPost_ret (results_ct rfl _ _ gb283 28 #[.int .i64 0, .int .i64 0, .int .i64 0, .slice none 0 0] (0, 0) _ rfl (by (with_reducible repeat first | apply blk_drewN | apply blk_drew | apply blk_alloc); refine blk_put (cs := #[.int .i64 0, .int .i64 0, .int .i64 0, .slice none 0 0]) ?_ 3 _ rfl; (with_reducible repeat first | apply blk_drewN | apply blk_drew | apply blk_alloc); refine blk_put (cs := #[.int .i64 0, .int .i64 0, .int .i64 x284002_4, .slice none 0 0]) ?_ 2 _ rfl; (with_reducible repeat first | apply blk_drewN | apply blk_drew | apply blk_alloc); refine blk_put (cs := #[.int .i64 0, .int .i64 x284001_4, .int .i64 x284002_4, .slice none 0 0]) ?_ 1 _ rfl; (with_reducible repeat first | apply blk_drewN | apply blk_drew | apply blk_alloc); refine blk_put (cs := #[.int .i64 x284000_4, .int .i64 x284001_4, .int .i64 x284002_4, .slice none 0 0]) ?_ 0 _ rfl; (with_reducible repeat first | apply blk_drewN | apply blk_drew | apply blk_alloc); exact BK283.out) Try.underlying28 rfl (by kernel_rfl)) rfl ?_
                     exact ⟨_, by first | rfl | (simp [errW_none, errW_some] <;> rfl) | (simp [*, errW_none, errW_some] <;> rfl), by first | exact Kd.R_nil _ _ _ _ _ | exact Kd.N_nil _ _ _ _ _ | exact Kd.V_nil _ _ _ _ _ | exact Kd.Q_nil _ _ _ _ _ | exact Kd.S_nil _ _ _ _ _, by repeat (first | (with_reducible first | exact HB.out | apply below_alloc | apply pw_below_drewN | apply below_drew1 | refine below_set ?_ GE282.out | refine below_set ?_ GE283.out | refine below_set ?_ GE301.out | refine below_set ?_ GE307.out) | exact HB.out)⟩
                   ·rw [if_neg c43] at H
                    exact absurd H (by simp)
                  ·rw [if_neg c42] at H
                   exact absurd H (by simp)
                 ·rw [if_neg c41] at H
                  have c41b0 : decide (x72_4 < (l3.length : Int)) = false := decide_eq_false c41
                  clear c41
                  have H' := Aside0.mk H
                  clear H
                  go_wp2
                  go_roundg k4
                  case measure => have := HJ6.out; have := HK2.out; have := HK3.out; have := HK4.out; omega
                  case rel => exact ⟨(x11_4), (wrap64 (x66_3 + 1)), (x284000_4), (x284001_4), (x284002_4), (by first | rfl | (simp; done) | (simp [*]; done) | (simp [wrap64]; done)), H', ⟨by have := HJ6.out; have := HK2.out; have := HK3.out; have := HK4.out; omega⟩, ⟨by (with_reducible repeat (first | apply Kd.R_alloc | apply Kd.R_drewN | apply Kd.R_drew)); exact Kd.R_mono HO_11.out (fun _ hk => hk.1)⟩, ⟨by (with_reducible repeat (first | apply Kd.R_alloc | apply Kd.R_drewN | apply Kd.R_drew)); exact Kd.R_mono HO_64.out (fun _ hk => hk.1)⟩, bl_ BK282, bl_ BK283, bw_ HB⟩
              ·rw [if_neg c36] at H
               exact absurd H (by simp)
             ·rw [if_neg c35] at H
              exact absurd H (by simp)
            ·rw [if_neg c34] at H
             have c34b0 : decide (x66_3 < (x10_2.length : Int)) = false := decide_eq_false c34
             clear c34
             have H' := Aside0.mk H
             clear H
             go_wp2
             go_roundg k3
             case measure => have := HJ6.out; have := HK2.out; have := HK3.out; omega
             case rel => exact ⟨(x11_3), (wrap64 (x61_2 + 1)), (x284000_3), (x284001_3), (x284002_3), (by first | rfl | (simp; done) | (simp [*]; done) | (simp [wrap64]; done)), H', ⟨by have := HJ6.out; have := HK2.out; have := HK3.out; omega⟩, ⟨by (with_reducible repeat (first | apply Kd.R_alloc | apply Kd.R_drewN | apply Kd.R_drew)); exact Kd.R_mono HO_11.out (fun _ hk => trivial)⟩, bl_ BK282, bl_ BK283, bw_ HB⟩
         ·rw [if_neg c30] at H
          have c30b0 : decide (x61_2 < a2) = false := decide_eq_false c30
          clear c30
          replace H := Option.bind_eq_some_iff.mp H
          obtain ⟨⟨t291, t292, t293, t294⟩, A790, H⟩ := H
          have A79 := Aside0.mk A790
          clear A790
          simp only [Option.some.injEq, Prod.mk.injEq] at H
          obtain ⟨rfl, rfl, rfl, rfl, rfl⟩ := H
          have hnb80 := NB282_283.out
          have hnc80 := NB283_282.out
          have hcz81_0 : wr.cell? ⟨gb282, 0, none⟩ = some (.int .i64 a1_0) := cz_ BK282 0
          have hcz81_1 : wr.cell? ⟨gb282, 1, none⟩ = some (.int .i64 a1_1) := cz_ BK282 1
          have hcz81_2 : wr.cell? ⟨gb282, 2, none⟩ = some (.int .i64 a1_2) := cz_ BK282 2
          have hfz81_0 := fz_ BK282 0
          have hfz81_1 := fz_ BK282 1
          have hfz81_2 := fz_ BK282 2
          obtain ⟨Ao82, co82, eo82⟩ := Kd.R_slice HO_10.out
          subst eo82
          go_wp2_with (first | ((with_reducible refine gate_callee (f := 33) rfl ?_); refine ge_ 109 Try.func33 #[.int .i64 a0, .agg #[.int .i64 a1_0, .int .i64 a1_1, .int .i64 a1_2], .slice Ao82 x10_2.length co82] ?_; (with_reducible refine (impl_sorted.calls k2 a0 a1_0 a1_1 a1_2 (fun k_ => some k_ = (.slice Ao82 x10_2.length co82 : Value).ownBlock) (.slice Ao82 x10_2.length co82) x10_2 t291 t292 t293 t294 w _ ?side1 ?side2 A79.out).mono ?_); (case side1 => repeat (first | (with_reducible first | exact HB.out | apply below_alloc | apply pw_below_drewN | apply below_drew1 | refine below_set ?_ GE282.out | refine below_set ?_ GE283.out) | exact HB.out)); (case side2 => exact Kd.R_tight rfl HO_10.out); rintro e w83 ⟨v295, rfl, ho0, hb, hkp⟩; refine ⟨_, rfl, ?_⟩; have n0_ := Aside0.mk (blk_kept (bl_ BK282).out hkp (fun hs_ => (fun e_ => (Kd.R_ne HO_10.out BK282.out (by decide)) e_) hs_)); have n1_ := Aside0.mk (blk_kept (bl_ BK283).out hkp (fun hs_ => (fun e_ => (Kd.R_ne HO_10.out BK283.out (by decide)) e_) hs_)); have n2_ := Aside0.mk (Kd.R_mono (ok' := fun k_ => True) ho0 (fun k_ hk_ => trivial)); have n3_ := Aside0.mk (hb); clear BK282; clear BK283; clear HB; clear HO_10; have BK282 := n0_; have BK283 := n1_; have HO296 := n2_; have HB := n3_; clear n0_ n1_ n2_ n3_; (try clear hb); (try clear hkp); (try clear ho0); have hcz84_0 : w83.cell? ⟨gb283, 0, none⟩ = some (.int .i64 x284000_2) := cz_ BK283 0; have hcz84_1 : w83.cell? ⟨gb283, 1, none⟩ = some (.int .i64 x284001_2) := cz_ BK283 1; have hcz84_2 : w83.cell? ⟨gb283, 2, none⟩ = some (.int .i64 x284002_2) := cz_ BK283 2; have hcz84_3 : w83.cell? ⟨gb283, 3, none⟩ = some (.slice none 0 0) := cz_ BK283 3; have hfz84_0 := fz_ BK283 0; have hfz84_1 := fz_ BK283 1; have hfz84_2 := fz_ BK283 2; have hfz84_3 := fz_ BK283 3; obtain ⟨Ao85, co85, eo85⟩ := Kd.R_slice HO296.out; subst eo85))
          refine bodyPost_ret (results_ct rfl _ _ gb283 28 #[.int .i64 t291, .int .i64 t292, .int .i64 t293, .slice Ao85 t294.length co85] (0, 0) _ rfl (by (with_reducible repeat first | apply blk_drewN | apply blk_drew | apply blk_alloc); refine blk_put (cs := #[.int .i64 t291, .int .i64 t292, .int .i64 t293, .slice none 0 0]) ?_ 3 _ rfl; (with_reducible repeat first | apply blk_drewN | apply blk_drew | apply blk_alloc); refine blk_put (cs := #[.int .i64 t291, .int .i64 t292, .int .i64 x284002_2, .slice none 0 0]) ?_ 2 _ rfl; (with_reducible repeat first | apply blk_drewN | apply blk_drew | apply blk_alloc); refine blk_put (cs := #[.int .i64 t291, .int .i64 x284001_2, .int .i64 x284002_2, .slice none 0 0]) ?_ 1 _ rfl; (with_reducible repeat first | apply blk_drewN | apply blk_drew | apply blk_alloc); refine blk_put (cs := #[.int .i64 x284000_2, .int .i64 x284001_2, .int .i64 x284002_2, .slice none 0 0]) ?_ 0 _ rfl; (with_reducible repeat first | apply blk_drewN | apply blk_drew | apply blk_alloc); exact BK283.out) Try.underlying28 rfl (by kernel_rfl)) rfl ?_
          exact ⟨_, by first | rfl | (simp [errW_none, errW_some] <;> rfl) | (simp [*, errW_none, errW_some] <;> rfl), by (with_reducible repeat (first | apply Kd.R_alloc | apply Kd.R_drewN | apply Kd.R_drew)); exact Kd.R_mono (Kd.R_far (p := ⟨gb283, 3, none⟩) (Kd.R_far (p := ⟨gb283, 2, none⟩) (Kd.R_far (p := ⟨gb283, 1, none⟩) (Kd.R_far (p := ⟨gb283, 0, none⟩) (Kd.R_types HO296.out BK283.out (by decide)) (fun _ hk => hk.2) (.int .i64 t291)) (fun _ hk => hk.2) (.int .i64 t292)) (fun _ hk => hk.2) (.int .i64 t293)) (fun _ hk => hk.2) (.slice Ao85 t294.length co85)) (fun _ hk => trivial), by repeat (first | (with_reducible first | exact HB.out | apply below_alloc | apply pw_below_drewN | apply below_drew1 | refine below_set ?_ GE282.out | refine below_set ?_ GE283.out) | exact HB.out)⟩
      ·replace c25 := Bool.eq_false_iff.mpr c25
       subst c25
       have H1 : (some (0, 0, 0, ([] : List (S52)), 3)) = some (r1, r2, r3, r4, r5) := by rw [if_neg (show ¬ (false = true) by decide)] at H; exact H
       clear H
       have H := H1
       clear H1
       simp only [Option.some.injEq, Prod.mk.injEq] at H
       obtain ⟨rfl, rfl, rfl, rfl, rfl⟩ := H
       go_wp2_with (first | ((with_reducible refine gate_callee (f := 30) rfl ?_); refine ge_ 46 Try.func30 #[.int .i64 a0, .int .i64 a2] ?_; (with_reducible refine (impl_power.calls kj6 a0 a2 t286 _ A20.out).mono ?_); rintro e w' ⟨rfl, ⟨nd, rfl⟩⟩; refine ⟨_, rfl, ?_⟩; (try (rw [drewN_self wc]; generalize hq_ : World.drewN wc _ = wc; have n0_ : Aside0 (wc.heap[gb282]? = some (.cells #[.int .i64 a1_0, .int .i64 a1_1, .int .i64 a1_2] 25 (0, 0))) := ⟨by rw [← hq_]; exact (bl_ BK282).out⟩; have n1_ : Aside0 (wc.heap[gb283]? = some (.cells #[.int .i64 0, .int .i64 0, .int .i64 0, .slice none 0 0] 28 (0, 0))) := ⟨by rw [← hq_]; exact (bl_ BK283).out⟩; have n2_ : Aside0 (Below w.heap.size w wc) := ⟨by rw [← hq_]; exact (bw_ HB).out⟩; clear BK282 BK283 HB hq_; have BK282 := n0_; have BK283 := n1_; have HB := n2_; clear n0_ n1_ n2_)); have hnb86 := NB282_283.out; have hnc86 := NB283_282.out; have hcz87_0 : wc.cell? ⟨gb282, 0, none⟩ = some (.int .i64 a1_0) := cz_ BK282 0; have hcz87_1 : wc.cell? ⟨gb282, 1, none⟩ = some (.int .i64 a1_1) := cz_ BK282 1; have hcz87_2 : wc.cell? ⟨gb282, 2, none⟩ = some (.int .i64 a1_2) := cz_ BK282 2; have hfz87_0 := fz_ BK282 0; have hfz87_1 := fz_ BK282 1; have hfz87_2 := fz_ BK282 2) | (go_at_call 31; (with_reducible refine (impl_isLevel.calls (wrap64 (a1_0 + a2)) false _ A24.out).mono ?_); rintro e w' ⟨rfl, ⟨nd, rfl⟩⟩; (try (rw [drewN_self wc]; generalize hq_ : World.drewN wc _ = wc; have n0_ : Aside0 (wc.heap[gb282]? = some (.cells #[.int .i64 a1_0, .int .i64 a1_1, .int .i64 a1_2] 25 (0, 0))) := ⟨by rw [← hq_]; exact (bl_ BK282).out⟩; have n1_ : Aside0 (wc.heap[gb283]? = some (.cells #[.int .i64 0, .int .i64 0, .int .i64 0, .slice none 0 0] 28 (0, 0))) := ⟨by rw [← hq_]; exact (bl_ BK283).out⟩; have n2_ : Aside0 (Below w.heap.size w wc) := ⟨by rw [← hq_]; exact (bw_ HB).out⟩; clear BK282 BK283 HB hq_; have BK282 := n0_; have BK283 := n1_; have HB := n2_; clear n0_ n1_ n2_)); have hcz88_0 : wc.cell? ⟨gb283, 0, none⟩ = some (.int .i64 0) := cz_ BK283 0; have hcz88_1 : wc.cell? ⟨gb283, 1, none⟩ = some (.int .i64 0) := cz_ BK283 1; have hcz88_2 : wc.cell? ⟨gb283, 2, none⟩ = some (.int .i64 0) := cz_ BK283 2; have hcz88_3 : wc.cell? ⟨gb283, 3, none⟩ = some (.slice none 0 0) := cz_ BK283 3; have hfz88_0 := fz_ BK283 0; have hfz88_1 := fz_ BK283 1; have hfz88_2 := fz_ BK283 2; have hfz88_3 := fz_ BK283 3))
       refine bodyPost_ret (results_ct rfl _ _ gb283 28 #[.int .i64 0, .int .i64 0, .int .i64 0, .slice none 0 0] (0, 0) _ rfl (by (with_reducible repeat first | apply blk_drewN | apply blk_drew | apply blk_alloc); refine blk_put (cs := #[.int .i64 0, .int .i64 0, .int .i64 0, .slice none 0 0]) ?_ 3 _ rfl; (with_reducible repeat first | apply blk_drewN | apply blk_drew | apply blk_alloc); refine blk_put (cs := #[.int .i64 0, .int .i64 0, .int .i64 0, .slice none 0 0]) ?_ 2 _ rfl; (with_reducible repeat first | apply blk_drewN | apply blk_drew | apply blk_alloc); refine blk_put (cs := #[.int .i64 0, .int .i64 0, .int .i64 0, .slice none 0 0]) ?_ 1 _ rfl; (with_reducible repeat first | apply blk_drewN | apply blk_drew | apply blk_alloc); refine blk_put (cs := #[.int .i64 0, .int .i64 0, .int .i64 0, .slice none 0 0]) ?_ 0 _ rfl; (with_reducible repeat first | apply blk_drewN | apply blk_drew | apply blk_alloc); exact BK283.out) Try.underlying28 rfl (by kernel_rfl)) rfl ?_
       exact ⟨_, by first | rfl | (simp [errW_none, errW_some] <;> rfl) | (simp [*, errW_none, errW_some] <;> rfl), by first | exact Kd.R_nil _ _ _ _ _ | exact Kd.N_nil _ _ _ _ _ | exact Kd.V_nil _ _ _ _ _ | exact Kd.Q_nil _ _ _ _ _ | exact Kd.S_nil _ _ _ _ _, by repeat (first | (with_reducible first | exact HB.out | apply below_alloc | apply pw_below_drewN | apply below_drew1 | refine below_set ?_ GE282.out | refine below_set ?_ GE283.out) | exact HB.out)⟩
 ·replace c6 := Bool.eq_false_iff.mpr c6
  subst c6
  have H1 : (some (0, 0, 0, ([] : List (S52)), 1)) = some (r1, r2, r3, r4, r5) := by rw [if_neg (show ¬ (false = true) by decide)] at H; exact H
  clear H
  have H := H1
  clear H1
  simp only [Option.some.injEq, Prod.mk.injEq] at H
  obtain ⟨rfl, rfl, rfl, rfl, rfl⟩ := H
  go_enter Try.func10, Try.ntmps10
  go_wp2_with (first | ((with_reducible refine gate_dst (N := 5) rfl ?_); (try (refine gate_guard (by rfl) ?_; dsimp only)); refine bx_ 5 #[.int .i64 a1_0, .int .i64 a1_1, .int .i64 a1_2] 25 ?_; intro gb282 hg w89 hbox hb; have BK282 := Aside0.mk (hbox); have GW282 := bs_ HB hg; have GE282 := bs_ HB hg; replace HB := bt_ HB hb; clear hb hbox hg) | ((with_reducible refine gate_dst (N := 8) rfl ?_); (try (refine gate_guard (by rfl) ?_; dsimp only)); refine bx_ 8 #[.int .i64 0, .int .i64 0, .int .i64 0, .slice none 0 0] 28 ?_; intro gb283 hg w90 hbox hb; have BK283 := Aside0.mk (hbox); have GW283 := bs_ HB hg; have GE283 := bs_ HB hg; have NB282_283 := bm_ BK282 hg; have NB283_282 := bn_ BK282 hg; replace BK282 := bb_ BK282 hb; replace HB := bt_ HB hb; clear hb hbox hg; have hnb91 := NB282_283.out; have hnc91 := NB283_282.out; have hcz92_0 : w90.cell? ⟨gb282, 0, none⟩ = some (.int .i64 a1_0) := cz_ BK282 0; have hcz92_1 : w90.cell? ⟨gb282, 1, none⟩ = some (.int .i64 a1_1) := cz_ BK282 1; have hcz92_2 : w90.cell? ⟨gb282, 2, none⟩ = some (.int .i64 a1_2) := cz_ BK282 2; have hfz92_0 := fz_ BK282 0; have hfz92_1 := fz_ BK282 1; have hfz92_2 := fz_ BK282 2) | ((with_reducible refine gate_callee (f := 28) rfl ?_); refine ge_ 21 Try.func28 #[.int .i64 a0, .agg #[.int .i64 a1_0, .int .i64 a1_1, .int .i64 a1_2]] ?_; (with_reducible refine (impl_IsBall.calls k a0 a1_0 a1_1 a1_2 false _ A5.out).mono ?_); rintro e w93 ⟨rfl, hb⟩; refine ⟨_, rfl, ?_⟩; replace BK282 := bb_ BK282 hb; replace BK283 := bb_ BK283 hb; replace HB := bt_ HB hb; (try clear hb); (try clear hb2); (try clear hk); (try clear hi); have hcz94_0 : w93.cell? ⟨gb283, 0, none⟩ = some (.int .i64 0) := cz_ BK283 0; have hcz94_1 : w93.cell? ⟨gb283, 1, none⟩ = some (.int .i64 0) := cz_ BK283 1; have hcz94_2 : w93.cell? ⟨gb283, 2, none⟩ = some (.int .i64 0) := cz_ BK283 2; have hcz94_3 : w93.cell? ⟨gb283, 3, none⟩ = some (.slice none 0 0) := cz_ BK283 3; have hfz94_0 := fz_ BK283 0; have hfz94_1 := fz_ BK283 1; have hfz94_2 := fz_ BK283 2; have hfz94_3 := fz_ BK283 3))
  refine bodyPost_ret (results_ct rfl _ _ gb283 28 #[.int .i64 0, .int .i64 0, .int .i64 0, .slice none 0 0] (0, 0) _ rfl (by (with_reducible repeat first | apply blk_drewN | apply blk_drew | apply blk_alloc); refine blk_put (cs := #[.int .i64 0, .int .i64 0, .int .i64 0, .slice none 0 0]) ?_ 3 _ rfl; (with_reducible repeat first | apply blk_drewN | apply blk_drew | apply blk_alloc); refine blk_put (cs := #[.int .i64 0, .int .i64 0, .int .i64 0, .slice none 0 0]) ?_ 2 _ rfl; (with_reducible repeat first | apply blk_drewN | apply blk_drew | apply blk_alloc); refine blk_put (cs := #[.int .i64 0, .int .i64 0, .int .i64 0, .slice none 0 0]) ?_ 1 _ rfl; (with_reducible repeat first | apply blk_drewN | apply blk_drew | apply blk_alloc); refine blk_put (cs := #[.int .i64 0, .int .i64 0, .int .i64 0, .slice none 0 0]) ?_ 0 _ rfl; (with_reducible repeat first | apply blk_drewN | apply blk_drew | apply blk_alloc); exact BK283.out) Try.underlying28 rfl (by kernel_rfl)) rfl ?_
  exact ⟨_, by first | rfl | (simp [errW_none, errW_some] <;> rfl) | (simp [*, errW_none, errW_some] <;> rfl), by first | exact Kd.R_nil _ _ _ _ _ | exact Kd.N_nil _ _ _ _ _ | exact Kd.V_nil _ _ _ _ _ | exact Kd.Q_nil _ _ _ _ _ | exact Kd.S_nil _ _ _ _ _, by repeat (first | (with_reducible first | exact HB.out | apply below_alloc | apply pw_below_drewN | apply below_drew1 | refine below_set ?_ GE282.out | refine below_set ?_ GE283.out) | exact HB.out)⟩
end Go.Proofs.Ytbldceikdajdlaa.QC
