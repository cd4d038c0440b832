-- Written by a program of this session out of Lean's own print of the loaded program; Lean checks it.
import Derived.Test.YtoiailmmgfokjaaQCx6
import Derived.Test.YtoiailmmgfokjaaQCx24
import Derived.Test.YtoiailmmgfokjaaQCx26
namespace Go.Proofs.Ytoiailmmgfokjaa.QC
open Go.RowKit Go.Proofs.YtoiailmmgfokjaaW.PrintWords Go.Proofs.YtoiailmmgfokjaaW.PrintLast Go.Proofs.YtoiailmmgfokjaaW.PrintMore
attribute [local go_sem] isSome_setCell max2_int min2_int max_two min_two max_three min_three max_four min_four   -- for this text's walks alone
set_option linter.unusedVariables false
set_option linter.unusedSimpArgs false

attribute [local go_sem high] eqA30
/-! ### spec_AddMeasures: function 13 -/
mutual
def spec_AddMeasures.j0 : Nat → Int → Bool → Int → Int → Int → List (S63) → Int → Int → Int → List (S63) → Option (Int × Int × Int × (List (S63)) × Int)
 | 0, _, _, _, _, _, _, _, _, _, _ => none
 | k + 1, x0, x12, x255000, x255001, x255002, x255003, x256000, x256001, x256002, x256003 => if x12 = true then (some (0, 0, 0, ([] : List (S63)), 1)) else (if (!(x255000 == x256000) || (!(x255001 == x256001) || (!(x255002 == x256002)))) = true then (some (0, 0, 0, ([] : List (S63)), 5)) else (if (x255003.length : Int) = (x256003.length : Int) then (spec_AddMeasures.l0 k x0 (([] : List (S63))) 0 x255000 x255001 x255002 x255003 x256000 x256001 x256002 x256003) else (some (0, 0, 0, ([] : List (S63)), 5))))
def spec_AddMeasures.l0 : Nat → Int → List (S63) → Int → Int → Int → Int → List (S63) → Int → Int → Int → List (S63) → Option (Int × Int × Int × (List (S63)) × Int)
 | 0, _, _, _, _, _, _, _, _, _, _, _ => none
 | k + 1, x0, x8, x9, x255000, x255001, x255002, x255003, x256000, x256001, x256002, x256003 => if x9 < (x255003.length : Int) then (if 0 ≤ x9 then (if x9 < (x256003.length : Int) then (if (!(((rd_T63 x255003 x9).f0.f0) == ((rd_T63 x256003 x9).f0.f0)) || (!(((rd_T63 x255003 x9).f0.f1) == ((rd_T63 x256003 x9).f0.f1)) || (!(((rd_T63 x255003 x9).f0.f2) == ((rd_T63 x256003 x9).f0.f2))))) = true then (some (0, 0, 0, ([] : List (S63)), 5)) else (if x8.length < 4398046511104 then (spec_AddMeasures.l0 k x0 (x8 ++ [(⟨(⟨(rd_T63 x255003 x9).f0.f0, (rd_T63 x255003 x9).f0.f1, (rd_T63 x255003 x9).f0.f2⟩ : S30), wrap64 (((rd_T63 x255003 x9).f1) + ((rd_T63 x256003 x9).f1))⟩ : S63)]) (wrap64 (x9 + 1)) x255000 x255001 x255002 x255003 x256000 x256001 x256002 x256003) else (none))) else (none)) else (none)) else ((spec_l08Told.f k x0 x255000 x255001 x255002 x8).bind fun bt270 => (some (bt270.1, bt270.2.1, bt270.2.2.1, bt270.2.2.2.1, bt270.2.2.2.2)))
end
def spec_AddMeasures.f (k : Nat) (a0 : Int) (a1_0 : Int) (a1_1 : Int) (a1_2 : Int) (l1_3 : List (S63)) (a2_0 : Int) (a2_1 : Int) (a2_2 : Int) (l2_3 : List (S63)) : Option (Int × Int × Int × (List (S63)) × Int) := (spec_l08Is.f k a0 a1_0 a1_1 a1_2 l1_3).bind fun t257 => (if t257 = true then ((spec_l08Is.f k a0 a2_0 a2_1 a2_2 l2_3).bind fun t258 => (spec_AddMeasures.j0 k a0 (!t258) a1_0 a1_1 a1_2 l1_3 a2_0 a2_1 a2_2 l2_3)) else (spec_AddMeasures.j0 k a0 true a1_0 a1_1 a1_2 l1_3 a2_0 a2_1 a2_2 l2_3))
def spec_AddMeasures.T9 : Bool × List (List Nat × List Nat) := (true, [([], []), ([0], [0]), ([], []), ([1, 2], [1, 2]), ([3], [3]), ([4], [4]), ([], []), ([6], [6]), ([], []), ([7, 8], [7, 8]), ([9], [9]), ([10], [10]), ([5, 11], [5, 11])])
def spec_AddMeasures.B9 : List Nat := [0, 1, 0, 7, 15, 31, 0, 64, 0, 448, 960, 1984, 4095]
theorem spec_AddMeasures.tab9 : rtab .any (opsOf Try.f13 9) = spec_AddMeasures.T9 := by kernel_rfl
theorem spec_AddMeasures.bits9 : waitsOk spec_AddMeasures.T9.2 spec_AddMeasures.B9 = true := by kernel_rfl
def spec_AddMeasures.T11 : Bool × List (List Nat × List Nat) := (true, [([], []), ([], []), ([1], [1]), ([], []), ([2, 3], [2, 3]), ([4], [4]), ([5], [5]), ([], []), ([7], [7]), ([], []), ([8, 9], [8, 9]), ([10], [10]), ([11], [11]), ([], []), ([13], [13]), ([], []), ([14, 15], [14, 15]), ([16], [16]), ([17], [17]), ([12, 18], [12, 18]), ([6, 19], [6, 19]), ([20], [20]), ([0, 21], [0, 21]), ([22, 22, 0, 1, 2, 3, 4, 5, 6, 7, 8, 9, 10, 11, 12, 13, 14, 15, 16, 17, 18, 19, 20, 21, 22], [0, 22])])
def spec_AddMeasures.B11 : List Nat := [0, 0, 2, 0, 14, 30, 62, 0, 128, 0, 896, 1920, 3968, 0, 8192, 0, 57344, 122880, 253952, 524160, 1048574, 2097150, 4194303, 8388607]
theorem spec_AddMeasures.tab11 : rtab .any (opsOf Try.f13 11) = spec_AddMeasures.T11 := by kernel_rfl
theorem spec_AddMeasures.bits11 : waitsOk spec_AddMeasures.T11.2 spec_AddMeasures.B11 = true := by kernel_rfl
set_option maxHeartbeats 8000000 in
set_option maxRecDepth 100000 in
theorem spec_AddMeasures.calls (k : Nat) (a0 : Int) (a1_0 : Int) (a1_1 : Int) (a1_2 : Int) (A1_3 : Option Addr) (c1_3 : Nat) (l1_3 : List (S63)) (a2_0 : Int) (a2_1 : Int) (a2_2 : Int) (A2_3 : Option Addr) (c2_3 : Nat) (l2_3 : List (S63)) (r1 : Int) (r2 : Int) (r3 : Int) (r4 : List (S63)) (r5 : Int) (w : World) (hr1_3 : Kd.C k63 w A1_3 l1_3.length l1_3) (hc1_3 : l1_3.length ≤ c1_3) (hr2_3 : Kd.C k63 w A2_3 l2_3.length l2_3) (hc2_3 : l2_3.length ≤ c2_3) (h : spec_AddMeasures.f k a0 a1_0 a1_1 a1_2 l1_3 a2_0 a2_1 a2_2 l2_3 = some (r1, r2, r3, r4, r5)) :
  Calls Try.prog 13 #[.int .i64 a0, .agg #[.int .i64 a1_0, .int .i64 a1_1, .int .i64 a1_2, .slice A1_3 l1_3.length c1_3], .agg #[.int .i64 a2_0, .int .i64 a2_1, .int .i64 a2_2, .slice A2_3 l2_3.length c2_3]] w fun e w' => ∃ v3_ : Value, e = .returned (.tuple #[.agg #[.int .i64 r1, .int .i64 r2, .int .i64 r3, v3_], .int .i64 r5]) ∧ Kd.R k63 63 w' w.heap.size (fun _ => True) v3_ r4 ∧ Below w.heap.size w w' := by
 have hu33 := Try.underlying33
 have hu30 := Try.underlying30
 have hu63 := Try.underlying63
 have HR1_3 := Aside0.mk hr1_3
 have HC1_3 := Aside0.mk hc1_3
 clear hr1_3 hc1_3
 have HR2_3 := Aside0.mk hr2_3
 have HC2_3 := Aside0.mk hc2_3
 clear hr2_3 hc2_3
 have HB := Aside0.mk (Below.refl w.heap.size w)
 have H : ((spec_l08Is.f k a0 a1_0 a1_1 a1_2 l1_3).bind fun t257 => (if t257 = true then ((spec_l08Is.f k a0 a2_0 a2_1 a2_2 l2_3).bind fun t258 => (spec_AddMeasures.j0 k a0 (!t258) a1_0 a1_1 a1_2 l1_3 a2_0 a2_1 a2_2 l2_3)) else (spec_AddMeasures.j0 k a0 true a1_0 a1_1 a1_2 l1_3 a2_0 a2_1 a2_2 l2_3))) = some (r1, r2, r3, r4, r5) := h
 clear h
 have HC4 := Aside0.mk H
 clear H
 go_enter Try.func13, Try.ntmps13
 go_upto_region 1 with (first | ((with_reducible refine gate_dst (N := 4) rfl ?_); (try (refine gate_guard (by rfl) ?_; dsimp only)); refine bx_ 4 #[.int .i64 a1_0, .int .i64 a1_1, .int .i64 a1_2, .slice A1_3 l1_3.length c1_3] 33 ?_; intro gb254 hg w5 hbox hb; have BK254 := Aside0.mk (hbox); have GW254 := bs_ HB hg; have GE254 := bs_ HB hg; replace HB := bt_ HB hb; clear hb hbox hg) | ((with_reducible refine gate_dst (N := 5) rfl ?_); (try (refine gate_guard (by rfl) ?_; dsimp only)); refine bx_ 5 #[.int .i64 a2_0, .int .i64 a2_1, .int .i64 a2_2, .slice A2_3 l2_3.length c2_3] 33 ?_; intro gb255 hg w6 hbox hb; have BK255 := Aside0.mk (hbox); have GW255 := bs_ HB hg; have GE255 := bs_ HB hg; have NB254_255 := bm_ BK254 hg; have NB255_254 := bn_ BK254 hg; replace BK254 := bb_ BK254 hb; replace HB := bt_ HB hb; clear hb hbox hg) | ((with_reducible refine gate_dst (N := 6) rfl ?_); (try (refine gate_guard (by rfl) ?_; dsimp only)); refine bx_ 6 #[.int .i64 0, .int .i64 0, .int .i64 0, .slice none 0 0] 33 ?_; intro gb256 hg w7 hbox hb; have BK256 := Aside0.mk (hbox); have GW256 := bs_ HB hg; have GE256 := bs_ HB hg; have NB254_256 := bm_ BK254 hg; have NB256_254 := bn_ BK254 hg; have NB255_256 := bm_ BK255 hg; have NB256_255 := bn_ BK255 hg; replace BK254 := bb_ BK254 hb; replace BK255 := bb_ BK255 hb; replace HB := bt_ HB hb; clear hb hbox hg))
 (try simp only [Act.put, lstS, lstZ, lstC])
 go_cut [12] (fun v12 wc => ∃ (kq : Nat) (x12_3 : Bool), v12 = .bool x12_3 ∧ Aside0 (spec_AddMeasures.j0 kq a0 x12_3 a1_0 a1_1 a1_2 l1_3 a2_0 a2_1 a2_2 l2_3 = some (r1, r2, r3, r4, r5)) ∧ Aside0 (kq ≤ k) ∧ Aside0 (wc.heap[gb254]? = some (.cells #[.int .i64 a1_0, .int .i64 a1_1, .int .i64 a1_2, (.slice A1_3 l1_3.length c1_3)] 33 (0, 0))) ∧ Aside0 (wc.heap[gb255]? = some (.cells #[.int .i64 a2_0, .int .i64 a2_1, .int .i64 a2_2, (.slice A2_3 l2_3.length c2_3)] 33 (0, 0))) ∧ Aside0 (wc.heap[gb256]? = some (.cells #[.int .i64 0, .int .i64 0, .int .i64 0, (.slice none 0 0)] 33 (0, 0))) ∧ Aside0 (Below w.heap.size w wc))
 case first =>
  have H := HC4.out
  clear HC4
  replace H := Option.bind_eq_some_iff.mp H
  obtain ⟨t257, A80, H⟩ := H
  have A8 := Aside0.mk A80
  clear A80
  by_cases c9 : t257 = true
  ·subst c9
   have H1 : ((spec_l08Is.f k a0 a2_0 a2_1 a2_2 l2_3).bind fun t258 => (spec_AddMeasures.j0 k a0 (!t258) a1_0 a1_1 a1_2 l1_3 a2_0 a2_1 a2_2 l2_3)) = some (r1, r2, r3, r4, r5) := by rw [if_pos rfl] at H; exact H
   clear H
   have H := H1
   clear H1
   replace H := Option.bind_eq_some_iff.mp H
   obtain ⟨t258, A100, H⟩ := H
   have A10 := Aside0.mk A100
   clear A100
   have H' := Aside0.mk H
   clear H
   have hnb11 := NB254_255.out
   have hnc11 := NB255_254.out
   have hnb12 := NB254_256.out
   have hnc12 := NB256_254.out
   have hcz13_0 : w7.cell? ⟨gb254, 0, none⟩ = some (.int .i64 a1_0) := cz_ BK254 0
   have hcz13_1 : w7.cell? ⟨gb254, 1, none⟩ = some (.int .i64 a1_1) := cz_ BK254 1
   have hcz13_2 : w7.cell? ⟨gb254, 2, none⟩ = some (.int .i64 a1_2) := cz_ BK254 2
   have hcz13_3 : w7.cell? ⟨gb254, 3, none⟩ = some (.slice A1_3 l1_3.length c1_3) := cz_ BK254 3
   have hfz13_0 := fz_ BK254 0
   have hfz13_1 := fz_ BK254 1
   have hfz13_2 := fz_ BK254 2
   have hfz13_3 := fz_ BK254 3
   go_wp2_with (first | ((with_reducible refine gate_callee (f := 34) rfl ?_); refine ge_ 15 Try.func34 #[.int .i64 a0, .agg #[.int .i64 a1_0, .int .i64 a1_1, .int .i64 a1_2, .slice A1_3 l1_3.length c1_3]] ?_; (with_reducible refine (spec_l08Is.calls k a0 a1_0 a1_1 a1_2 _ _ l1_3 true _ ?side1 ?side2 A8.out).mono ?_); (case side1 => repeat (first | exact (Kd.C_below HR1_3.out (bw_ HB).out) | (with_reducible refine Kd.C_alloc ?_ _) | (with_reducible refine Kd.C_drewN ?_ _) | (with_reducible refine Kd.C_drew ?_))); (case side2 => exact HC1_3.out); rintro e w14 ⟨rfl, hb⟩; refine ⟨_, rfl, ?_⟩; replace BK254 := bb_ BK254 hb; replace BK255 := bb_ BK255 hb; replace BK256 := bb_ BK256 hb; replace HB := bt_ HB hb; (try clear hb); (try clear hb2); (try clear hk); (try clear hi); have hnb15 := NB255_256.out; have hnc15 := NB256_255.out; have hcz16_0 : w14.cell? ⟨gb255, 0, none⟩ = some (.int .i64 a2_0) := cz_ BK255 0; have hcz16_1 : w14.cell? ⟨gb255, 1, none⟩ = some (.int .i64 a2_1) := cz_ BK255 1; have hcz16_2 : w14.cell? ⟨gb255, 2, none⟩ = some (.int .i64 a2_2) := cz_ BK255 2; have hcz16_3 : w14.cell? ⟨gb255, 3, none⟩ = some (.slice A2_3 l2_3.length c2_3) := cz_ BK255 3; have hfz16_0 := fz_ BK255 0; have hfz16_1 := fz_ BK255 1; have hfz16_2 := fz_ BK255 2; have hfz16_3 := fz_ BK255 3) | (go_at_call 34; (with_reducible refine (spec_l08Is.calls k a0 a2_0 a2_1 a2_2 _ _ l2_3 t258 _ ?side1 ?side2 A10.out).mono ?_); (case side1 => repeat (first | exact (Kd.C_below HR2_3.out HB.out) | (with_reducible refine Kd.C_alloc ?_ _) | (with_reducible refine Kd.C_drewN ?_ _) | (with_reducible refine Kd.C_drew ?_))); (case side2 => exact HC2_3.out); rintro e w17 ⟨rfl, hb⟩; replace BK254 := bb_ BK254 hb; replace BK255 := bb_ BK255 hb; replace BK256 := bb_ BK256 hb; replace HB := bt_ HB hb; (try clear hb); (try clear hb2); (try clear hk); (try clear hi)))
   go_meet
   case rel => exact ⟨_, (!t258), (by first | rfl | (simp; done) | (simp [*]; done) | (simp [wrap64]; done)), H', ⟨by first | omega | exact Nat.le_refl _⟩, bl_ BK254, bl_ BK255, bl_ BK256, bw_ HB⟩
  ·replace c9 := Bool.eq_false_iff.mpr c9
   subst c9
   have H1 : (spec_AddMeasures.j0 k a0 true a1_0 a1_1 a1_2 l1_3 a2_0 a2_1 a2_2 l2_3) = some (r1, r2, r3, r4, r5) := by rw [if_neg (show ¬ (false = true) by decide)] at H; exact H
   clear H
   have H := H1
   clear H1
   have H' := Aside0.mk H
   clear H
   have hnb18 := NB254_255.out
   have hnc18 := NB255_254.out
   have hnb19 := NB254_256.out
   have hnc19 := NB256_254.out
   have hcz20_0 : w7.cell? ⟨gb254, 0, none⟩ = some (.int .i64 a1_0) := cz_ BK254 0
   have hcz20_1 : w7.cell? ⟨gb254, 1, none⟩ = some (.int .i64 a1_1) := cz_ BK254 1
   have hcz20_2 : w7.cell? ⟨gb254, 2, none⟩ = some (.int .i64 a1_2) := cz_ BK254 2
   have hcz20_3 : w7.cell? ⟨gb254, 3, none⟩ = some (.slice A1_3 l1_3.length c1_3) := cz_ BK254 3
   have hfz20_0 := fz_ BK254 0
   have hfz20_1 := fz_ BK254 1
   have hfz20_2 := fz_ BK254 2
   have hfz20_3 := fz_ BK254 3
   go_wp2_with (first | ((with_reducible refine gate_callee (f := 34) rfl ?_); refine ge_ 15 Try.func34 #[.int .i64 a0, .agg #[.int .i64 a1_0, .int .i64 a1_1, .int .i64 a1_2, .slice A1_3 l1_3.length c1_3]] ?_; (with_reducible refine (spec_l08Is.calls k a0 a1_0 a1_1 a1_2 _ _ l1_3 false _ ?side1 ?side2 A8.out).mono ?_); (case side1 => repeat (first | exact (Kd.C_below HR1_3.out (bw_ HB).out) | (with_reducible refine Kd.C_alloc ?_ _) | (with_reducible refine Kd.C_drewN ?_ _) | (with_reducible refine Kd.C_drew ?_))); (case side2 => exact HC1_3.out); rintro e w21 ⟨rfl, hb⟩; refine ⟨_, rfl, ?_⟩; replace BK254 := bb_ BK254 hb; replace BK255 := bb_ BK255 hb; replace BK256 := bb_ BK256 hb; replace HB := bt_ HB hb; (try clear hb); (try clear hb2); (try clear hk); (try clear hi)))
   go_meet
   case rel => exact ⟨_, (true), (by first | rfl | (simp; done) | (simp [*]; done) | (simp [wrap64]; done)), H', ⟨by first | omega | exact Nat.le_refl _⟩, bl_ BK254, bl_ BK255, bl_ BK256, bw_ HB⟩
 case rest =>
  clear HC4
  try clear c1
  try clear c2
  try clear p2
  try clear c3
  try clear c9
  try clear c11
  try clear c12
  try clear c13
  try clear c15
  try clear c18
  try clear c19
  try clear hcz13_0
  try clear hcz13_1
  try clear hcz13_2
  try clear hcz13_3
  try clear hcz16_0
  try clear hcz16_1
  try clear hcz16_2
  try clear hcz16_3
  try clear hcz20_0
  try clear hcz20_1
  try clear hcz20_2
  try clear hcz20_3
  try clear hfz13_0
  try clear hfz13_1
  try clear hfz13_2
  try clear hfz13_3
  try clear hfz16_0
  try clear hfz16_1
  try clear hfz16_2
  try clear hfz16_3
  try clear hfz20_0
  try clear hfz20_1
  try clear hfz20_2
  try clear hfz20_3
  obtain ⟨kq, x12_3, rfl, HA, HJ3, BK254, BK255, BK256, HB⟩ := hcut
  cases kq with
  | zero => exact absurd HA.out (by simp [spec_AddMeasures.j0])
  | succ kj3 =>
   have H := HA.out
   clear HA
   simp only [spec_AddMeasures.j0] at H
   by_cases c22 : x12_3 = true
   ·subst c22
    have H1 : (some (0, 0, 0, ([] : List (S63)), 1)) = some (r1, r2, r3, r4, r5) := by rw [if_pos rfl] at H; exact H
    clear H
    have H := H1
    clear H1
    simp only [Option.some.injEq, Prod.mk.injEq] at H
    obtain ⟨rfl, rfl, rfl, rfl, rfl⟩ := H
    have hnb23 := NB256_254.out
    have hnc23 := NB254_256.out
    have hnb24 := NB256_255.out
    have hnc24 := NB255_256.out
    have hcz25_0 : wc.cell? ⟨gb256, 0, none⟩ = some (.int .i64 0) := cz_ BK256 0
    have hcz25_1 : wc.cell? ⟨gb256, 1, none⟩ = some (.int .i64 0) := cz_ BK256 1
    have hcz25_2 : wc.cell? ⟨gb256, 2, none⟩ = some (.int .i64 0) := cz_ BK256 2
    have hcz25_3 : wc.cell? ⟨gb256, 3, none⟩ = some (.slice none 0 0) := cz_ BK256 3
    have hfz25_0 := fz_ BK256 0
    have hfz25_1 := fz_ BK256 1
    have hfz25_2 := fz_ BK256 2
    have hfz25_3 := fz_ BK256 3
    go_wp2
    refine bodyPost_ret (results_ct rfl _ _ gb256 33 #[.int .i64 0, .int .i64 0, .int .i64 0, .slice none 0 0] (0, 0) _ rfl (by (with_reducible repeat first | apply blk_drewN | apply blk_drew | apply blk_alloc); refine blk_put (cs := #[.int .i64 0, .int .i64 0, .int .i64 0, .slice none 0 0]) ?_ 3 _ rfl; (with_reducible repeat first | apply blk_drewN | apply blk_drew | apply blk_alloc); refine blk_put (cs := #[.int .i64 0, .int .i64 0, .int .i64 0, .slice none 0 0]) ?_ 2 _ rfl; (with_reducible repeat first | apply blk_drewN | apply blk_drew | apply blk_alloc); refine blk_put (cs := #[.int .i64 0, .int .i64 0, .int .i64 0, .slice none 0 0]) ?_ 1 _ rfl; (with_reducible repeat first | apply blk_drewN | apply blk_drew | apply blk_alloc); refine blk_put (cs := #[.int .i64 0, .int .i64 0, .int .i64 0, .slice none 0 0]) ?_ 0 _ rfl; (with_reducible repeat first | apply blk_drewN | apply blk_drew | apply blk_alloc); exact BK256.out) Try.underlying33 rfl (by kernel_rfl)) rfl ?_
    exact ⟨_, by first | rfl | (simp [errW_none, errW_some] <;> rfl) | (simp [*, errW_none, errW_some] <;> rfl), by first | exact Kd.R_nil _ _ _ _ _ | exact Kd.N_nil _ _ _ _ _ | exact Kd.V_nil _ _ _ _ _ | exact Kd.Q_nil _ _ _ _ _ | exact Kd.S_nil _ _ _ _ _, by repeat (first | (with_reducible first | exact HB.out | apply below_alloc | apply pw_below_drewN | apply below_drew1 | refine below_set ?_ GE254.out | refine below_set ?_ GE255.out | refine below_set ?_ GE256.out) | exact HB.out)⟩
   ·replace c22 := Bool.eq_false_iff.mpr c22
    subst c22
    have H1 : (if (!(a1_0 == a2_0) || (!(a1_1 == a2_1) || (!(a1_2 == a2_2)))) = true then (some (0, 0, 0, ([] : List (S63)), 5)) else (if (l1_3.length : Int) = (l2_3.length : Int) then (spec_AddMeasures.l0 kj3 a0 (([] : List (S63))) 0 a1_0 a1_1 a1_2 l1_3 a2_0 a2_1 a2_2 l2_3) else (some (0, 0, 0, ([] : List (S63)), 5)))) = some (r1, r2, r3, r4, r5) := by rw [if_neg (show ¬ (false = true) by decide)] at H; exact H
    clear H
    have H := H1
    clear H1
    by_cases c26 : (!(a1_0 == a2_0) || (!(a1_1 == a2_1) || (!(a1_2 == a2_2)))) = true
    ·rw [if_pos c26] at H
     have c26b0 : (!(a1_0 == a2_0) || (!(a1_1 == a2_1) || (!(a1_2 == a2_2)))) = true := c26
     clear c26
     simp only [Option.some.injEq, Prod.mk.injEq] at H
     obtain ⟨rfl, rfl, rfl, rfl, rfl⟩ := H
     have hnb27 := NB254_255.out
     have hnc27 := NB255_254.out
     have hnb28 := NB254_256.out
     have hnc28 := NB256_254.out
     have hcz29_0 : wc.cell? ⟨gb254, 0, none⟩ = some (.int .i64 a1_0) := cz_ BK254 0
     have hcz29_1 : wc.cell? ⟨gb254, 1, none⟩ = some (.int .i64 a1_1) := cz_ BK254 1
     have hcz29_2 : wc.cell? ⟨gb254, 2, none⟩ = some (.int .i64 a1_2) := cz_ BK254 2
     have hcz29_3 : wc.cell? ⟨gb254, 3, none⟩ = some (.slice A1_3 l1_3.length c1_3) := cz_ BK254 3
     have hfz29_0 := fz_ BK254 0
     have hfz29_1 := fz_ BK254 1
     have hfz29_2 := fz_ BK254 2
     have hfz29_3 := fz_ BK254 3
     have hnb30 := NB255_256.out
     have hnc30 := NB256_255.out
     have hcz31_0 : wc.cell? ⟨gb255, 0, none⟩ = some (.int .i64 a2_0) := cz_ BK255 0
     have hcz31_1 : wc.cell? ⟨gb255, 1, none⟩ = some (.int .i64 a2_1) := cz_ BK255 1
     have hcz31_2 : wc.cell? ⟨gb255, 2, none⟩ = some (.int .i64 a2_2) := cz_ BK255 2
     have hcz31_3 : wc.cell? ⟨gb255, 3, none⟩ = some (.slice A2_3 l2_3.length c2_3) := cz_ BK255 3
     have hfz31_0 := fz_ BK255 0
     have hfz31_1 := fz_ BK255 1
     have hfz31_2 := fz_ BK255 2
     have hfz31_3 := fz_ BK255 3
     have hcz32_0 : wc.cell? ⟨gb256, 0, none⟩ = some (.int .i64 0) := cz_ BK256 0
     have hcz32_1 : wc.cell? ⟨gb256, 1, none⟩ = some (.int .i64 0) := cz_ BK256 1
     have hcz32_2 : wc.cell? ⟨gb256, 2, none⟩ = some (.int .i64 0) := cz_ BK256 2
     have hcz32_3 : wc.cell? ⟨gb256, 3, none⟩ = some (.slice none 0 0) := cz_ BK256 3
     have hfz32_0 := fz_ BK256 0
     have hfz32_1 := fz_ BK256 1
     have hfz32_2 := fz_ BK256 2
     have hfz32_3 := fz_ BK256 3
     go_wp2
     refine bodyPost_ret (results_ct rfl _ _ gb256 33 #[.int .i64 0, .int .i64 0, .int .i64 0, .slice none 0 0] (0, 0) _ rfl (by (with_reducible repeat first | apply blk_drewN | apply blk_drew | apply blk_alloc); refine blk_put (cs := #[.int .i64 0, .int .i64 0, .int .i64 0, .slice none 0 0]) ?_ 3 _ rfl; (with_reducible repeat first | apply blk_drewN | apply blk_drew | apply blk_alloc); refine blk_put (cs := #[.int .i64 0, .int .i64 0, .int .i64 0, .slice none 0 0]) ?_ 2 _ rfl; (with_reducible repeat first | apply blk_drewN | apply blk_drew | apply blk_alloc); refine blk_put (cs := #[.int .i64 0, .int .i64 0, .int .i64 0, .slice none 0 0]) ?_ 1 _ rfl; (with_reducible repeat first | apply blk_drewN | apply blk_drew | apply blk_alloc); refine blk_put (cs := #[.int .i64 0, .int .i64 0, .int .i64 0, .slice none 0 0]) ?_ 0 _ rfl; (with_reducible repeat first | apply blk_drewN | apply blk_drew | apply blk_alloc); exact BK256.out) Try.underlying33 rfl (by kernel_rfl)) rfl ?_
     exact ⟨_, by first | rfl | (simp [errW_none, errW_some] <;> rfl) | (simp [*, errW_none, errW_some] <;> rfl), by first | exact Kd.R_nil _ _ _ _ _ | exact Kd.N_nil _ _ _ _ _ | exact Kd.V_nil _ _ _ _ _ | exact Kd.Q_nil _ _ _ _ _ | exact Kd.S_nil _ _ _ _ _, by repeat (first | (with_reducible first | exact HB.out | apply below_alloc | apply pw_below_drewN | apply below_drew1 | refine below_set ?_ GE254.out | refine below_set ?_ GE255.out | refine below_set ?_ GE256.out) | exact HB.out)⟩
    ·rw [if_neg c26] at H
     have c26b0 : (!(a1_0 == a2_0) || (!(a1_1 == a2_1) || (!(a1_2 == a2_2)))) = false := by simpa using c26
     clear c26
     by_cases c33 : (l1_3.length : Int) = (l2_3.length : Int)
     ·rw [if_pos c33] at H
      have c33b0 : ((l1_3.length : Int) == (l2_3.length : Int)) = true := beq_iff_eq.mpr c33
      have c33b1 : ((l1_3.length : Int) != (l2_3.length : Int)) = false := bne_eq_false_iff_eq.mpr c33
      have c33b2 : (l1_3.length == l2_3.length) = true := by first | simpa using c33 | (simp at c33 ⊢; omega)
      clear c33
      obtain ⟨y259, hy259⟩ : ∃ y_ : List (S63), y_ = (([] : List (S63))) := ⟨_, rfl⟩
      replace H : (spec_AddMeasures.l0 kj3 a0 y259 0 a1_0 a1_1 a1_2 l1_3 a2_0 a2_1 a2_2 l2_3) = some (r1, r2, r3, r4, r5) := by first | (rw [hy259]; with_reducible exact H) | (have H2_ := (Option.bind_some _ _).symm.trans H; rw [hy259]; with_reducible exact H2_) | (have H2_ := (Option.bind_some _ _).symm.trans H; with_reducible exact H2_) | with_reducible exact H | (rw [hy259]; exact H) | exact H
      have Ny259 := Aside0.mk hy259
      clear hy259
      have H' := Aside0.mk H
      clear H
      have hnb34 := NB254_255.out
      have hnc34 := NB255_254.out
      have hnb35 := NB254_256.out
      have hnc35 := NB256_254.out
      have hcz36_0 : wc.cell? ⟨gb254, 0, none⟩ = some (.int .i64 a1_0) := cz_ BK254 0
      have hcz36_1 : wc.cell? ⟨gb254, 1, none⟩ = some (.int .i64 a1_1) := cz_ BK254 1
      have hcz36_2 : wc.cell? ⟨gb254, 2, none⟩ = some (.int .i64 a1_2) := cz_ BK254 2
      have hcz36_3 : wc.cell? ⟨gb254, 3, none⟩ = some (.slice A1_3 l1_3.length c1_3) := cz_ BK254 3
      have hfz36_0 := fz_ BK254 0
      have hfz36_1 := fz_ BK254 1
      have hfz36_2 := fz_ BK254 2
      have hfz36_3 := fz_ BK254 3
      have hnb37 := NB255_256.out
      have hnc37 := NB256_255.out
      have hcz38_0 : wc.cell? ⟨gb255, 0, none⟩ = some (.int .i64 a2_0) := cz_ BK255 0
      have hcz38_1 : wc.cell? ⟨gb255, 1, none⟩ = some (.int .i64 a2_1) := cz_ BK255 1
      have hcz38_2 : wc.cell? ⟨gb255, 2, none⟩ = some (.int .i64 a2_2) := cz_ BK255 2
      have hcz38_3 : wc.cell? ⟨gb255, 3, none⟩ = some (.slice A2_3 l2_3.length c2_3) := cz_ BK255 3
      have hfz38_0 := fz_ BK255 0
      have hfz38_1 := fz_ BK255 1
      have hfz38_2 := fz_ BK255 2
      have hfz38_3 := fz_ BK255 3
      go_wp2_with (first | ((with_reducible refine gate_dst (N := 40) rfl ?_); (try (refine gate_guard (by rfl) ?_; dsimp only)); refine Kd.R_lit k63 _ 63 ?hg (N := 40) ?hd (xs := ([] : List (S63))) (inner := []) (ok := fun _ => True) (okp := fun _ => True) ?hr ?hp (fun _ hk => hk) trivial (Below.refl _ _) (Nat.le_refl _) (by simp) ?_; (case hd => rfl); (case hg => rfl); (case hr => first | (go_simp; done) | (go_simp; rfl)); (case hp => exact (Reps.none _ _)); intro v260 w39 ho40 hb hg_ hnew_; clear hg_ hnew_; (first | rw [← Ny259.out] at ho40 | (simp only [Int.reduceToNat] at ho40; rw [← Ny259.out] at ho40)); have HO261 := Aside0.mk (Kd.R_lower ho40 (below_size (bw_ HB).out)); replace BK254 := bb_ BK254 hb; replace BK255 := bb_ BK255 hb; replace BK256 := bb_ BK256 hb; replace HB := bt_ HB hb; clear hb ho40))
      go_loopg [8, 9] kj3 (fun kq v8 v9 w' => ∃ (x8_2 : List (S63)) (x9_2 : Int) (x257000_2 : Int) (x257001_2 : Int) (x257002_2 : Int), v9 = .int .i64 x9_2 ∧ Aside0 (spec_AddMeasures.l0 kq a0 x8_2 x9_2 a1_0 a1_1 a1_2 l1_3 a2_0 a2_1 a2_2 l2_3 = some (r1, r2, r3, r4, r5)) ∧ Aside0 (kq ≤ kj3) ∧ Aside0 (Kd.R k63 63 w' w.heap.size (fun _ => True) v8 x8_2) ∧ Aside0 (w'.heap[gb254]? = some (.cells #[.int .i64 a1_0, .int .i64 a1_1, .int .i64 a1_2, (.slice A1_3 l1_3.length c1_3)] 33 (0, 0))) ∧ Aside0 (w'.heap[gb255]? = some (.cells #[.int .i64 a2_0, .int .i64 a2_1, .int .i64 a2_2, (.slice A2_3 l2_3.length c2_3)] 33 (0, 0))) ∧ Aside0 (w'.heap[gb256]? = some (.cells #[.int .i64 x257000_2, .int .i64 x257001_2, .int .i64 x257002_2, (.slice none 0 0)] 33 (0, 0))) ∧ Aside0 (Below w.heap.size w w'))
      case atStart => exact ⟨(y259), (0), (0), (0), (0), (by first | rfl | (simp; done) | (simp [*]; done) | (simp [wrap64]; done)), H', ⟨Nat.le_refl _⟩, ⟨by (with_reducible repeat (first | apply Kd.R_alloc | apply Kd.R_drewN | apply Kd.R_drew)); exact HO261.out⟩, bl_ BK254, bl_ BK255, bl_ BK256, bw_ HB⟩
      case round =>
       clear H'
       try clear c1
       try clear c2
       try clear p2
       try clear c3
       try clear c9
       try clear c11
       try clear c12
       try clear c13
       try clear c15
       try clear c18
       try clear c19
       try clear c22
       try clear c23
       try clear c24
       try clear c26
       try clear c26b0
       try clear c27
       try clear c28
       try clear c30
       try clear c33
       try clear c33b0
       try clear c33b1
       try clear c33b2
       try clear c34
       try clear c35
       try clear c37
       try clear hcz13_0
       try clear hcz13_1
       try clear hcz13_2
       try clear hcz13_3
       try clear hcz16_0
       try clear hcz16_1
       try clear hcz16_2
       try clear hcz16_3
       try clear hcz20_0
       try clear hcz20_1
       try clear hcz20_2
       try clear hcz20_3
       try clear hcz25_0
       try clear hcz25_1
       try clear hcz25_2
       try clear hcz25_3
       try clear hcz29_0
       try clear hcz29_1
       try clear hcz29_2
       try clear hcz29_3
       try clear hcz31_0
       try clear hcz31_1
       try clear hcz31_2
       try clear hcz31_3
       try clear hcz32_0
       try clear hcz32_1
       try clear hcz32_2
       try clear hcz32_3
       try clear hcz36_0
       try clear hcz36_1
       try clear hcz36_2
       try clear hcz36_3
       try clear hcz38_0
       try clear hcz38_1
       try clear hcz38_2
       try clear hcz38_3
       try clear hfz13_0
       try clear hfz13_1
       try clear hfz13_2
       try clear hfz13_3
       try clear hfz16_0
       try clear hfz16_1
       try clear hfz16_2
       try clear hfz16_3
       try clear hfz20_0
       try clear hfz20_1
       try clear hfz20_2
       try clear hfz20_3
       try clear hfz25_0
       try clear hfz25_1
       try clear hfz25_2
       try clear hfz25_3
       try clear hfz29_0
       try clear hfz29_1
       try clear hfz29_2
       try clear hfz29_3
       try clear hfz31_0
       try clear hfz31_1
       try clear hfz31_2
       try clear hfz31_3
       try clear hfz32_0
       try clear hfz32_1
       try clear hfz32_2
       try clear hfz32_3
       try clear hfz36_0
       try clear hfz36_1
       try clear hfz36_2
       try clear hfz36_3
       try clear hfz38_0
       try clear hfz38_1
       try clear hfz38_2
       try clear hfz38_3
       try clear p2
       obtain ⟨x8_2, x9_2, x257000_2, x257001_2, x257002_2, rfl, HA, HK2, HO_8, BK254, BK255, BK256, HB⟩ := hrel
       cases gk with
       | zero => exact absurd HA.out (by simp [spec_AddMeasures.l0])
       | succ k2 =>
        have H := HA.out
        clear HA
        simp only [spec_AddMeasures.l0] at H
        by_cases c41 : x9_2 < (l1_3.length : Int)
        ·rw [if_pos c41] at H
         have c41b0 : decide (x9_2 < (l1_3.length : Int)) = true := decide_eq_true c41
         clear c41
         by_cases c42 : 0 ≤ x9_2
         ·rw [if_pos c42] at H
          have c42b0 : decide (0 ≤ x9_2) = true := decide_eq_true c42
          clear c42
          by_cases c43 : x9_2 < (l2_3.length : Int)
          ·rw [if_pos c43] at H
           have c43b0 : decide (x9_2 < (l2_3.length : Int)) = true := decide_eq_true c43
           clear c43
           by_cases c44 : (!(((rd_T63 l1_3 x9_2).f0.f0) == ((rd_T63 l2_3 x9_2).f0.f0)) || (!(((rd_T63 l1_3 x9_2).f0.f1) == ((rd_T63 l2_3 x9_2).f0.f1)) || (!(((rd_T63 l1_3 x9_2).f0.f2) == ((rd_T63 l2_3 x9_2).f0.f2))))) = true
           ·rw [if_pos c44] at H
            have c44b0 : (!(((rd_T63 l1_3 x9_2).f0.f0) == ((rd_T63 l2_3 x9_2).f0.f0)) || (!(((rd_T63 l1_3 x9_2).f0.f1) == ((rd_T63 l2_3 x9_2).f0.f1)) || (!(((rd_T63 l1_3 x9_2).f0.f2) == ((rd_T63 l2_3 x9_2).f0.f2))))) = true := c44
            clear c44
            simp only [Option.some.injEq, Prod.mk.injEq] at H
            obtain ⟨rfl, rfl, rfl, rfl, rfl⟩ := H
            have hnb45 := NB254_255.out
            have hnc45 := NB255_254.out
            have hnb46 := NB254_256.out
            have hnc46 := NB256_254.out
            have hcz47_0 : wr.cell? ⟨gb254, 0, none⟩ = some (.int .i64 a1_0) := cz_ BK254 0
            have hcz47_1 : wr.cell? ⟨gb254, 1, none⟩ = some (.int .i64 a1_1) := cz_ BK254 1
            have hcz47_2 : wr.cell? ⟨gb254, 2, none⟩ = some (.int .i64 a1_2) := cz_ BK254 2
            have hcz47_3 : wr.cell? ⟨gb254, 3, none⟩ = some (.slice A1_3 l1_3.length c1_3) := cz_ BK254 3
            have hfz47_0 := fz_ BK254 0
            have hfz47_1 := fz_ BK254 1
            have hfz47_2 := fz_ BK254 2
            have hfz47_3 := fz_ BK254 3
            try go_wp2
            replace HO_8 := Aside0.mk (Kd.R_drew HO_8.out)
            replace BK254 := Aside0.mk (blk_drew BK254.out)
            replace BK255 := Aside0.mk (blk_drew BK255.out)
            replace BK256 := Aside0.mk (blk_drew BK256.out)
            replace HB := Aside0.mk (below_drew1 HB.out)
            have p262 : 0 ≤ (x9_2 : Int) := of_decide_eq_true (by first | (with_reducible assumption) | assumption)
            have q262 : x9_2 < (l1_3.length : Int) := of_decide_eq_true (by first | (with_reducible assumption) | assumption)
            obtain ⟨ad262, e262, hx262_0, hx262_1, hx262_2, hx262_3⟩ := at_T63 HR1_3.out x9_2 p262 q262
            have hw262_3 := hx262_3
            have hw262_2 := hx262_2
            have hw262_1 := hx262_1
            have hw262_0 := hx262_0
            cases e262
            replace hx262_0 := clTr HB.out hx262_0
            replace hx262_1 := clTr HB.out hx262_1
            replace hx262_2 := clTr HB.out hx262_2
            replace hx262_3 := clTr HB.out hx262_3
            replace p262 := eq_true p262
            replace q262 := eq_true q262
            have p263 : 0 ≤ (x9_2 : Int) := of_decide_eq_true (by first | (with_reducible assumption) | assumption)
            have q263 : x9_2 < (l2_3.length : Int) := of_decide_eq_true (by first | (with_reducible assumption) | assumption)
            obtain ⟨ad263, e263, hx263_0, hx263_1, hx263_2, hx263_3⟩ := at_T63 HR2_3.out x9_2 p263 q263
            have hw263_3 := hx263_3
            have hw263_2 := hx263_2
            have hw263_1 := hx263_1
            have hw263_0 := hx263_0
            cases e263
            replace hx263_0 := clTr HB.out hx263_0
            replace hx263_1 := clTr HB.out hx263_1
            replace hx263_2 := clTr HB.out hx263_2
            replace hx263_3 := clTr HB.out hx263_3
            replace p263 := eq_true p263
            replace q263 := eq_true q263
            refine start_ (n := 13) (S := fun w' => w'.cell? ⟨gb254, 0, none⟩ = some (.int .i64 a1_0) ∧ w'.cell? ⟨gb254, 1, none⟩ = some (.int .i64 a1_1) ∧ w'.cell? ⟨gb254, 2, none⟩ = some (.int .i64 a1_2) ∧ w'.cell? ⟨gb254, 3, none⟩ = some (.slice (some ad262) l1_3.length c1_3) ∧ w'.cell? ⟨gb255, 0, none⟩ = some (.int .i64 a2_0) ∧ w'.cell? ⟨gb255, 1, none⟩ = some (.int .i64 a2_1) ∧ w'.cell? ⟨gb255, 2, none⟩ = some (.int .i64 a2_2) ∧ w'.cell? ⟨gb255, 3, none⟩ = some (.slice (some ad263) l2_3.length c2_3) ∧ w'.cell? (ad262.add ((x9_2).toNat * 4)) = some (.int .i64 ((rd_T63 l1_3 x9_2).f0.f0)) ∧ w'.cell? ⟨(ad262.add ((x9_2).toNat * 4)).block, (ad262.add ((x9_2).toNat * 4)).off + 1, none⟩ = some (.int .i64 ((rd_T63 l1_3 x9_2).f0.f1)) ∧ w'.cell? ⟨(ad262.add ((x9_2).toNat * 4)).block, (ad262.add ((x9_2).toNat * 4)).off + 2, none⟩ = some (.int .i64 ((rd_T63 l1_3 x9_2).f0.f2)) ∧ w'.cell? ⟨(ad262.add ((x9_2).toNat * 4)).block, (ad262.add ((x9_2).toNat * 4)).off + 3, none⟩ = some (.int .i64 ((rd_T63 l1_3 x9_2).f1)) ∧ w'.cell? (ad263.add ((x9_2).toNat * 4)) = some (.int .i64 ((rd_T63 l2_3 x9_2).f0.f0)) ∧ w'.cell? ⟨(ad263.add ((x9_2).toNat * 4)).block, (ad263.add ((x9_2).toNat * 4)).off + 1, none⟩ = some (.int .i64 ((rd_T63 l2_3 x9_2).f0.f1)) ∧ w'.cell? ⟨(ad263.add ((x9_2).toNat * 4)).block, (ad263.add ((x9_2).toNat * 4)).off + 2, none⟩ = some (.int .i64 ((rd_T63 l2_3 x9_2).f0.f2)) ∧ w'.cell? ⟨(ad263.add ((x9_2).toNat * 4)).block, (ad263.add ((x9_2).toNat * 4)).off + 3, none⟩ = some (.int .i64 ((rd_T63 l2_3 x9_2).f1))) (ds := []) (bv_ 13 0) (by kernel_rfl) rfl rfl ⟨(blk_cell BK254.out 0).trans rfl, (blk_cell BK254.out 1).trans rfl, (blk_cell BK254.out 2).trans rfl, (blk_cell BK254.out 3).trans rfl, (blk_cell BK255.out 0).trans rfl, (blk_cell BK255.out 1).trans rfl, (blk_cell BK255.out 2).trans rfl, (blk_cell BK255.out 3).trans rfl, (clTr HB.out hw262_0 :), (clTr HB.out hw262_1 :), (clTr HB.out hw262_2 :), (clTr HB.out hw262_3 :), (clTr HB.out hw263_0 :), (clTr HB.out hw263_1 :), (clTr HB.out hw263_2 :), (clTr HB.out hw263_3 :)⟩ (fun hHeld => ?_); refine with_tabW spec_AddMeasures.tab9 spec_AddMeasures.bits9 (fun HT_ HW_ => ?_)
            generalize wr.drew = w48 at HO_8 BK254 BK255 BK256 HB hx262_0 hx262_1 hx262_2 hx262_3 hx263_0 hx263_1 hx263_2 hx263_3 hHeld ⊢
            refine pu_ HT_ 0 (some 48) (bv_ 13 1) ?_
            refine pu_ HT_ 2 (some 50) (bv_ 13 5) ?_
            refine pu_ HT_ 6 (some 54) (bv_ 13 69) ?_
            refine pu_ HT_ 8 (some 56) (bv_ 13 325) ?_
            refine ta_ HT_ HW_ 1 (some 49) (bv_ 13 327) hHeld ?_ (hy := by rintro w' ⟨s0, s1, s2, s3, s4, s5, s6, s7, s8, s9, s10, s11, s12, s13, s14, s15⟩; go_simp; with_reducible rfl)
            refine pu_ HT_ 3 (some 51) (bv_ 13 335) ?_
            refine pu_ HT_ 4 (some 52) (bv_ 13 351) ?_
            refine ta_ HT_ HW_ 5 (some 53) (bv_ 13 383) hHeld ?_ (hy := by rintro w' ⟨s0, s1, s2, s3, s4, s5, s6, s7, s8, s9, s10, s11, s12, s13, s14, s15⟩; go_simp; with_reducible rfl)
            refine ta_ HT_ HW_ 7 (some 55) (bv_ 13 511) hHeld ?_ (hy := by rintro w' ⟨s0, s1, s2, s3, s4, s5, s6, s7, s8, s9, s10, s11, s12, s13, s14, s15⟩; go_simp; with_reducible rfl)
            refine pu_ HT_ 9 (some 57) (bv_ 13 1023) ?_
            refine pu_ HT_ 10 (some 58) (bv_ 13 2047) ?_
            refine ta_ HT_ HW_ 11 (some 59) (bv_ 13 4095) hHeld ?_ (hy := by rintro w' ⟨s0, s1, s2, s3, s4, s5, s6, s7, s8, s9, s10, s11, s12, s13, s14, s15⟩; go_simp; with_reducible rfl)
            refine pu_ HT_ 12 (some 60) (bv_ 13 8191) ?_
            refine done_ (done_of HT_.out (by kernel_rfl)) ?_
            have hnb49 := NB256_255.out
            have hnc49 := NB255_256.out
            have hcz50_0 : w48.cell? ⟨gb256, 0, none⟩ = some (.int .i64 x257000_2) := cz_ BK256 0
            have hcz50_1 : w48.cell? ⟨gb256, 1, none⟩ = some (.int .i64 x257001_2) := cz_ BK256 1
            have hcz50_2 : w48.cell? ⟨gb256, 2, none⟩ = some (.int .i64 x257002_2) := cz_ BK256 2
            have hcz50_3 : w48.cell? ⟨gb256, 3, none⟩ = some (.slice none 0 0) := cz_ BK256 3
            have hfz50_0 := fz_ BK256 0
            have hfz50_1 := fz_ BK256 1
            have hfz50_2 := fz_ BK256 2
            have hfz50_3 := fz_ BK256 3
            try go_wp2
            refine bodyPost_ret (results_ct rfl _ _ gb256 33 #[.int .i64 0, .int .i64 0, .int .i64 0, .slice none 0 0] (0, 0) _ rfl (by (with_reducible repeat first | apply blk_drewN | apply blk_drew | apply blk_alloc); refine blk_put (cs := #[.int .i64 0, .int .i64 0, .int .i64 0, .slice none 0 0]) ?_ 3 _ rfl; (with_reducible repeat first | apply blk_drewN | apply blk_drew | apply blk_alloc); refine blk_put (cs := #[.int .i64 0, .int .i64 0, .int .i64 x257002_2, .slice none 0 0]) ?_ 2 _ rfl; (with_reducible repeat first | apply blk_drewN | apply blk_drew | apply blk_alloc); refine blk_put (cs := #[.int .i64 0, .int .i64 x257001_2, .int .i64 x257002_2, .slice none 0 0]) ?_ 1 _ rfl; (with_reducible repeat first | apply blk_drewN | apply blk_drew | apply blk_alloc); refine blk_put (cs := #[.int .i64 x257000_2, .int .i64 x257001_2, .int .i64 x257002_2, .slice none 0 0]) ?_ 0 _ rfl; (with_reducible repeat first | apply blk_drewN | apply blk_drew | apply blk_alloc); exact BK256.out) Try.underlying33 rfl (by kernel_rfl)) rfl ?_
            exact ⟨_, by first | rfl | (simp [errW_none, errW_some] <;> rfl) | (simp [*, errW_none, errW_some] <;> rfl), by first | exact Kd.R_nil _ _ _ _ _ | exact Kd.N_nil _ _ _ _ _ | exact Kd.V_nil _ _ _ _ _ | exact Kd.Q_nil _ _ _ _ _ | exact Kd.S_nil _ _ _ _ _, by repeat (first | (with_reducible first | exact HB.out | apply below_alloc | apply pw_below_drewN | apply below_drew1 | refine below_set ?_ GE254.out | refine below_set ?_ GE255.out | refine below_set ?_ GE256.out) | exact HB.out)⟩
           ·rw [if_neg c44] at H
            have c44b0 : (!(((rd_T63 l1_3 x9_2).f0.f0) == ((rd_T63 l2_3 x9_2).f0.f0)) || (!(((rd_T63 l1_3 x9_2).f0.f1) == ((rd_T63 l2_3 x9_2).f0.f1)) || (!(((rd_T63 l1_3 x9_2).f0.f2) == ((rd_T63 l2_3 x9_2).f0.f2))))) = false := by simpa using c44
            clear c44
            by_cases c51 : x8_2.length < 4398046511104
            ·rw [if_pos c51] at H
             have LMc51 := Aside0.mk c51
             clear c51
             obtain ⟨y267, hy267⟩ : ∃ y_ : List (S63), y_ = (x8_2 ++ [(⟨(⟨(rd_T63 l1_3 x9_2).f0.f0, (rd_T63 l1_3 x9_2).f0.f1, (rd_T63 l1_3 x9_2).f0.f2⟩ : S30), wrap64 (((rd_T63 l1_3 x9_2).f1) + ((rd_T63 l2_3 x9_2).f1))⟩ : S63)]) := ⟨_, rfl⟩
             replace H : (spec_AddMeasures.l0 k2 a0 y267 (wrap64 (x9_2 + 1)) a1_0 a1_1 a1_2 l1_3 a2_0 a2_1 a2_2 l2_3) = some (r1, r2, r3, r4, r5) := by first | (rw [hy267]; with_reducible exact H) | (have H2_ := (Option.bind_some _ _).symm.trans H; rw [hy267]; with_reducible exact H2_) | (have H2_ := (Option.bind_some _ _).symm.trans H; with_reducible exact H2_) | with_reducible exact H | (rw [hy267]; exact H) | exact H
             have Ny267 := Aside0.mk hy267
             clear hy267
             have H' := Aside0.mk H
             clear H
             have hnb52 := NB254_255.out
             have hnc52 := NB255_254.out
             have hnb53 := NB254_256.out
             have hnc53 := NB256_254.out
             have hcz54_0 : wr.cell? ⟨gb254, 0, none⟩ = some (.int .i64 a1_0) := cz_ BK254 0
             have hcz54_1 : wr.cell? ⟨gb254, 1, none⟩ = some (.int .i64 a1_1) := cz_ BK254 1
             have hcz54_2 : wr.cell? ⟨gb254, 2, none⟩ = some (.int .i64 a1_2) := cz_ BK254 2
             have hcz54_3 : wr.cell? ⟨gb254, 3, none⟩ = some (.slice A1_3 l1_3.length c1_3) := cz_ BK254 3
             have hfz54_0 := fz_ BK254 0
             have hfz54_1 := fz_ BK254 1
             have hfz54_2 := fz_ BK254 2
             have hfz54_3 := fz_ BK254 3
             try go_wp2
             replace HO_8 := Aside0.mk (Kd.R_drew HO_8.out)
             replace BK254 := Aside0.mk (blk_drew BK254.out)
             replace BK255 := Aside0.mk (blk_drew BK255.out)
             replace BK256 := Aside0.mk (blk_drew BK256.out)
             replace HB := Aside0.mk (below_drew1 HB.out)
             have p262 : 0 ≤ (x9_2 : Int) := of_decide_eq_true (by first | (with_reducible assumption) | assumption)
             have q262 : x9_2 < (l1_3.length : Int) := of_decide_eq_true (by first | (with_reducible assumption) | assumption)
             obtain ⟨ad262, e262, hx262_0, hx262_1, hx262_2, hx262_3⟩ := at_T63 HR1_3.out x9_2 p262 q262
             have hw262_3 := hx262_3
             have hw262_2 := hx262_2
             have hw262_1 := hx262_1
             have hw262_0 := hx262_0
             cases e262
             replace hx262_0 := clTr HB.out hx262_0
             replace hx262_1 := clTr HB.out hx262_1
             replace hx262_2 := clTr HB.out hx262_2
             replace hx262_3 := clTr HB.out hx262_3
             replace p262 := eq_true p262
             replace q262 := eq_true q262
             have p263 : 0 ≤ (x9_2 : Int) := of_decide_eq_true (by first | (with_reducible assumption) | assumption)
             have q263 : x9_2 < (l2_3.length : Int) := of_decide_eq_true (by first | (with_reducible assumption) | assumption)
             obtain ⟨ad263, e263, hx263_0, hx263_1, hx263_2, hx263_3⟩ := at_T63 HR2_3.out x9_2 p263 q263
             have hw263_3 := hx263_3
             have hw263_2 := hx263_2
             have hw263_1 := hx263_1
             have hw263_0 := hx263_0
             cases e263
             replace hx263_0 := clTr HB.out hx263_0
             replace hx263_1 := clTr HB.out hx263_1
             replace hx263_2 := clTr HB.out hx263_2
             replace hx263_3 := clTr HB.out hx263_3
             replace p263 := eq_true p263
             replace q263 := eq_true q263
             refine start_ (n := 13) (S := fun w' => w'.cell? ⟨gb254, 0, none⟩ = some (.int .i64 a1_0) ∧ w'.cell? ⟨gb254, 1, none⟩ = some (.int .i64 a1_1) ∧ w'.cell? ⟨gb254, 2, none⟩ = some (.int .i64 a1_2) ∧ w'.cell? ⟨gb254, 3, none⟩ = some (.slice (some ad262) l1_3.length c1_3) ∧ w'.cell? ⟨gb255, 0, none⟩ = some (.int .i64 a2_0) ∧ w'.cell? ⟨gb255, 1, none⟩ = some (.int .i64 a2_1) ∧ w'.cell? ⟨gb255, 2, none⟩ = some (.int .i64 a2_2) ∧ w'.cell? ⟨gb255, 3, none⟩ = some (.slice (some ad263) l2_3.length c2_3) ∧ w'.cell? (ad262.add ((x9_2).toNat * 4)) = some (.int .i64 ((rd_T63 l1_3 x9_2).f0.f0)) ∧ w'.cell? ⟨(ad262.add ((x9_2).toNat * 4)).block, (ad262.add ((x9_2).toNat * 4)).off + 1, none⟩ = some (.int .i64 ((rd_T63 l1_3 x9_2).f0.f1)) ∧ w'.cell? ⟨(ad262.add ((x9_2).toNat * 4)).block, (ad262.add ((x9_2).toNat * 4)).off + 2, none⟩ = some (.int .i64 ((rd_T63 l1_3 x9_2).f0.f2)) ∧ w'.cell? ⟨(ad262.add ((x9_2).toNat * 4)).block, (ad262.add ((x9_2).toNat * 4)).off + 3, none⟩ = some (.int .i64 ((rd_T63 l1_3 x9_2).f1)) ∧ w'.cell? (ad263.add ((x9_2).toNat * 4)) = some (.int .i64 ((rd_T63 l2_3 x9_2).f0.f0)) ∧ w'.cell? ⟨(ad263.add ((x9_2).toNat * 4)).block, (ad263.add ((x9_2).toNat * 4)).off + 1, none⟩ = some (.int .i64 ((rd_T63 l2_3 x9_2).f0.f1)) ∧ w'.cell? ⟨(ad263.add ((x9_2).toNat * 4)).block, (ad263.add ((x9_2).toNat * 4)).off + 2, none⟩ = some (.int .i64 ((rd_T63 l2_3 x9_2).f0.f2)) ∧ w'.cell? ⟨(ad263.add ((x9_2).toNat * 4)).block, (ad263.add ((x9_2).toNat * 4)).off + 3, none⟩ = some (.int .i64 ((rd_T63 l2_3 x9_2).f1))) (ds := []) (bv_ 13 0) (by kernel_rfl) rfl rfl ⟨(blk_cell BK254.out 0).trans rfl, (blk_cell BK254.out 1).trans rfl, (blk_cell BK254.out 2).trans rfl, (blk_cell BK254.out 3).trans rfl, (blk_cell BK255.out 0).trans rfl, (blk_cell BK255.out 1).trans rfl, (blk_cell BK255.out 2).trans rfl, (blk_cell BK255.out 3).trans rfl, (clTr HB.out hw262_0 :), (clTr HB.out hw262_1 :), (clTr HB.out hw262_2 :), (clTr HB.out hw262_3 :), (clTr HB.out hw263_0 :), (clTr HB.out hw263_1 :), (clTr HB.out hw263_2 :), (clTr HB.out hw263_3 :)⟩ (fun hHeld => ?_); refine with_tabW spec_AddMeasures.tab9 spec_AddMeasures.bits9 (fun HT_ HW_ => ?_)
             generalize wr.drew = w55 at HO_8 BK254 BK255 BK256 HB hx262_0 hx262_1 hx262_2 hx262_3 hx263_0 hx263_1 hx263_2 hx263_3 hHeld ⊢
             refine pu_ HT_ 0 (some 48) (bv_ 13 1) ?_
             refine pu_ HT_ 2 (some 50) (bv_ 13 5) ?_
             refine pu_ HT_ 6 (some 54) (bv_ 13 69) ?_
             refine pu_ HT_ 8 (some 56) (bv_ 13 325) ?_
             refine ta_ HT_ HW_ 1 (some 49) (bv_ 13 327) hHeld ?_ (hy := by rintro w' ⟨s0, s1, s2, s3, s4, s5, s6, s7, s8, s9, s10, s11, s12, s13, s14, s15⟩; go_simp; with_reducible rfl)
             refine pu_ HT_ 3 (some 51) (bv_ 13 335) ?_
             refine pu_ HT_ 4 (some 52) (bv_ 13 351) ?_
             refine ta_ HT_ HW_ 5 (some 53) (bv_ 13 383) hHeld ?_ (hy := by rintro w' ⟨s0, s1, s2, s3, s4, s5, s6, s7, s8, s9, s10, s11, s12, s13, s14, s15⟩; go_simp; with_reducible rfl)
             refine ta_ HT_ HW_ 7 (some 55) (bv_ 13 511) hHeld ?_ (hy := by rintro w' ⟨s0, s1, s2, s3, s4, s5, s6, s7, s8, s9, s10, s11, s12, s13, s14, s15⟩; go_simp; with_reducible rfl)
             refine pu_ HT_ 9 (some 57) (bv_ 13 1023) ?_
             refine pu_ HT_ 10 (some 58) (bv_ 13 2047) ?_
             refine ta_ HT_ HW_ 11 (some 59) (bv_ 13 4095) hHeld ?_ (hy := by rintro w' ⟨s0, s1, s2, s3, s4, s5, s6, s7, s8, s9, s10, s11, s12, s13, s14, s15⟩; go_simp; with_reducible rfl)
             refine pu_ HT_ 12 (some 60) (bv_ 13 8191) ?_
             refine done_ (done_of HT_.out (by kernel_rfl)) ?_
             try go_wp2
             replace HO_8 := Aside0.mk (Kd.R_drew HO_8.out)
             replace BK254 := Aside0.mk (blk_drew BK254.out)
             replace BK255 := Aside0.mk (blk_drew BK255.out)
             replace BK256 := Aside0.mk (blk_drew BK256.out)
             replace HB := Aside0.mk (below_drew1 HB.out)
             have p264 : 0 ≤ (x9_2 : Int) := of_decide_eq_true (by first | (with_reducible assumption) | assumption)
             have q264 : x9_2 < (l1_3.length : Int) := of_decide_eq_true (by first | (with_reducible assumption) | assumption)
             obtain ⟨ad264, e264, hx264_0, hx264_1, hx264_2, hx264_3⟩ := at_T63 HR1_3.out x9_2 p264 q264
             have hw264_3 := hx264_3
             have hw264_2 := hx264_2
             have hw264_1 := hx264_1
             have hw264_0 := hx264_0
             obtain rfl : ad262 = ad264 := (by injection e264)
             replace hx264_0 := clTr HB.out hx264_0
             replace hx264_1 := clTr HB.out hx264_1
             replace hx264_2 := clTr HB.out hx264_2
             replace hx264_3 := clTr HB.out hx264_3
             replace p264 := eq_true p264
             replace q264 := eq_true q264
             have p265 : 0 ≤ (x9_2 : Int) := of_decide_eq_true (by first | (with_reducible assumption) | assumption)
             have q265 : x9_2 < (l1_3.length : Int) := of_decide_eq_true (by first | (with_reducible assumption) | assumption)
             obtain ⟨ad265, e265, hx265_0, hx265_1, hx265_2, hx265_3⟩ := at_T63 HR1_3.out x9_2 p265 q265
             have hw265_3 := hx265_3
             have hw265_2 := hx265_2
             have hw265_1 := hx265_1
             have hw265_0 := hx265_0
             obtain rfl : ad262 = ad265 := (by injection e265)
             replace hx265_0 := clTr HB.out hx265_0
             replace hx265_1 := clTr HB.out hx265_1
             replace hx265_2 := clTr HB.out hx265_2
             replace hx265_3 := clTr HB.out hx265_3
             replace p265 := eq_true p265
             replace q265 := eq_true q265
             have p266 : 0 ≤ (x9_2 : Int) := of_decide_eq_true (by first | (with_reducible assumption) | assumption)
             have q266 : x9_2 < (l2_3.length : Int) := of_decide_eq_true (by first | (with_reducible assumption) | assumption)
             obtain ⟨ad266, e266, hx266_0, hx266_1, hx266_2, hx266_3⟩ := at_T63 HR2_3.out x9_2 p266 q266
             have hw266_3 := hx266_3
             have hw266_2 := hx266_2
             have hw266_1 := hx266_1
             have hw266_0 := hx266_0
             obtain rfl : ad263 = ad266 := (by injection e266)
             replace hx266_0 := clTr HB.out hx266_0
             replace hx266_1 := clTr HB.out hx266_1
             replace hx266_2 := clTr HB.out hx266_2
             replace hx266_3 := clTr HB.out hx266_3
             replace p266 := eq_true p266
             replace q266 := eq_true q266
             refine start_ (n := 24) (S := fun w' => w'.cell? ⟨gb254, 0, none⟩ = some (.int .i64 a1_0) ∧ w'.cell? ⟨gb254, 1, none⟩ = some (.int .i64 a1_1) ∧ w'.cell? ⟨gb254, 2, none⟩ = some (.int .i64 a1_2) ∧ w'.cell? ⟨gb254, 3, none⟩ = some (.slice (some ad262) l1_3.length c1_3) ∧ w'.cell? ⟨gb255, 0, none⟩ = some (.int .i64 a2_0) ∧ w'.cell? ⟨gb255, 1, none⟩ = some (.int .i64 a2_1) ∧ w'.cell? ⟨gb255, 2, none⟩ = some (.int .i64 a2_2) ∧ w'.cell? ⟨gb255, 3, none⟩ = some (.slice (some ad263) l2_3.length c2_3) ∧ w'.cell? (ad262.add ((x9_2).toNat * 4)) = some (.int .i64 ((rd_T63 l1_3 x9_2).f0.f0)) ∧ w'.cell? ⟨(ad262.add ((x9_2).toNat * 4)).block, (ad262.add ((x9_2).toNat * 4)).off + 1, none⟩ = some (.int .i64 ((rd_T63 l1_3 x9_2).f0.f1)) ∧ w'.cell? ⟨(ad262.add ((x9_2).toNat * 4)).block, (ad262.add ((x9_2).toNat * 4)).off + 2, none⟩ = some (.int .i64 ((rd_T63 l1_3 x9_2).f0.f2)) ∧ w'.cell? ⟨(ad262.add ((x9_2).toNat * 4)).block, (ad262.add ((x9_2).toNat * 4)).off + 3, none⟩ = some (.int .i64 ((rd_T63 l1_3 x9_2).f1)) ∧ w'.cell? (ad262.add ((x9_2).toNat * 4)) = some (.int .i64 ((rd_T63 l1_3 x9_2).f0.f0)) ∧ w'.cell? ⟨(ad262.add ((x9_2).toNat * 4)).block, (ad262.add ((x9_2).toNat * 4)).off + 1, none⟩ = some (.int .i64 ((rd_T63 l1_3 x9_2).f0.f1)) ∧ w'.cell? ⟨(ad262.add ((x9_2).toNat * 4)).block, (ad262.add ((x9_2).toNat * 4)).off + 2, none⟩ = some (.int .i64 ((rd_T63 l1_3 x9_2).f0.f2)) ∧ w'.cell? ⟨(ad262.add ((x9_2).toNat * 4)).block, (ad262.add ((x9_2).toNat * 4)).off + 3, none⟩ = some (.int .i64 ((rd_T63 l1_3 x9_2).f1)) ∧ w'.cell? (ad263.add ((x9_2).toNat * 4)) = some (.int .i64 ((rd_T63 l2_3 x9_2).f0.f0)) ∧ w'.cell? ⟨(ad263.add ((x9_2).toNat * 4)).block, (ad263.add ((x9_2).toNat * 4)).off + 1, none⟩ = some (.int .i64 ((rd_T63 l2_3 x9_2).f0.f1)) ∧ w'.cell? ⟨(ad263.add ((x9_2).toNat * 4)).block, (ad263.add ((x9_2).toNat * 4)).off + 2, none⟩ = some (.int .i64 ((rd_T63 l2_3 x9_2).f0.f2)) ∧ w'.cell? ⟨(ad263.add ((x9_2).toNat * 4)).block, (ad263.add ((x9_2).toNat * 4)).off + 3, none⟩ = some (.int .i64 ((rd_T63 l2_3 x9_2).f1))) (ds := []) (bv_ 24 0) (by kernel_rfl) rfl rfl ⟨(blk_cell BK254.out 0).trans rfl, (blk_cell BK254.out 1).trans rfl, (blk_cell BK254.out 2).trans rfl, (blk_cell BK254.out 3).trans rfl, (blk_cell BK255.out 0).trans rfl, (blk_cell BK255.out 1).trans rfl, (blk_cell BK255.out 2).trans rfl, (blk_cell BK255.out 3).trans rfl, (clTr HB.out hw264_0 :), (clTr HB.out hw264_1 :), (clTr HB.out hw264_2 :), (clTr HB.out hw264_3 :), (clTr HB.out hw265_0 :), (clTr HB.out hw265_1 :), (clTr HB.out hw265_2 :), (clTr HB.out hw265_3 :), (clTr HB.out hw266_0 :), (clTr HB.out hw266_1 :), (clTr HB.out hw266_2 :), (clTr HB.out hw266_3 :)⟩ (fun hHeld => ?_); refine with_tabW spec_AddMeasures.tab11 spec_AddMeasures.bits11 (fun HT_ HW_ => ?_)
             generalize w55.drew = w56 at HO_8 BK254 BK255 BK256 HB hx264_0 hx264_1 hx264_2 hx264_3 hx265_0 hx265_1 hx265_2 hx265_3 hx266_0 hx266_1 hx266_2 hx266_3 hHeld ⊢
             refine pu_ HT_ 0 (some 62) (bv_ 24 1) ?_
             refine pu_ HT_ 1 (some 63) (bv_ 24 3) ?_
             refine pu_ HT_ 3 (some 65) (bv_ 24 11) ?_
             refine pu_ HT_ 7 (some 69) (bv_ 24 139) ?_
             refine pu_ HT_ 9 (some 71) (bv_ 24 651) ?_
             refine pu_ HT_ 13 (some 75) (bv_ 24 8843) ?_
             refine pu_ HT_ 15 (some 77) (bv_ 24 41611) ?_
             refine ta_ HT_ HW_ 2 (some 64) (bv_ 24 41615) hHeld ?_ (hy := by rintro w' ⟨s0, s1, s2, s3, s4, s5, s6, s7, s8, s9, s10, s11, s12, s13, s14, s15, s16, s17, s18, s19⟩; go_simp; with_reducible rfl)
             refine pu_ HT_ 4 (some 66) (bv_ 24 41631) ?_
             refine pu_ HT_ 5 (some 67) (bv_ 24 41663) ?_
             refine ta_ HT_ HW_ 6 (some 68) (bv_ 24 41727) hHeld ?_ (hy := by rintro w' ⟨s0, s1, s2, s3, s4, s5, s6, s7, s8, s9, s10, s11, s12, s13, s14, s15, s16, s17, s18, s19⟩; go_simp; with_reducible rfl)
             refine ta_ HT_ HW_ 8 (some 70) (bv_ 24 41983) hHeld ?_ (hy := by rintro w' ⟨s0, s1, s2, s3, s4, s5, s6, s7, s8, s9, s10, s11, s12, s13, s14, s15, s16, s17, s18, s19⟩; go_simp; with_reducible rfl)
             refine pu_ HT_ 10 (some 72) (bv_ 24 43007) ?_
             refine pu_ HT_ 11 (some 73) (bv_ 24 45055) ?_
             refine ta_ HT_ HW_ 12 (some 74) (bv_ 24 49151) hHeld ?_ (hy := by rintro w' ⟨s0, s1, s2, s3, s4, s5, s6, s7, s8, s9, s10, s11, s12, s13, s14, s15, s16, s17, s18, s19⟩; go_simp; with_reducible rfl)
             refine ta_ HT_ HW_ 14 (some 76) (bv_ 24 65535) hHeld ?_ (hy := by rintro w' ⟨s0, s1, s2, s3, s4, s5, s6, s7, s8, s9, s10, s11, s12, s13, s14, s15, s16, s17, s18, s19⟩; go_simp; with_reducible rfl)
             refine pu_ HT_ 16 (some 78) (bv_ 24 131071) ?_
             refine pu_ HT_ 17 (some 79) (bv_ 24 262143) ?_
             refine ta_ HT_ HW_ 18 (some 80) (bv_ 24 524287) hHeld ?_ (hy := by rintro w' ⟨s0, s1, s2, s3, s4, s5, s6, s7, s8, s9, s10, s11, s12, s13, s14, s15, s16, s17, s18, s19⟩; go_simp; with_reducible rfl)
             refine pu_ HT_ 19 (some 81) (bv_ 24 1048575) ?_
             refine pu_ HT_ 20 (some 82) (bv_ 24 2097151) ?_
             refine one_ (i := 21) (N := some 83) (bv_ 24 4194303) rfl rfl (one_of HT_.out (by kernel_rfl)) (by decide) (fun K hK => ?_)
             refine value_ (w1 := ?_) (v := ?_) (by rfl) rfl ?_ ?_
             rotate_left 2
             ·go_simp
              constructor
              ·rfl
              ·rfl
             refine hK.out _ _ ⟨(blk_cell (blk_alloc BK254.out _) 0).trans rfl, (blk_cell (blk_alloc BK254.out _) 1).trans rfl, (blk_cell (blk_alloc BK254.out _) 2).trans rfl, (blk_cell (blk_alloc BK254.out _) 3).trans rfl, (blk_cell (blk_alloc BK255.out _) 0).trans rfl, (blk_cell (blk_alloc BK255.out _) 1).trans rfl, (blk_cell (blk_alloc BK255.out _) 2).trans rfl, (blk_cell (blk_alloc BK255.out _) 3).trans rfl, (World.cell?_alloc_lt _ _ _ (World.block_lt_of_cell? _ _ ((clTr HB.out hw264_0 :)))).trans ((clTr HB.out hw264_0 :)), (World.cell?_alloc_lt _ _ _ (World.block_lt_of_cell? _ _ ((clTr HB.out hw264_1 :)))).trans ((clTr HB.out hw264_1 :)), (World.cell?_alloc_lt _ _ _ (World.block_lt_of_cell? _ _ ((clTr HB.out hw264_2 :)))).trans ((clTr HB.out hw264_2 :)), (World.cell?_alloc_lt _ _ _ (World.block_lt_of_cell? _ _ ((clTr HB.out hw264_3 :)))).trans ((clTr HB.out hw264_3 :)), (World.cell?_alloc_lt _ _ _ (World.block_lt_of_cell? _ _ ((clTr HB.out hw265_0 :)))).trans ((clTr HB.out hw265_0 :)), (World.cell?_alloc_lt _ _ _ (World.block_lt_of_cell? _ _ ((clTr HB.out hw265_1 :)))).trans ((clTr HB.out hw265_1 :)), (World.cell?_alloc_lt _ _ _ (World.block_lt_of_cell? _ _ ((clTr HB.out hw265_2 :)))).trans ((clTr HB.out hw265_2 :)), (World.cell?_alloc_lt _ _ _ (World.block_lt_of_cell? _ _ ((clTr HB.out hw265_3 :)))).trans ((clTr HB.out hw265_3 :)), (World.cell?_alloc_lt _ _ _ (World.block_lt_of_cell? _ _ ((clTr HB.out hw266_0 :)))).trans ((clTr HB.out hw266_0 :)), (World.cell?_alloc_lt _ _ _ (World.block_lt_of_cell? _ _ ((clTr HB.out hw266_1 :)))).trans ((clTr HB.out hw266_1 :)), (World.cell?_alloc_lt _ _ _ (World.block_lt_of_cell? _ _ ((clTr HB.out hw266_2 :)))).trans ((clTr HB.out hw266_2 :)), (World.cell?_alloc_lt _ _ _ (World.block_lt_of_cell? _ _ ((clTr HB.out hw266_3 :)))).trans ((clTr HB.out hw266_3 :))⟩ (fun hHeld => ?_)
             clear hK K
             refine norm_ (a' := ?_) ?_ ?_
             rotate_left
             ·show Act.put _ (some 83) _ = _
              simp only [Act.put, lstS, lstZ, lstC, i64_w, i32_w]
              rfl
             refine one_ (i := 22) (N := some 84) (bv_ 24 8388607) rfl rfl (one_of HT_.out (by kernel_rfl)) (by decide) (fun K hK => ?_)
             refine Kd.R_append_step k63 (w0 := w) w.heap.size (by rfl) (.tmp 62) (.tmp 83) 31 63 (.agg #[(.int .i64 0), (.int .i64 0), (.int .i64 0), (.int .i64 0)]) 32 rfl Try.underlying31 info63 rfl (by decide) (by omega) u8 x8_2 (⟨(⟨(rd_T63 l1_3 x9_2).f0.f0, (rd_T63 l1_3 x9_2).f0.f1, (rd_T63 l1_3 x9_2).f0.f2⟩ : S30), wrap64 (((rd_T63 l1_3 x9_2).f1) + ((rd_T63 l2_3 x9_2).f1))⟩ : S63) [.int .i64 ((rd_T63 l1_3 x9_2).f0.f0), .int .i64 ((rd_T63 l1_3 x9_2).f0.f1), .int .i64 ((rd_T63 l1_3 x9_2).f0.f2), .int .i64 (wrap64 (((rd_T63 l1_3 x9_2).f1) + ((rd_T63 l2_3 x9_2).f1)))] (fun _ => True) (fun _ => False) rfl rfl ?aP (fun _ hk => hk.elim) ?aF ?aO ?aB ?aS ?aL ?_
             (case aP => exact k63_mkM _ _ _ (⟨(⟨(rd_T63 l1_3 x9_2).f0.f0, (rd_T63 l1_3 x9_2).f0.f1, (rd_T63 l1_3 x9_2).f0.f2⟩ : S30), wrap64 (((rd_T63 l1_3 x9_2).f1) + ((rd_T63 l2_3 x9_2).f1))⟩ : S63))
             (case aB => exact (bw_ HB).out)
             (case aF => exact (fun _ _ => trivial))
             (case aO => exact (ra_ HO_8.out))
             (case aS => exact (below_size (bw_ HB).out))
             (case aL => have := LMc51.out; omega)
             intro v268 w57 ho hb hg hat
             rw [← Ny267.out] at ho
             have n0_ := Aside0.mk (blk_grown (g := gb254) (o := .cells #[.int .i64 a1_0, .int .i64 a1_1, .int .i64 a1_2, .slice (some ad262) l1_3.length c1_3] 33 (0, 0)) (bl_ BK254).out hg (Kd.R_ne HO_8.out BK254.out (by decide)))
             have n1_ := Aside0.mk (blk_grown (g := gb255) (o := .cells #[.int .i64 a2_0, .int .i64 a2_1, .int .i64 a2_2, .slice (some ad263) l2_3.length c2_3] 33 (0, 0)) (bl_ BK255).out hg (Kd.R_ne HO_8.out BK255.out (by decide)))
             have n2_ := Aside0.mk (blk_grown (g := gb256) (o := .cells #[.int .i64 x257000_2, .int .i64 x257001_2, .int .i64 x257002_2, .slice none 0 0] 33 (0, 0)) (bl_ BK256).out hg (Kd.R_ne HO_8.out BK256.out (by decide)))
             have n3_ := Aside0.mk (hb)
             have n4_ := Aside0.mk (ho)
             clear BK254
             clear BK255
             clear BK256
             clear HB
             clear HO_8
             have BK254 := n0_
             have BK255 := n1_
             have BK256 := n2_
             have HB := n3_
             have HO269 := n4_
             clear n0_ n1_ n2_ n3_ n4_
             clear ho hb hg hat
             refine hK.out _ _ ⟨(blk_cell BK254.out 0).trans rfl, (blk_cell BK254.out 1).trans rfl, (blk_cell BK254.out 2).trans rfl, (blk_cell BK254.out 3).trans rfl, (blk_cell BK255.out 0).trans rfl, (blk_cell BK255.out 1).trans rfl, (blk_cell BK255.out 2).trans rfl, (blk_cell BK255.out 3).trans rfl, (clTr HB.out hw264_0 :), (clTr HB.out hw264_1 :), (clTr HB.out hw264_2 :), (clTr HB.out hw264_3 :), (clTr HB.out hw265_0 :), (clTr HB.out hw265_1 :), (clTr HB.out hw265_2 :), (clTr HB.out hw265_3 :), (clTr HB.out hw266_0 :), (clTr HB.out hw266_1 :), (clTr HB.out hw266_2 :), (clTr HB.out hw266_3 :)⟩ (fun hHeld => ?_)
             clear hK K
             refine norm_ (a' := ?_) ?_ ?_
             rotate_left
             ·show Act.put _ (some 84) _ = _
              simp only [Act.put, lstS, lstZ, lstC, i64_w, i32_w]
              rfl
             refine pu_ HT_ 23 (some 8) (bv_ 24 16777215) ?_
             refine done_ (done_of HT_.out (by kernel_rfl)) ?_
             try go_wp2
             go_roundg k2
             case measure => have := HJ3.out; have := HK2.out; omega
             case rel => exact ⟨(y267), (wrap64 (x9_2 + 1)), (x257000_2), (x257001_2), (x257002_2), (by first | rfl | (simp; done) | (simp [*]; done) | (simp [wrap64]; done)), H', ⟨by have := HJ3.out; have := HK2.out; omega⟩, ⟨by (with_reducible repeat (first | apply Kd.R_alloc | apply Kd.R_drewN | apply Kd.R_drew)); exact HO269.out⟩, bl_ BK254, bl_ BK255, bl_ BK256, bw_ HB⟩
            ·rw [if_neg c51] at H
             exact absurd H (by simp)
          ·rw [if_neg c43] at H
           exact absurd H (by simp)
         ·rw [if_neg c42] at H
          exact absurd H (by simp)
        ·rw [if_neg c41] at H
         have c41b0 : decide (x9_2 < (l1_3.length : Int)) = false := decide_eq_false c41
         clear c41
         replace H := Option.bind_eq_some_iff.mp H
         obtain ⟨⟨t270, t271, t272, t273, t276⟩, A580, H⟩ := H
         have A58 := Aside0.mk A580
         clear A580
         simp only [Option.some.injEq, Prod.mk.injEq] at H
         obtain ⟨rfl, rfl, rfl, rfl, rfl⟩ := H
         have hnb59 := NB254_255.out
         have hnc59 := NB255_254.out
         have hnb60 := NB254_256.out
         have hnc60 := NB256_254.out
         have hcz61_0 : wr.cell? ⟨gb254, 0, none⟩ = some (.int .i64 a1_0) := cz_ BK254 0
         have hcz61_1 : wr.cell? ⟨gb254, 1, none⟩ = some (.int .i64 a1_1) := cz_ BK254 1
         have hcz61_2 : wr.cell? ⟨gb254, 2, none⟩ = some (.int .i64 a1_2) := cz_ BK254 2
         have hcz61_3 : wr.cell? ⟨gb254, 3, none⟩ = some (.slice A1_3 l1_3.length c1_3) := cz_ BK254 3
         have hfz61_0 := fz_ BK254 0
         have hfz61_1 := fz_ BK254 1
         have hfz61_2 := fz_ BK254 2
         have hfz61_3 := fz_ BK254 3
         obtain ⟨Ao62, co62, eo62⟩ := Kd.R_slice HO_8.out
         subst eo62
         go_wp2_with (first | ((with_reducible refine gate_callee (f := 35) rfl ?_); refine ge_ 90 Try.func35 #[.int .i64 a0, .agg #[.int .i64 a1_0, .int .i64 a1_1, .int .i64 a1_2], .slice Ao62 x8_2.length co62] ?_; (with_reducible refine (spec_l08Told.calls k2 a0 a1_0 a1_1 a1_2 _ _ x8_2 t270 t271 t272 t273 t276 _ ?side1 ?side2 A58.out).mono ?_); (case side1 => repeat (first | exact (Kd.R_reads' HO_8.out).2.2 | (with_reducible refine Kd.C_alloc ?_ _) | (with_reducible refine Kd.C_drewN ?_ _) | (with_reducible refine Kd.C_drew ?_))); (case side2 => exact (Kd.R_reads' HO_8.out).2.1); rintro e w63 ⟨v274, rfl, ho0, hb⟩; refine ⟨_, rfl, ?_⟩; have HO275 := Aside0.mk (Kd.R_lower (Kd.R_new' ho0 (Kd.R_lt (ra_ HO_8.out))) (below_size (bw_ HB).out)); replace HO_8 := Aside0.mk (Kd.R_elder' (ra_ HO_8.out) (Kd.R_base ho0) hb); replace BK254 := bb_ BK254 hb; replace BK255 := bb_ BK255 hb; replace BK256 := bb_ BK256 hb; replace HB := bt_ HB hb; (try clear hb); (try clear hb2); (try clear hk); (try clear hi); (try clear ho0)) | ((with_reducible refine gate_dst (N := 10) rfl ?_); (try (refine gate_guard (by rfl) ?_; dsimp only)); refine bx_ 10 #[.int .i64 0, .int .i64 0, .int .i64 0, .slice none 0 0] 33 ?_; intro gb277 hg w64 hbox hb; have BK277 := Aside0.mk (hbox); have GW277 := bs_ HB hg; have GE277 := bs_ HB hg; have NB254_277 := bm_ BK254 hg; have NB277_254 := bn_ BK254 hg; have NB255_277 := bm_ BK255 hg; have NB277_255 := bn_ BK255 hg; have NB256_277 := bm_ BK256 hg; have NB277_256 := bn_ BK256 hg; replace HO_8 := Aside0.mk (Kd.R_below (ra_ HO_8.out) hb); replace HO275 := Aside0.mk (Kd.R_below (ra_ HO275.out) hb); replace BK254 := bb_ BK254 hb; replace BK255 := bb_ BK255 hb; replace BK256 := bb_ BK256 hb; replace HB := bt_ HB hb; clear hb hbox hg; have hnb65 := NB277_254.out; have hnc65 := NB254_277.out; have hnb66 := NB277_255.out; have hnc66 := NB255_277.out; have hnb67 := NB277_256.out; have hnc67 := NB256_277.out; have hcz68_0 : w64.cell? ⟨gb277, 0, none⟩ = some (.int .i64 0) := cz_ BK277 0; have hcz68_1 : w64.cell? ⟨gb277, 1, none⟩ = some (.int .i64 0) := cz_ BK277 1; have hcz68_2 : w64.cell? ⟨gb277, 2, none⟩ = some (.int .i64 0) := cz_ BK277 2; have hcz68_3 : w64.cell? ⟨gb277, 3, none⟩ = some (.slice none 0 0) := cz_ BK277 3; have hfz68_0 := fz_ BK277 0; have hfz68_1 := fz_ BK277 1; have hfz68_2 := fz_ BK277 2; have hfz68_3 := fz_ BK277 3; obtain ⟨Ao69, co69, eo69⟩ := Kd.R_slice HO275.out; subst eo69; have hnb70 := NB256_255.out; have hnc70 := NB255_256.out; have hcz71_0 : w64.cell? ⟨gb256, 0, none⟩ = some (.int .i64 x257000_2) := cz_ BK256 0; have hcz71_1 : w64.cell? ⟨gb256, 1, none⟩ = some (.int .i64 x257001_2) := cz_ BK256 1; have hcz71_2 : w64.cell? ⟨gb256, 2, none⟩ = some (.int .i64 x257002_2) := cz_ BK256 2; have hcz71_3 : w64.cell? ⟨gb256, 3, none⟩ = some (.slice none 0 0) := cz_ BK256 3; have hfz71_0 := fz_ BK256 0; have hfz71_1 := fz_ BK256 1; have hfz71_2 := fz_ BK256 2; have hfz71_3 := fz_ BK256 3))
         refine bodyPost_ret (results_ct rfl _ _ gb256 33 #[.int .i64 t270, .int .i64 t271, .int .i64 t272, .slice Ao69 t273.length co69] (0, 0) _ rfl (by (with_reducible repeat first | apply blk_drewN | apply blk_drew | apply blk_alloc); refine blk_put (cs := #[.int .i64 t270, .int .i64 t271, .int .i64 t272, .slice none 0 0]) ?_ 3 _ rfl; (with_reducible repeat first | apply blk_drewN | apply blk_drew | apply blk_alloc); refine blk_put (cs := #[.int .i64 t270, .int .i64 t271, .int .i64 x257002_2, .slice none 0 0]) ?_ 2 _ rfl; (with_reducible repeat first | apply blk_drewN | apply blk_drew | apply blk_alloc); refine blk_put (cs := #[.int .i64 t270, .int .i64 x257001_2, .int .i64 x257002_2, .slice none 0 0]) ?_ 1 _ rfl; (with_reducible repeat first | apply blk_drewN | apply blk_drew | apply blk_alloc); refine blk_put (cs := #[.int .i64 x257000_2, .int .i64 x257001_2, .int .i64 x257002_2, .slice none 0 0]) ?_ 0 _ rfl; (with_reducible repeat first | apply blk_drewN | apply blk_drew | apply blk_alloc); refine blk_far ?_ NB256_277.out _; (with_reducible repeat first | apply blk_drewN | apply blk_drew | apply blk_alloc); refine blk_far ?_ NB256_277.out _; (with_reducible repeat first | apply blk_drewN | apply blk_drew | apply blk_alloc); refine blk_far ?_ NB256_277.out _; (with_reducible repeat first | apply blk_drewN | apply blk_drew | apply blk_alloc); refine blk_far ?_ NB256_277.out _; (with_reducible repeat first | apply blk_drewN | apply blk_drew | apply blk_alloc); exact BK256.out) Try.underlying33 rfl (by kernel_rfl)) rfl ?_
         exact ⟨_, by first | rfl | (simp [errW_none, errW_some] <;> rfl) | (simp [*, errW_none, errW_some] <;> rfl), by (with_reducible repeat (first | apply Kd.R_alloc | apply Kd.R_drewN | apply Kd.R_drew)); exact Kd.R_mono (Kd.R_far (p := ⟨gb256, 3, none⟩) (Kd.R_far (p := ⟨gb256, 2, none⟩) (Kd.R_far (p := ⟨gb256, 1, none⟩) (Kd.R_far (p := ⟨gb256, 0, none⟩) (Kd.R_far (p := ⟨gb277, 3, none⟩) (Kd.R_far (p := ⟨gb277, 2, none⟩) (Kd.R_far (p := ⟨gb277, 1, none⟩) (Kd.R_far (p := ⟨gb277, 0, none⟩) (Kd.R_types (Kd.R_types HO275.out BK277.out (by decide)) BK256.out (by decide)) (fun _ hk => hk.1.2) (.int .i64 t270)) (fun _ hk => hk.1.2) (.int .i64 t271)) (fun _ hk => hk.1.2) (.int .i64 t272)) (fun _ hk => hk.1.2) (.slice Ao69 t273.length co69)) (fun _ hk => hk.2) (.int .i64 t270)) (fun _ hk => hk.2) (.int .i64 t271)) (fun _ hk => hk.2) (.int .i64 t272)) (fun _ hk => hk.2) (.slice Ao69 t273.length co69)) (fun _ hk => trivial), by repeat (first | (with_reducible first | exact HB.out | apply below_alloc | apply pw_below_drewN | apply below_drew1 | refine below_set ?_ GE254.out | refine below_set ?_ GE255.out | refine below_set ?_ GE256.out | refine below_set ?_ GE277.out) | exact HB.out)⟩
     ·rw [if_neg c33] at H
      have c33b0 : ((l1_3.length : Int) == (l2_3.length : Int)) = false := beq_eq_false_iff_ne.mpr c33
      have c33b1 : ((l1_3.length : Int) != (l2_3.length : Int)) = true := bne_iff_ne.mpr c33
      have c33b2 : (l1_3.length == l2_3.length) = false := by first | simpa using c33 | (simp at c33 ⊢; omega)
      simp only [Option.some.injEq, Prod.mk.injEq] at H
      obtain ⟨rfl, rfl, rfl, rfl, rfl⟩ := H
      have hnb72 := NB254_255.out
      have hnc72 := NB255_254.out
      have hnb73 := NB254_256.out
      have hnc73 := NB256_254.out
      have hcz74_0 : wc.cell? ⟨gb254, 0, none⟩ = some (.int .i64 a1_0) := cz_ BK254 0
      have hcz74_1 : wc.cell? ⟨gb254, 1, none⟩ = some (.int .i64 a1_1) := cz_ BK254 1
      have hcz74_2 : wc.cell? ⟨gb254, 2, none⟩ = some (.int .i64 a1_2) := cz_ BK254 2
      have hcz74_3 : wc.cell? ⟨gb254, 3, none⟩ = some (.slice A1_3 l1_3.length c1_3) := cz_ BK254 3
      have hfz74_0 := fz_ BK254 0
      have hfz74_1 := fz_ BK254 1
      have hfz74_2 := fz_ BK254 2
      have hfz74_3 := fz_ BK254 3
      have hnb75 := NB255_256.out
      have hnc75 := NB256_255.out
      have hcz76_0 : wc.cell? ⟨gb255, 0, none⟩ = some (.int .i64 a2_0) := cz_ BK255 0
      have hcz76_1 : wc.cell? ⟨gb255, 1, none⟩ = some (.int .i64 a2_1) := cz_ BK255 1
      have hcz76_2 : wc.cell? ⟨gb255, 2, none⟩ = some (.int .i64 a2_2) := cz_ BK255 2
      have hcz76_3 : wc.cell? ⟨gb255, 3, none⟩ = some (.slice A2_3 l2_3.length c2_3) := cz_ BK255 3
      have hfz76_0 := fz_ BK255 0
      have hfz76_1 := fz_ BK255 1
      have hfz76_2 := fz_ BK255 2
      have hfz76_3 := fz_ BK255 3
      have hcz77_0 : wc.cell? ⟨gb256, 0, none⟩ = some (.int .i64 0) := cz_ BK256 0
      have hcz77_1 : wc.cell? ⟨gb256, 1, none⟩ = some (.int .i64 0) := cz_ BK256 1
      have hcz77_2 : wc.cell? ⟨gb256, 2, none⟩ = some (.int .i64 0) := cz_ BK256 2
      have hcz77_3 : wc.cell? ⟨gb256, 3, none⟩ = some (.slice none 0 0) := cz_ BK256 3
      have hfz77_0 := fz_ BK256 0
      have hfz77_1 := fz_ BK256 1
      have hfz77_2 := fz_ BK256 2
      have hfz77_3 := fz_ BK256 3
      go_wp2
      refine bodyPost_ret (results_ct rfl _ _ gb256 33 #[.int .i64 0, .int .i64 0, .int .i64 0, .slice none 0 0] (0, 0) _ rfl (by (with_reducible repeat first | apply blk_drewN | apply blk_drew | apply blk_alloc); refine blk_put (cs := #[.int .i64 0, .int .i64 0, .int .i64 0, .slice none 0 0]) ?_ 3 _ rfl; (with_reducible repeat first | apply blk_drewN | apply blk_drew | apply blk_alloc); refine blk_put (cs := #[.int .i64 0, .int .i64 0, .int .i64 0, .slice none 0 0]) ?_ 2 _ rfl; (with_reducible repeat first | apply blk_drewN | apply blk_drew | apply blk_alloc); refine blk_put (cs := #[.int .i64 0, .int .i64 0, .int .i64 0, .slice none 0 0]) ?_ 1 _ rfl; (with_reducible repeat first | apply blk_drewN | apply blk_drew | apply blk_alloc); refine blk_put (cs := #[.int .i64 0, .int .i64 0, .int .i64 0, .slice none 0 0]) ?_ 0 _ rfl; (with_reducible repeat first | apply blk_drewN | apply blk_drew | apply blk_alloc); exact BK256.out) Try.underlying33 rfl (by kernel_rfl)) rfl ?_
      exact ⟨_, by first | rfl | (simp [errW_none, errW_some] <;> rfl) | (simp [*, errW_none, errW_some] <;> rfl), by first | exact Kd.R_nil _ _ _ _ _ | exact Kd.N_nil _ _ _ _ _ | exact Kd.V_nil _ _ _ _ _ | exact Kd.Q_nil _ _ _ _ _ | exact Kd.S_nil _ _ _ _ _, by repeat (first | (with_reducible first | exact HB.out | apply below_alloc | apply pw_below_drewN | apply below_drew1 | refine below_set ?_ GE254.out | refine below_set ?_ GE255.out | refine below_set ?_ GE256.out) | exact HB.out)⟩
end Go.Proofs.Ytoiailmmgfokjaa.QC
