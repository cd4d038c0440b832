-- Written by a program of this session out of Lean's own print of the loaded program; Lean checks it.
import Derived.Test.YtoiailmmgfokjaaQCx6
import Derived.Test.YtoiailmmgfokjaaQCx33
import Derived.Test.YtoiailmmgfokjaaQCx39
namespace Go.Proofs.Ytoiailmmgfokjaa.QC
open Go.RowKit Go.Proofs.YtoiailmmgfokjaaW.PrintWords Go.Proofs.YtoiailmmgfokjaaW.PrintLast Go.Proofs.YtoiailmmgfokjaaW.PrintMore
attribute [local go_sem] isSome_setCell max2_int min2_int max_two min_two max_three min_three max_four min_four   -- for this text's walks alone
set_option linter.unusedVariables false
set_option linter.unusedSimpArgs false

attribute [local go_sem high] eqA30
/-! ### impl_AddMeasures: function 14 -/
mutual
def impl_AddMeasures.j0 : Nat → Bool → Int → Int → Int → List (S63) → Int → Int → Int → List (S63) → Option (Int × Int × Int × (List (S63)) × Int)
 | 0, _, _, _, _, _, _, _, _, _ => none
 | k + 1, x21, x322000, x322001, x322002, x322003, x323000, x323001, x323002, x323003 => if x21 = true then (some (0, 0, 0, ([] : List (S63)), 1)) else (if (!(x322000 == x323000) || (!(x322001 == x323001) || (!(x322002 == x323002)))) = true then (impl_AddMeasures.j1 k true x322000 x322001 x322002 x322003 x323000 x323001 x323002 x323003) else (impl_AddMeasures.j1 k ((x322003.length : Int) != (x323003.length : Int)) x322000 x322001 x322002 x322003 x323000 x323001 x323002 x323003))
def impl_AddMeasures.j1 : Nat → Bool → Int → Int → Int → List (S63) → Int → Int → Int → List (S63) → Option (Int × Int × Int × (List (S63)) × Int)
 | 0, _, _, _, _, _, _, _, _, _ => none
 | k + 1, x36, x322000, x322001, x322002, x322003, x323000, x323001, x323002, x323003 => if x36 = true then (some (0, 0, 0, ([] : List (S63)), 5)) else ((slices_Clone_impl_Piece.f x322003).bind fun t326 => (impl_AddMeasures.l0 k t326 true x323003 (x323003.length : Int) 0 x322000 x322001 x322002 x322003))
def impl_AddMeasures.l0 : Nat → List (S63) → Bool → List (S63) → Int → Int → Int → Int → Int → List (S63) → Option (Int × Int × Int × (List (S63)) × Int)
 | 0, _, _, _, _, _, _, _, _, _ => none
 | k + 1, x8, x9, x42, x43, x44, x322000, x322001, x322002, x322003 => if x44 < x43 then (if 0 ≤ x44 then (if x44 < (x42.length : Int) then (if x44 < (x8.length : Int) then (if (!(((rd_T63 x8 x44).f0.f0) == ((rd_T63 x42 x44).f0.f0)) || (!(((rd_T63 x8 x44).f0.f1) == ((rd_T63 x42 x44).f0.f1)) || (!(((rd_T63 x8 x44).f0.f2) == ((rd_T63 x42 x44).f0.f2))))) = true then (some (0, 0, 0, ([] : List (S63)), 5)) else ((some (x8.set (x44 : Int).toNat (⟨(⟨(rd_T63 x8 x44).f0.f0, (rd_T63 x8 x44).f0.f1, (rd_T63 x8 x44).f0.f2⟩ : S30), wrap64 (((rd_T63 x8 x44).f1) + ((rd_T63 x42 x44).f1))⟩ : S63) : List (S63))).bind fun y333 => (if x9 = true then ((impl_isWeight.f k (([wrap64 (((rd_T63 x8 x44).f1) + ((rd_T63 x42 x44).f1))] : List Int))).bind fun t338 => (impl_AddMeasures.l0 k y333 t338 x42 x43 (wrap64 (x44 + 1)) x322000 x322001 x322002 x322003)) else (impl_AddMeasures.l0 k y333 false x42 x43 (wrap64 (x44 + 1)) x322000 x322001 x322002 x322003)))) else (none)) else (none)) else (none)) else (if x9 = true then (some (x322000, x322001, x322002, x8, 0)) else (some (0, 0, 0, ([] : List (S63)), 3)))
end
def impl_AddMeasures.f (k : Nat) (a0 : Int) (a1_0 : Int) (a1_1 : Int) (a1_2 : Int) (l1_3 : List (S63)) (a2_0 : Int) (a2_1 : Int) (a2_2 : Int) (l2_3 : List (S63)) : Option (Int × Int × Int × (List (S63)) × Int) := (impl_IsMeasure.f k a0 a1_0 a1_1 a1_2 l1_3).bind fun t324 => (if t324 = true then ((impl_IsMeasure.f k a0 a2_0 a2_1 a2_2 l2_3).bind fun t325 => (impl_AddMeasures.j0 k (!t325) a1_0 a1_1 a1_2 l1_3 a2_0 a2_1 a2_2 l2_3)) else (impl_AddMeasures.j0 k true a1_0 a1_1 a1_2 l1_3 a2_0 a2_1 a2_2 l2_3))
def impl_AddMeasures.T9 : Bool × List (List Nat × List Nat) := (true, [([], []), ([], []), ([0, 1], [0, 1]), ([2], [2]), ([3], [3]), ([], []), ([5], [5]), ([4, 6], [4, 6])])
def impl_AddMeasures.B9 : List Nat := [0, 0, 3, 7, 15, 0, 32, 127]
theorem impl_AddMeasures.tab9 : rtab .any (opsOf Try.f14 9) = impl_AddMeasures.T9 := by kernel_rfl
theorem impl_AddMeasures.bits9 : waitsOk impl_AddMeasures.T9.2 impl_AddMeasures.B9 = true := by kernel_rfl
def impl_AddMeasures.T11 : Bool × List (List Nat × List Nat) := (true, [([], []), ([], []), ([0, 1], [0, 1]), ([2], [2]), ([3], [3]), ([], []), ([5], [5]), ([4, 6], [4, 6]), ([0, 1, 0, 1, 2, 3, 4, 5, 6, 7], [0, 1]), ([8, 0, 1, 2, 3, 4, 5, 6, 7], [8]), ([9, 7, 0, 1, 2, 3, 4, 5, 6, 7], [7, 9])])
def impl_AddMeasures.B11 : List Nat := [0, 0, 3, 7, 15, 0, 32, 127, 255, 511, 1023]
theorem impl_AddMeasures.tab11 : rtab .any (opsOf Try.f14 11) = impl_AddMeasures.T11 := by kernel_rfl
theorem impl_AddMeasures.bits11 : waitsOk impl_AddMeasures.T11.2 impl_AddMeasures.B11 = true := by kernel_rfl
set_option maxHeartbeats 8000000 in
set_option maxRecDepth 100000 in
theorem impl_AddMeasures.calls (k : Nat) (a0 : Int) (a1_0 : Int) (a1_1 : Int) (a1_2 : Int) (A1_3 : Option Addr) (c1_3 : Nat) (l1_3 : List (S63)) (a2_0 : Int) (a2_1 : Int) (a2_2 : Int) (A2_3 : Option Addr) (c2_3 : Nat) (l2_3 : List (S63)) (r1 : Int) (r2 : Int) (r3 : Int) (r4 : List (S63)) (r5 : Int) (w : World) (hr1_3 : Kd.C k63 w A1_3 l1_3.length l1_3) (hc1_3 : l1_3.length ≤ c1_3) (hr2_3 : Kd.C k63 w A2_3 l2_3.length l2_3) (hc2_3 : l2_3.length ≤ c2_3) (h : impl_AddMeasures.f k a0 a1_0 a1_1 a1_2 l1_3 a2_0 a2_1 a2_2 l2_3 = some (r1, r2, r3, r4, r5)) :
  Calls Try.prog 14 #[.int .i64 a0, .agg #[.int .i64 a1_0, .int .i64 a1_1, .int .i64 a1_2, .slice A1_3 l1_3.length c1_3], .agg #[.int .i64 a2_0, .int .i64 a2_1, .int .i64 a2_2, .slice A2_3 l2_3.length c2_3]] w fun e w' => ∃ v3_ : Value, e = .returned (.tuple #[.agg #[.int .i64 r1, .int .i64 r2, .int .i64 r3, v3_], .int .i64 r5]) ∧ Kd.R k63 63 w' w.heap.size (fun _ => True) v3_ r4 ∧ Below w.heap.size w w' := by
 have hu33 := Try.underlying33
 have hu30 := Try.underlying30
 have hu63 := Try.underlying63
 have HR1_3 := Aside0.mk hr1_3
 have HC1_3 := Aside0.mk hc1_3
 clear hr1_3 hc1_3
 have HR2_3 := Aside0.mk hr2_3
 have HC2_3 := Aside0.mk hc2_3
 clear hr2_3 hc2_3
 have HB := Aside0.mk (Below.refl w.heap.size w)
 have H : ((impl_IsMeasure.f k a0 a1_0 a1_1 a1_2 l1_3).bind fun t324 => (if t324 = true then ((impl_IsMeasure.f k a0 a2_0 a2_1 a2_2 l2_3).bind fun t325 => (impl_AddMeasures.j0 k (!t325) a1_0 a1_1 a1_2 l1_3 a2_0 a2_1 a2_2 l2_3)) else (impl_AddMeasures.j0 k true a1_0 a1_1 a1_2 l1_3 a2_0 a2_1 a2_2 l2_3))) = some (r1, r2, r3, r4, r5) := h
 clear h
 have HC4 := Aside0.mk H
 clear H
 go_enter Try.func14, Try.ntmps14
 go_upto_region 1 with (first | ((with_reducible refine gate_dst (N := 4) rfl ?_); (try (refine gate_guard (by rfl) ?_; dsimp only)); refine bx_ 4 #[.int .i64 a1_0, .int .i64 a1_1, .int .i64 a1_2, .slice A1_3 l1_3.length c1_3] 33 ?_; intro gb321 hg w5 hbox hb; have BK321 := Aside0.mk (hbox); have GW321 := bs_ HB hg; have GE321 := bs_ HB hg; replace HB := bt_ HB hb; clear hb hbox hg) | ((with_reducible refine gate_dst (N := 5) rfl ?_); (try (refine gate_guard (by rfl) ?_; dsimp only)); refine bx_ 5 #[.int .i64 a2_0, .int .i64 a2_1, .int .i64 a2_2, .slice A2_3 l2_3.length c2_3] 33 ?_; intro gb322 hg w6 hbox hb; have BK322 := Aside0.mk (hbox); have GW322 := bs_ HB hg; have GE322 := bs_ HB hg; have NB321_322 := bm_ BK321 hg; have NB322_321 := bn_ BK321 hg; replace BK321 := bb_ BK321 hb; replace HB := bt_ HB hb; clear hb hbox hg) | ((with_reducible refine gate_dst (N := 6) rfl ?_); (try (refine gate_guard (by rfl) ?_; dsimp only)); refine bx_ 6 #[.int .i64 0, .int .i64 0, .int .i64 0, .slice none 0 0] 33 ?_; intro gb323 hg w7 hbox hb; have BK323 := Aside0.mk (hbox); have GW323 := bs_ HB hg; have GE323 := bs_ HB hg; have NB321_323 := bm_ BK321 hg; have NB323_321 := bn_ BK321 hg; have NB322_323 := bm_ BK322 hg; have NB323_322 := bn_ BK322 hg; replace BK321 := bb_ BK321 hb; replace BK322 := bb_ BK322 hb; replace HB := bt_ HB hb; clear hb hbox hg))
 (try simp only [Act.put, lstS, lstZ, lstC])
 go_cut [21] (fun v21 wc => ∃ (kq : Nat) (x21_3 : Bool), v21 = .bool x21_3 ∧ Aside0 (impl_AddMeasures.j0 kq x21_3 a1_0 a1_1 a1_2 l1_3 a2_0 a2_1 a2_2 l2_3 = some (r1, r2, r3, r4, r5)) ∧ Aside0 (kq ≤ k) ∧ Aside0 (wc.heap[gb321]? = some (.cells #[.int .i64 a1_0, .int .i64 a1_1, .int .i64 a1_2, (.slice A1_3 l1_3.length c1_3)] 33 (0, 0))) ∧ Aside0 (wc.heap[gb322]? = some (.cells #[.int .i64 a2_0, .int .i64 a2_1, .int .i64 a2_2, (.slice A2_3 l2_3.length c2_3)] 33 (0, 0))) ∧ Aside0 (wc.heap[gb323]? = some (.cells #[.int .i64 0, .int .i64 0, .int .i64 0, (.slice none 0 0)] 33 (0, 0))) ∧ Aside0 (Below w.heap.size w wc))
 case first =>
  have H := HC4.out
  clear HC4
  replace H := Option.bind_eq_some_iff.mp H
  obtain ⟨t324, A80, H⟩ := H
  have A8 := Aside0.mk A80
  clear A80
  by_cases c9 : t324 = true
  ·subst c9
   have H1 : ((impl_IsMeasure.f k a0 a2_0 a2_1 a2_2 l2_3).bind fun t325 => (impl_AddMeasures.j0 k (!t325) a1_0 a1_1 a1_2 l1_3 a2_0 a2_1 a2_2 l2_3)) = some (r1, r2, r3, r4, r5) := by rw [if_pos rfl] at H; exact H
   clear H
   have H := H1
   clear H1
   replace H := Option.bind_eq_some_iff.mp H
   obtain ⟨t325, A100, H⟩ := H
   have A10 := Aside0.mk A100
   clear A100
   have H' := Aside0.mk H
   clear H
   have hnb11 := NB321_322.out
   have hnc11 := NB322_321.out
   have hnb12 := NB321_323.out
   have hnc12 := NB323_321.out
   have hcz13_0 : w7.cell? ⟨gb321, 0, none⟩ = some (.int .i64 a1_0) := cz_ BK321 0
   have hcz13_1 : w7.cell? ⟨gb321, 1, none⟩ = some (.int .i64 a1_1) := cz_ BK321 1
   have hcz13_2 : w7.cell? ⟨gb321, 2, none⟩ = some (.int .i64 a1_2) := cz_ BK321 2
   have hcz13_3 : w7.cell? ⟨gb321, 3, none⟩ = some (.slice A1_3 l1_3.length c1_3) := cz_ BK321 3
   have hfz13_0 := fz_ BK321 0
   have hfz13_1 := fz_ BK321 1
   have hfz13_2 := fz_ BK321 2
   have hfz13_3 := fz_ BK321 3
   go_wp2_with (first | ((with_reducible refine gate_callee (f := 36) rfl ?_); refine ge_ 14 Try.func36 #[.int .i64 a0, .agg #[.int .i64 a1_0, .int .i64 a1_1, .int .i64 a1_2, .slice A1_3 l1_3.length c1_3]] ?_; (with_reducible refine (impl_IsMeasure.calls k a0 a1_0 a1_1 a1_2 _ _ l1_3 true _ ?side1 ?side2 A8.out).mono ?_); (case side1 => repeat (first | exact (Kd.C_below HR1_3.out (bw_ HB).out) | (with_reducible refine Kd.C_alloc ?_ _) | (with_reducible refine Kd.C_drewN ?_ _) | (with_reducible refine Kd.C_drew ?_))); (case side2 => exact HC1_3.out); rintro e w14 ⟨rfl, hb⟩; refine ⟨_, rfl, ?_⟩; replace BK321 := bb_ BK321 hb; replace BK322 := bb_ BK322 hb; replace BK323 := bb_ BK323 hb; replace HB := bt_ HB hb; (try clear hb); (try clear hb2); (try clear hk); (try clear hi); have hnb15 := NB322_323.out; have hnc15 := NB323_322.out; have hcz16_0 : w14.cell? ⟨gb322, 0, none⟩ = some (.int .i64 a2_0) := cz_ BK322 0; have hcz16_1 : w14.cell? ⟨gb322, 1, none⟩ = some (.int .i64 a2_1) := cz_ BK322 1; have hcz16_2 : w14.cell? ⟨gb322, 2, none⟩ = some (.int .i64 a2_2) := cz_ BK322 2; have hcz16_3 : w14.cell? ⟨gb322, 3, none⟩ = some (.slice A2_3 l2_3.length c2_3) := cz_ BK322 3; have hfz16_0 := fz_ BK322 0; have hfz16_1 := fz_ BK322 1; have hfz16_2 := fz_ BK322 2; have hfz16_3 := fz_ BK322 3) | (go_at_call 36; (with_reducible refine (impl_IsMeasure.calls k a0 a2_0 a2_1 a2_2 _ _ l2_3 t325 _ ?side1 ?side2 A10.out).mono ?_); (case side1 => repeat (first | exact (Kd.C_below HR2_3.out HB.out) | (with_reducible refine Kd.C_alloc ?_ _) | (with_reducible refine Kd.C_drewN ?_ _) | (with_reducible refine Kd.C_drew ?_))); (case side2 => exact HC2_3.out); rintro e w17 ⟨rfl, hb⟩; replace BK321 := bb_ BK321 hb; replace BK322 := bb_ BK322 hb; replace BK323 := bb_ BK323 hb; replace HB := bt_ HB hb; (try clear hb); (try clear hb2); (try clear hk); (try clear hi)))
   go_meet
   case rel => exact ⟨_, (!t325), (by first | rfl | (simp; done) | (simp [*]; done) | (simp [wrap64]; done)), H', ⟨by first | omega | exact Nat.le_refl _⟩, bl_ BK321, bl_ BK322, bl_ BK323, bw_ HB⟩
  ·replace c9 := Bool.eq_false_iff.mpr c9
   subst c9
   have H1 : (impl_AddMeasures.j0 k true a1_0 a1_1 a1_2 l1_3 a2_0 a2_1 a2_2 l2_3) = some (r1, r2, r3, r4, r5) := by rw [if_neg (show ¬ (false = true) by decide)] at H; exact H
   clear H
   have H := H1
   clear H1
   have H' := Aside0.mk H
   clear H
   have hnb18 := NB321_322.out
   have hnc18 := NB322_321.out
   have hnb19 := NB321_323.out
   have hnc19 := NB323_321.out
   have hcz20_0 : w7.cell? ⟨gb321, 0, none⟩ = some (.int .i64 a1_0) := cz_ BK321 0
   have hcz20_1 : w7.cell? ⟨gb321, 1, none⟩ = some (.int .i64 a1_1) := cz_ BK321 1
   have hcz20_2 : w7.cell? ⟨gb321, 2, none⟩ = some (.int .i64 a1_2) := cz_ BK321 2
   have hcz20_3 : w7.cell? ⟨gb321, 3, none⟩ = some (.slice A1_3 l1_3.length c1_3) := cz_ BK321 3
   have hfz20_0 := fz_ BK321 0
   have hfz20_1 := fz_ BK321 1
   have hfz20_2 := fz_ BK321 2
   have hfz20_3 := fz_ BK321 3
   go_wp2_with (first | ((with_reducible refine gate_callee (f := 36) rfl ?_); refine ge_ 14 Try.func36 #[.int .i64 a0, .agg #[.int .i64 a1_0, .int .i64 a1_1, .int .i64 a1_2, .slice A1_3 l1_3.length c1_3]] ?_; (with_reducible refine (impl_IsMeasure.calls k a0 a1_0 a1_1 a1_2 _ _ l1_3 false _ ?side1 ?side2 A8.out).mono ?_); (case side1 => repeat (first | exact (Kd.C_below HR1_3.out (bw_ HB).out) | (with_reducible refine Kd.C_alloc ?_ _) | (with_reducible refine Kd.C_drewN ?_ _) | (with_reducible refine Kd.C_drew ?_))); (case side2 => exact HC1_3.out); rintro e w21 ⟨rfl, hb⟩; refine ⟨_, rfl, ?_⟩; replace BK321 := bb_ BK321 hb; replace BK322 := bb_ BK322 hb; replace BK323 := bb_ BK323 hb; replace HB := bt_ HB hb; (try clear hb); (try clear hb2); (try clear hk); (try clear hi)))
   go_meet
   case rel => exact ⟨_, (true), (by first | rfl | (simp; done) | (simp [*]; done) | (simp [wrap64]; done)), H', ⟨by first | omega | exact Nat.le_refl _⟩, bl_ BK321, bl_ BK322, bl_ BK323, bw_ HB⟩
 case rest =>
  clear HC4
  try clear c1
  try clear c2
  try clear p2
  try clear c3
  try clear c9
  try clear c11
  try clear c12
  try clear c14
  try clear c15
  try clear c18
  try clear c19
  try clear hcz13_0
  try clear hcz13_1
  try clear hcz13_2
  try clear hcz13_3
  try clear hcz16_0
  try clear hcz16_1
  try clear hcz16_2
  try clear hcz16_3
  try clear hcz20_0
  try clear hcz20_1
  try clear hcz20_2
  try clear hcz20_3
  try clear hfz13_0
  try clear hfz13_1
  try clear hfz13_2
  try clear hfz13_3
  try clear hfz16_0
  try clear hfz16_1
  try clear hfz16_2
  try clear hfz16_3
  try clear hfz20_0
  try clear hfz20_1
  try clear hfz20_2
  try clear hfz20_3
  obtain ⟨kq, x21_3, rfl, HA, HJ3, BK321, BK322, BK323, HB⟩ := hcut
  cases kq with
  | zero => exact absurd HA.out (by simp [impl_AddMeasures.j0])
  | succ kj3 =>
   have H := HA.out
   clear HA
   simp only [impl_AddMeasures.j0] at H
   by_cases c22 : x21_3 = true
   ·subst c22
    have H1 : (some (0, 0, 0, ([] : List (S63)), 1)) = some (r1, r2, r3, r4, r5) := by rw [if_pos rfl] at H; exact H
    clear H
    have H := H1
    clear H1
    simp only [Option.some.injEq, Prod.mk.injEq] at H
    obtain ⟨rfl, rfl, rfl, rfl, rfl⟩ := H
    have hnb23 := NB323_321.out
    have hnc23 := NB321_323.out
    have hnb24 := NB323_322.out
    have hnc24 := NB322_323.out
    have hcz25_0 : wc.cell? ⟨gb323, 0, none⟩ = some (.int .i64 0) := cz_ BK323 0
    have hcz25_1 : wc.cell? ⟨gb323, 1, none⟩ = some (.int .i64 0) := cz_ BK323 1
    have hcz25_2 : wc.cell? ⟨gb323, 2, none⟩ = some (.int .i64 0) := cz_ BK323 2
    have hcz25_3 : wc.cell? ⟨gb323, 3, none⟩ = some (.slice none 0 0) := cz_ BK323 3
    have hfz25_0 := fz_ BK323 0
    have hfz25_1 := fz_ BK323 1
    have hfz25_2 := fz_ BK323 2
    have hfz25_3 := fz_ BK323 3
    go_wp2
    refine bodyPost_ret (results_ct rfl _ _ gb323 33 #[.int .i64 0, .int .i64 0, .int .i64 0, .slice none 0 0] (0, 0) _ rfl (by (with_reducible repeat first | apply blk_drewN | apply blk_drew | apply blk_alloc); refine blk_put (cs := #[.int .i64 0, .int .i64 0, .int .i64 0, .slice none 0 0]) ?_ 3 _ rfl; (with_reducible repeat first | apply blk_drewN | apply blk_drew | apply blk_alloc); refine blk_put (cs := #[.int .i64 0, .int .i64 0, .int .i64 0, .slice none 0 0]) ?_ 2 _ rfl; (with_reducible repeat first | apply blk_drewN | apply blk_drew | apply blk_alloc); refine blk_put (cs := #[.int .i64 0, .int .i64 0, .int .i64 0, .slice none 0 0]) ?_ 1 _ rfl; (with_reducible repeat first | apply blk_drewN | apply blk_drew | apply blk_alloc); refine blk_put (cs := #[.int .i64 0, .int .i64 0, .int .i64 0, .slice none 0 0]) ?_ 0 _ rfl; (with_reducible repeat first | apply blk_drewN | apply blk_drew | apply blk_alloc); exact BK323.out) Try.underlying33 rfl (by kernel_rfl)) rfl ?_
    exact ⟨_, by first | rfl | (simp [errW_none, errW_some] <;> rfl) | (simp [*, errW_none, errW_some] <;> rfl), by first | exact Kd.R_nil _ _ _ _ _ | exact Kd.N_nil _ _ _ _ _ | exact Kd.V_nil _ _ _ _ _ | exact Kd.Q_nil _ _ _ _ _ | exact Kd.S_nil _ _ _ _ _, by repeat (first | (with_reducible first | exact HB.out | apply below_alloc | apply pw_below_drewN | apply below_drew1 | refine below_set ?_ GE321.out | refine below_set ?_ GE322.out | refine below_set ?_ GE323.out) | exact HB.out)⟩
   ·replace c22 := Bool.eq_false_iff.mpr c22
    subst c22
    have H1 : (if (!(a1_0 == a2_0) || (!(a1_1 == a2_1) || (!(a1_2 == a2_2)))) = true then (impl_AddMeasures.j1 kj3 true a1_0 a1_1 a1_2 l1_3 a2_0 a2_1 a2_2 l2_3) else (impl_AddMeasures.j1 kj3 ((l1_3.length : Int) != (l2_3.length : Int)) a1_0 a1_1 a1_2 l1_3 a2_0 a2_1 a2_2 l2_3)) = some (r1, r2, r3, r4, r5) := by rw [if_neg (show ¬ (false = true) by decide)] at H; exact H
    clear H
    have H := H1
    clear H1
    have HC26 := Aside0.mk H
    clear H
    go_upto_region 3 with (fail)
    go_cut [36] (fun v36 wc => ∃ (kq : Nat) (x36_25 : Bool), v36 = .bool x36_25 ∧ Aside0 (impl_AddMeasures.j1 kq x36_25 a1_0 a1_1 a1_2 l1_3 a2_0 a2_1 a2_2 l2_3 = some (r1, r2, r3, r4, r5)) ∧ Aside0 (kq ≤ kj3) ∧ Aside0 (wc.heap[gb321]? = some (.cells #[.int .i64 a1_0, .int .i64 a1_1, .int .i64 a1_2, (.slice A1_3 l1_3.length c1_3)] 33 (0, 0))) ∧ Aside0 (wc.heap[gb322]? = some (.cells #[.int .i64 a2_0, .int .i64 a2_1, .int .i64 a2_2, (.slice A2_3 l2_3.length c2_3)] 33 (0, 0))) ∧ Aside0 (wc.heap[gb323]? = some (.cells #[.int .i64 0, .int .i64 0, .int .i64 0, (.slice none 0 0)] 33 (0, 0))) ∧ Aside0 (Below w.heap.size w wc))
    case first =>
     have H := HC26.out
     clear HC26
     by_cases c27 : (!(a1_0 == a2_0) || (!(a1_1 == a2_1) || (!(a1_2 == a2_2)))) = true
     ·rw [if_pos c27] at H
      have c27b0 : (!(a1_0 == a2_0) || (!(a1_1 == a2_1) || (!(a1_2 == a2_2)))) = true := c27
      clear c27
      (first | rw [c27b0] | (simp only [i64_w, i32_w]; rw [c27b0]) | skip)
      have H' := Aside0.mk H
      clear H
      have hnb28 := NB321_322.out
      have hnc28 := NB322_321.out
      have hnb29 := NB321_323.out
      have hnc29 := NB323_321.out
      have hcz30_0 : wc.cell? ⟨gb321, 0, none⟩ = some (.int .i64 a1_0) := cz_ BK321 0
      have hcz30_1 : wc.cell? ⟨gb321, 1, none⟩ = some (.int .i64 a1_1) := cz_ BK321 1
      have hcz30_2 : wc.cell? ⟨gb321, 2, none⟩ = some (.int .i64 a1_2) := cz_ BK321 2
      have hcz30_3 : wc.cell? ⟨gb321, 3, none⟩ = some (.slice A1_3 l1_3.length c1_3) := cz_ BK321 3
      have hfz30_0 := fz_ BK321 0
      have hfz30_1 := fz_ BK321 1
      have hfz30_2 := fz_ BK321 2
      have hfz30_3 := fz_ BK321 3
      have hnb31 := NB322_323.out
      have hnc31 := NB323_322.out
      have hcz32_0 : wc.cell? ⟨gb322, 0, none⟩ = some (.int .i64 a2_0) := cz_ BK322 0
      have hcz32_1 : wc.cell? ⟨gb322, 1, none⟩ = some (.int .i64 a2_1) := cz_ BK322 1
      have hcz32_2 : wc.cell? ⟨gb322, 2, none⟩ = some (.int .i64 a2_2) := cz_ BK322 2
      have hcz32_3 : wc.cell? ⟨gb322, 3, none⟩ = some (.slice A2_3 l2_3.length c2_3) := cz_ BK322 3
      have hfz32_0 := fz_ BK322 0
      have hfz32_1 := fz_ BK322 1
      have hfz32_2 := fz_ BK322 2
      have hfz32_3 := fz_ BK322 3
      go_wp2
      go_meet
      case rel => exact ⟨_, (true), (by first | rfl | (simp; done) | (simp [*]; done) | (simp [wrap64]; done)), H', ⟨by have := HJ3.out; first | omega | exact Nat.le_refl _⟩, bl_ BK321, bl_ BK322, bl_ BK323, bw_ HB⟩
     ·rw [if_neg c27] at H
      have c27b0 : (!(a1_0 == a2_0) || (!(a1_1 == a2_1) || (!(a1_2 == a2_2)))) = false := by simpa using c27
      clear c27
      (first | rw [c27b0] | (simp only [i64_w, i32_w]; rw [c27b0]) | skip)
      have H' := Aside0.mk H
      clear H
      have hnb33 := NB321_322.out
      have hnc33 := NB322_321.out
      have hnb34 := NB321_323.out
      have hnc34 := NB323_321.out
      have hcz35_0 : wc.cell? ⟨gb321, 0, none⟩ = some (.int .i64 a1_0) := cz_ BK321 0
      have hcz35_1 : wc.cell? ⟨gb321, 1, none⟩ = some (.int .i64 a1_1) := cz_ BK321 1
      have hcz35_2 : wc.cell? ⟨gb321, 2, none⟩ = some (.int .i64 a1_2) := cz_ BK321 2
      have hcz35_3 : wc.cell? ⟨gb321, 3, none⟩ = some (.slice A1_3 l1_3.length c1_3) := cz_ BK321 3
      have hfz35_0 := fz_ BK321 0
      have hfz35_1 := fz_ BK321 1
      have hfz35_2 := fz_ BK321 2
      have hfz35_3 := fz_ BK321 3
      have hnb36 := NB322_323.out
      have hnc36 := NB323_322.out
      have hcz37_0 : wc.cell? ⟨gb322, 0, none⟩ = some (.int .i64 a2_0) := cz_ BK322 0
      have hcz37_1 : wc.cell? ⟨gb322, 1, none⟩ = some (.int .i64 a2_1) := cz_ BK322 1
      have hcz37_2 : wc.cell? ⟨gb322, 2, none⟩ = some (.int .i64 a2_2) := cz_ BK322 2
      have hcz37_3 : wc.cell? ⟨gb322, 3, none⟩ = some (.slice A2_3 l2_3.length c2_3) := cz_ BK322 3
      have hfz37_0 := fz_ BK322 0
      have hfz37_1 := fz_ BK322 1
      have hfz37_2 := fz_ BK322 2
      have hfz37_3 := fz_ BK322 3
      go_wp2
      go_meet
      case rel => exact ⟨_, (((l1_3.length : Int) != (l2_3.length : Int))), (by first | rfl | (simp; done) | (simp [*]; done) | (simp [wrap64]; done)), H', ⟨by have := HJ3.out; first | omega | exact Nat.le_refl _⟩, bl_ BK321, bl_ BK322, bl_ BK323, bw_ HB⟩
    case rest =>
     clear HC26
     try clear c1
     try clear c2
     try clear p2
     try clear c3
     try clear c9
     try clear c11
     try clear c12
     try clear c14
     try clear c15
     try clear c18
     try clear c19
     try clear c22
     try clear c23
     try clear c24
     try clear c27
     try clear c27b0
     try clear c28
     try clear c29
     try clear c31
     try clear c33
     try clear c34
     try clear c36
     try clear hcz13_0
     try clear hcz13_1
     try clear hcz13_2
     try clear hcz13_3
     try clear hcz16_0
     try clear hcz16_1
     try clear hcz16_2
     try clear hcz16_3
     try clear hcz20_0
     try clear hcz20_1
     try clear hcz20_2
     try clear hcz20_3
     try clear hcz25_0
     try clear hcz25_1
     try clear hcz25_2
     try clear hcz25_3
     try clear hcz30_0
     try clear hcz30_1
     try clear hcz30_2
     try clear hcz30_3
     try clear hcz32_0
     try clear hcz32_1
     try clear hcz32_2
     try clear hcz32_3
     try clear hcz35_0
     try clear hcz35_1
     try clear hcz35_2
     try clear hcz35_3
     try clear hcz37_0
     try clear hcz37_1
     try clear hcz37_2
     try clear hcz37_3
     try clear hfz13_0
     try clear hfz13_1
     try clear hfz13_2
     try clear hfz13_3
     try clear hfz16_0
     try clear hfz16_1
     try clear hfz16_2
     try clear hfz16_3
     try clear hfz20_0
     try clear hfz20_1
     try clear hfz20_2
     try clear hfz20_3
     try clear hfz25_0
     try clear hfz25_1
     try clear hfz25_2
     try clear hfz25_3
     try clear hfz30_0
     try clear hfz30_1
     try clear hfz30_2
     try clear hfz30_3
     try clear hfz32_0
     try clear hfz32_1
     try clear hfz32_2
     try clear hfz32_3
     try clear hfz35_0
     try clear hfz35_1
     try clear hfz35_2
     try clear hfz35_3
     try clear hfz37_0
     try clear hfz37_1
     try clear hfz37_2
     try clear hfz37_3
     try clear p2
     obtain ⟨kq, x36_25, rfl, HA, HJ25, BK321, BK322, BK323, HB⟩ := hcut
     cases kq with
     | zero => exact absurd HA.out (by simp [impl_AddMeasures.j1])
     | succ kj25 =>
      have H := HA.out
      clear HA
      simp only [impl_AddMeasures.j1] at H
      by_cases c38 : x36_25 = true
      ·subst c38
       have H1 : (some (0, 0, 0, ([] : List (S63)), 5)) = some (r1, r2, r3, r4, r5) := by rw [if_pos rfl] at H; exact H
       clear H
       have H := H1
       clear H1
       simp only [Option.some.injEq, Prod.mk.injEq] at H
       obtain ⟨rfl, rfl, rfl, rfl, rfl⟩ := H
       have hnb39 := NB323_321.out
       have hnc39 := NB321_323.out
       have hnb40 := NB323_322.out
       have hnc40 := NB322_323.out
       have hcz41_0 : wc.cell? ⟨gb323, 0, none⟩ = some (.int .i64 0) := cz_ BK323 0
       have hcz41_1 : wc.cell? ⟨gb323, 1, none⟩ = some (.int .i64 0) := cz_ BK323 1
       have hcz41_2 : wc.cell? ⟨gb323, 2, none⟩ = some (.int .i64 0) := cz_ BK323 2
       have hcz41_3 : wc.cell? ⟨gb323, 3, none⟩ = some (.slice none 0 0) := cz_ BK323 3
       have hfz41_0 := fz_ BK323 0
       have hfz41_1 := fz_ BK323 1
       have hfz41_2 := fz_ BK323 2
       have hfz41_3 := fz_ BK323 3
       go_wp2
       refine bodyPost_ret (results_ct rfl _ _ gb323 33 #[.int .i64 0, .int .i64 0, .int .i64 0, .slice none 0 0] (0, 0) _ rfl (by (with_reducible repeat first | apply blk_drewN | apply blk_drew | apply blk_alloc); refine blk_put (cs := #[.int .i64 0, .int .i64 0, .int .i64 0, .slice none 0 0]) ?_ 3 _ rfl; (with_reducible repeat first | apply blk_drewN | apply blk_drew | apply blk_alloc); refine blk_put (cs := #[.int .i64 0, .int .i64 0, .int .i64 0, .slice none 0 0]) ?_ 2 _ rfl; (with_reducible repeat first | apply blk_drewN | apply blk_drew | apply blk_alloc); refine blk_put (cs := #[.int .i64 0, .int .i64 0, .int .i64 0, .slice none 0 0]) ?_ 1 _ rfl; (with_reducible repeat first | apply blk_drewN | apply blk_drew | apply blk_alloc); refine blk_put (cs := #[.int .i64 0, .int .i64 0, .int .i64 0, .slice none 0 0]) ?_ 0 _ rfl; (with_reducible repeat first | apply blk_drewN | apply blk_drew | apply blk_alloc); exact BK323.out) Try.underlying33 rfl (by kernel_rfl)) rfl ?_
       exact ⟨_, by first | rfl | (simp [errW_none, errW_some] <;> rfl) | (simp [*, errW_none, errW_some] <;> rfl), by first | exact Kd.R_nil _ _ _ _ _ | exact Kd.N_nil _ _ _ _ _ | exact Kd.V_nil _ _ _ _ _ | exact Kd.Q_nil _ _ _ _ _ | exact Kd.S_nil _ _ _ _ _, by repeat (first | (with_reducible first | exact HB.out | apply below_alloc | apply pw_below_drewN | apply below_drew1 | refine below_set ?_ GE321.out | refine below_set ?_ GE322.out | refine below_set ?_ GE323.out) | exact HB.out)⟩
      ·replace c38 := Bool.eq_false_iff.mpr c38
       subst c38
       have H1 : ((slices_Clone_impl_Piece.f l1_3).bind fun t326 => (impl_AddMeasures.l0 kj25 t326 true l2_3 (l2_3.length : Int) 0 a1_0 a1_1 a1_2 l1_3)) = some (r1, r2, r3, r4, r5) := by rw [if_neg (show ¬ (false = true) by decide)] at H; exact H
       clear H
       have H := H1
       clear H1
       replace H := Option.bind_eq_some_iff.mp H
       obtain ⟨t326, A420, H⟩ := H
       have A42 := Aside0.mk A420
       clear A420
       have H' := Aside0.mk H
       clear H
       have hnb43 := NB321_322.out
       have hnc43 := NB322_321.out
       have hnb44 := NB321_323.out
       have hnc44 := NB323_321.out
       have hcz45_0 : wc.cell? ⟨gb321, 0, none⟩ = some (.int .i64 a1_0) := cz_ BK321 0
       have hcz45_1 : wc.cell? ⟨gb321, 1, none⟩ = some (.int .i64 a1_1) := cz_ BK321 1
       have hcz45_2 : wc.cell? ⟨gb321, 2, none⟩ = some (.int .i64 a1_2) := cz_ BK321 2
       have hcz45_3 : wc.cell? ⟨gb321, 3, none⟩ = some (.slice A1_3 l1_3.length c1_3) := cz_ BK321 3
       have hfz45_0 := fz_ BK321 0
       have hfz45_1 := fz_ BK321 1
       have hfz45_2 := fz_ BK321 2
       have hfz45_3 := fz_ BK321 3
       go_wp2_with (first | ((with_reducible refine gate_callee (f := 37) rfl ?_); refine ge_ 40 Try.func37 #[.slice A1_3 l1_3.length c1_3] ?_; (with_reducible refine (slices_Clone_impl_Piece.calls _ _ l1_3 t326 _ ?side1 ?side2 A42.out).mono ?_); (case side1 => repeat (first | exact (Kd.C_below HR1_3.out HB.out) | (with_reducible refine Kd.C_alloc ?_ _) | (with_reducible refine Kd.C_drewN ?_ _) | (with_reducible refine Kd.C_drew ?_))); (case side2 => exact HC1_3.out); rintro e w46 ⟨v327, rfl, ho0, hb⟩; refine ⟨_, rfl, ?_⟩; have HO328 := Aside0.mk (Kd.R_lower ho0 (below_size (bw_ HB).out)); replace BK321 := bb_ BK321 hb; replace BK322 := bb_ BK322 hb; replace BK323 := bb_ BK323 hb; replace HB := bt_ HB hb; (try clear hb); (try clear hb2); (try clear hk); (try clear hi); (try clear ho0); have hnb47 := NB322_323.out; have hnc47 := NB323_322.out; have hcz48_0 : w46.cell? ⟨gb322, 0, none⟩ = some (.int .i64 a2_0) := cz_ BK322 0; have hcz48_1 : w46.cell? ⟨gb322, 1, none⟩ = some (.int .i64 a2_1) := cz_ BK322 1; have hcz48_2 : w46.cell? ⟨gb322, 2, none⟩ = some (.int .i64 a2_2) := cz_ BK322 2; have hcz48_3 : w46.cell? ⟨gb322, 3, none⟩ = some (.slice A2_3 l2_3.length c2_3) := cz_ BK322 3; have hfz48_0 := fz_ BK322 0; have hfz48_1 := fz_ BK322 1; have hfz48_2 := fz_ BK322 2; have hfz48_3 := fz_ BK322 3))
       go_loopg [9, 44] kj25 (fun kq v9 v44 w' => ∃ (x8_3 : List (S63)) (x9_3 : Bool) (x44_3 : Int) (x324000_3 : Int) (x324001_3 : Int) (x324002_3 : Int), v9 = .bool x9_3 ∧ v44 = .int .i64 x44_3 ∧ Aside0 (impl_AddMeasures.l0 kq x8_3 x9_3 l2_3 (l2_3.length : Int) x44_3 a1_0 a1_1 a1_2 l1_3 = some (r1, r2, r3, r4, r5)) ∧ Aside0 (kq ≤ kj25) ∧ Aside0 (Kd.R k63 63 w' w.heap.size (fun _ => True) v327 x8_3) ∧ Aside0 (w'.heap[gb321]? = some (.cells #[.int .i64 a1_0, .int .i64 a1_1, .int .i64 a1_2, (.slice A1_3 l1_3.length c1_3)] 33 (0, 0))) ∧ Aside0 (w'.heap[gb322]? = some (.cells #[.int .i64 a2_0, .int .i64 a2_1, .int .i64 a2_2, (.slice A2_3 l2_3.length c2_3)] 33 (0, 0))) ∧ Aside0 (w'.heap[gb323]? = some (.cells #[.int .i64 x324000_3, .int .i64 x324001_3, .int .i64 x324002_3, (.slice none 0 0)] 33 (0, 0))) ∧ Aside0 (Below w.heap.size w w'))
       case atStart => exact ⟨(t326), (true), (0), (0), (0), (0), (by first | rfl | (simp; done) | (simp [*]; done) | (simp [wrap64]; done)), (by first | rfl | (simp; done) | (simp [*]; done) | (simp [wrap64]; done)), H', ⟨Nat.le_refl _⟩, ⟨by (with_reducible repeat (first | apply Kd.R_alloc | apply Kd.R_drewN | apply Kd.R_drew)); exact HO328.out⟩, bl_ BK321, bl_ BK322, bl_ BK323, bw_ HB⟩
       case round =>
        clear H'
        try clear c1
        try clear c2
        try clear p2
        try clear c3
        try clear c4
        try clear c9
        try clear c11
        try clear c12
        try clear c14
        try clear c15
        try clear c18
        try clear c19
        try clear c22
        try clear c23
        try clear c24
        try clear c27
        try clear c27b0
        try clear c28
        try clear c29
        try clear c31
        try clear c33
        try clear c34
        try clear c36
        try clear c37
        try clear c38
        try clear c39
        try clear c40
        try clear c43
        try clear c44
        try clear c47
        try clear hcz13_0
        try clear hcz13_1
        try clear hcz13_2
        try clear hcz13_3
        try clear hcz16_0
        try clear hcz16_1
        try clear hcz16_2
        try clear hcz16_3
        try clear hcz20_0
        try clear hcz20_1
        try clear hcz20_2
        try clear hcz20_3
        try clear hcz25_0
        try clear hcz25_1
        try clear hcz25_2
        try clear hcz25_3
        try clear hcz30_0
        try clear hcz30_1
        try clear hcz30_2
        try clear hcz30_3
        try clear hcz32_0
        try clear hcz32_1
        try clear hcz32_2
        try clear hcz32_3
        try clear hcz35_0
        try clear hcz35_1
        try clear hcz35_2
        try clear hcz35_3
        try clear hcz37_0
        try clear hcz37_1
        try clear hcz37_2
        try clear hcz37_3
        try clear hcz41_0
        try clear hcz41_1
        try clear hcz41_2
        try clear hcz41_3
        try clear hcz45_0
        try clear hcz45_1
        try clear hcz45_2
        try clear hcz45_3
        try clear hcz48_0
        try clear hcz48_1
        try clear hcz48_2
        try clear hcz48_3
        try clear hfz13_0
        try clear hfz13_1
        try clear hfz13_2
        try clear hfz13_3
        try clear hfz16_0
        try clear hfz16_1
        try clear hfz16_2
        try clear hfz16_3
        try clear hfz20_0
        try clear hfz20_1
        try clear hfz20_2
        try clear hfz20_3
        try clear hfz25_0
        try clear hfz25_1
        try clear hfz25_2
        try clear hfz25_3
        try clear hfz30_0
        try clear hfz30_1
        try clear hfz30_2
        try clear hfz30_3
        try clear hfz32_0
        try clear hfz32_1
        try clear hfz32_2
        try clear hfz32_3
        try clear hfz35_0
        try clear hfz35_1
        try clear hfz35_2
        try clear hfz35_3
        try clear hfz37_0
        try clear hfz37_1
        try clear hfz37_2
        try clear hfz37_3
        try clear hfz41_0
        try clear hfz41_1
        try clear hfz41_2
        try clear hfz41_3
        try clear hfz45_0
        try clear hfz45_1
        try clear hfz45_2
        try clear hfz45_3
        try clear hfz48_0
        try clear hfz48_1
        try clear hfz48_2
        try clear hfz48_3
        try clear p2
        obtain ⟨x8_3, x9_3, x44_3, x324000_3, x324001_3, x324002_3, rfl, rfl, HA, HK3, HO_8, BK321, BK322, BK323, HB⟩ := hrel
        cases gk with
        | zero => exact absurd HA.out (by simp [impl_AddMeasures.l0])
        | succ k3 =>
         have H := HA.out
         clear HA
         simp only [impl_AddMeasures.l0] at H
         by_cases c49 : x44_3 < (l2_3.length : Int)
         ·rw [if_pos c49] at H
          have c49b0 : decide (x44_3 < (l2_3.length : Int)) = true := decide_eq_true c49
          clear c49
          by_cases c50 : 0 ≤ x44_3
          ·rw [if_pos c50] at H
           have c50b0 : decide (0 ≤ x44_3) = true := decide_eq_true c50
           clear c50
           by_cases c51 : x44_3 < (l2_3.length : Int)
           ·rw [if_pos c51] at H
            have c51b0 : decide (x44_3 < (l2_3.length : Int)) = true := decide_eq_true c51
            clear c51
            by_cases c52 : x44_3 < (x8_3.length : Int)
            ·rw [if_pos c52] at H
             have c52b0 : decide (x44_3 < (x8_3.length : Int)) = true := decide_eq_true c52
             clear c52
             by_cases c53 : (!(((rd_T63 x8_3 x44_3).f0.f0) == ((rd_T63 l2_3 x44_3).f0.f0)) || (!(((rd_T63 x8_3 x44_3).f0.f1) == ((rd_T63 l2_3 x44_3).f0.f1)) || (!(((rd_T63 x8_3 x44_3).f0.f2) == ((rd_T63 l2_3 x44_3).f0.f2))))) = true
             ·rw [if_pos c53] at H
              have c53b0 : (!(((rd_T63 x8_3 x44_3).f0.f0) == ((rd_T63 l2_3 x44_3).f0.f0)) || (!(((rd_T63 x8_3 x44_3).f0.f1) == ((rd_T63 l2_3 x44_3).f0.f1)) || (!(((rd_T63 x8_3 x44_3).f0.f2) == ((rd_T63 l2_3 x44_3).f0.f2))))) = true := c53
              clear c53
              simp only [Option.some.injEq, Prod.mk.injEq] at H
              obtain ⟨rfl, rfl, rfl, rfl, rfl⟩ := H
              have p329 : 0 ≤ (x44_3 : Int) := of_decide_eq_true (by first | (with_reducible assumption) | assumption)
              have q329 : x44_3 < (l2_3.length : Int) := of_decide_eq_true (by first | (with_reducible assumption) | assumption)
              obtain ⟨ad329, e329, hx329_0, hx329_1, hx329_2, hx329_3⟩ := at_T63 HR2_3.out x44_3 p329 q329
              cases e329
              replace hx329_0 := clTr HB.out hx329_0
              replace hx329_1 := clTr HB.out hx329_1
              replace hx329_2 := clTr HB.out hx329_2
              replace hx329_3 := clTr HB.out hx329_3
              replace p329 := eq_true p329
              replace q329 := eq_true q329
              try go_wp2_with (first | ((with_reducible refine gate_dst (N := 11) rfl ?_); (try (refine gate_guard (by rfl) ?_; dsimp only)); refine bx_ 11 #[.int .i64 0, .int .i64 0, .int .i64 0, .int .i64 0] 63 ?_; intro gb330 hg w54 hbox hb; have BK330 := Aside0.mk (hbox); have GW330 := bs_ HB hg; have GE330 := bs_ HB hg; have NB321_330 := bm_ BK321 hg; have NB330_321 := bn_ BK321 hg; have NB322_330 := bm_ BK322 hg; have NB330_322 := bn_ BK322 hg; have NB323_330 := bm_ BK323 hg; have NB330_323 := bn_ BK323 hg; replace HO_8 := Aside0.mk (Kd.R_below (Kd.R_elderB (ra_ HO_8.out) gb330 (Nat.le_of_eq hg.symm)) hb); replace BK321 := bb_ BK321 hb; replace BK322 := bb_ BK322 hb; replace BK323 := bb_ BK323 hb; replace HB := bt_ HB hb; clear hb hbox hg; have hnb55 := NB330_321.out; have hnc55 := NB321_330.out; have hnb56 := NB330_322.out; have hnc56 := NB322_330.out; have hnb57 := NB330_323.out; have hnc57 := NB323_330.out; have hcz58_0 : w54.cell? ⟨gb330, 0, none⟩ = some (.int .i64 0) := cz_ BK330 0; have hcz58_1 : w54.cell? ⟨gb330, 1, none⟩ = some (.int .i64 0) := cz_ BK330 1; have hcz58_2 : w54.cell? ⟨gb330, 2, none⟩ = some (.int .i64 0) := cz_ BK330 2; have hcz58_3 : w54.cell? ⟨gb330, 3, none⟩ = some (.int .i64 0) := cz_ BK330 3; have hfz58_0 := fz_ BK330 0; have hfz58_1 := fz_ BK330 1; have hfz58_2 := fz_ BK330 2; have hfz58_3 := fz_ BK330 3))
              have n0_ : Aside0 (Kd.R k63 63 ((((w54.setCell ⟨gb330, 0, none⟩ (.int .i64 ((rd_T63 l2_3 x44_3).f0.f0))).setCell ⟨gb330, 1, none⟩ (.int .i64 ((rd_T63 l2_3 x44_3).f0.f1))).setCell ⟨gb330, 2, none⟩ (.int .i64 ((rd_T63 l2_3 x44_3).f0.f2))).setCell ⟨gb330, 3, none⟩ (.int .i64 ((rd_T63 l2_3 x44_3).f1))) w.heap.size (fun k_ => k_ ≠ gb330) v327 x8_3) := ⟨by (with_reducible repeat (first | apply Kd.R_alloc | apply Kd.R_drewN | apply Kd.R_drew)); exact Kd.R_mono (Kd.R_far (p := ⟨gb330, 3, none⟩) (Kd.R_far (p := ⟨gb330, 2, none⟩) (Kd.R_far (p := ⟨gb330, 1, none⟩) (Kd.R_far (p := ⟨gb330, 0, none⟩) (Kd.R_mono HO_8.out (fun k_ hk => (⟨hk, hk.2⟩ : _ ∧ k_ ≠ gb330))) (fun _ hk => hk.2) (.int .i64 ((rd_T63 l2_3 x44_3).f0.f0))) (fun _ hk => hk.2) (.int .i64 ((rd_T63 l2_3 x44_3).f0.f1))) (fun _ hk => hk.2) (.int .i64 ((rd_T63 l2_3 x44_3).f0.f2))) (fun _ hk => hk.2) (.int .i64 ((rd_T63 l2_3 x44_3).f1))) (fun _ hk => hk.1.2)⟩
              have n1_ : Aside0 (((((w54.setCell ⟨gb330, 0, none⟩ (.int .i64 ((rd_T63 l2_3 x44_3).f0.f0))).setCell ⟨gb330, 1, none⟩ (.int .i64 ((rd_T63 l2_3 x44_3).f0.f1))).setCell ⟨gb330, 2, none⟩ (.int .i64 ((rd_T63 l2_3 x44_3).f0.f2))).setCell ⟨gb330, 3, none⟩ (.int .i64 ((rd_T63 l2_3 x44_3).f1))).heap[gb321]? = some (.cells #[.int .i64 a1_0, .int .i64 a1_1, .int .i64 a1_2, .slice A1_3 l1_3.length c1_3] 33 (0, 0))) := fl_ BK321 NB321_330
              have n2_ : Aside0 (((((w54.setCell ⟨gb330, 0, none⟩ (.int .i64 ((rd_T63 l2_3 x44_3).f0.f0))).setCell ⟨gb330, 1, none⟩ (.int .i64 ((rd_T63 l2_3 x44_3).f0.f1))).setCell ⟨gb330, 2, none⟩ (.int .i64 ((rd_T63 l2_3 x44_3).f0.f2))).setCell ⟨gb330, 3, none⟩ (.int .i64 ((rd_T63 l2_3 x44_3).f1))).heap[gb322]? = some (.cells #[.int .i64 a2_0, .int .i64 a2_1, .int .i64 a2_2, .slice (some ad329) l2_3.length c2_3] 33 (0, 0))) := fl_ BK322 NB322_330
              have n3_ : Aside0 (((((w54.setCell ⟨gb330, 0, none⟩ (.int .i64 ((rd_T63 l2_3 x44_3).f0.f0))).setCell ⟨gb330, 1, none⟩ (.int .i64 ((rd_T63 l2_3 x44_3).f0.f1))).setCell ⟨gb330, 2, none⟩ (.int .i64 ((rd_T63 l2_3 x44_3).f0.f2))).setCell ⟨gb330, 3, none⟩ (.int .i64 ((rd_T63 l2_3 x44_3).f1))).heap[gb323]? = some (.cells #[.int .i64 x324000_3, .int .i64 x324001_3, .int .i64 x324002_3, .slice none 0 0] 33 (0, 0))) := fl_ BK323 NB323_330
              have n4_ : Aside0 (((((w54.setCell ⟨gb330, 0, none⟩ (.int .i64 ((rd_T63 l2_3 x44_3).f0.f0))).setCell ⟨gb330, 1, none⟩ (.int .i64 ((rd_T63 l2_3 x44_3).f0.f1))).setCell ⟨gb330, 2, none⟩ (.int .i64 ((rd_T63 l2_3 x44_3).f0.f2))).setCell ⟨gb330, 3, none⟩ (.int .i64 ((rd_T63 l2_3 x44_3).f1))).heap[gb330]? = some (.cells #[.int .i64 ((rd_T63 l2_3 x44_3).f0.f0), .int .i64 ((rd_T63 l2_3 x44_3).f0.f1), .int .i64 ((rd_T63 l2_3 x44_3).f0.f2), .int .i64 ((rd_T63 l2_3 x44_3).f1)] 63 (0, 0))) := ⟨by (with_reducible repeat first | apply blk_drewN | apply blk_drew | apply blk_alloc); refine blk_put (cs := #[.int .i64 ((rd_T63 l2_3 x44_3).f0.f0), .int .i64 ((rd_T63 l2_3 x44_3).f0.f1), .int .i64 ((rd_T63 l2_3 x44_3).f0.f2), .int .i64 0]) ?_ 3 _ rfl; (with_reducible repeat first | apply blk_drewN | apply blk_drew | apply blk_alloc); refine blk_put (cs := #[.int .i64 ((rd_T63 l2_3 x44_3).f0.f0), .int .i64 ((rd_T63 l2_3 x44_3).f0.f1), .int .i64 0, .int .i64 0]) ?_ 2 _ rfl; (with_reducible repeat first | apply blk_drewN | apply blk_drew | apply blk_alloc); refine blk_put (cs := #[.int .i64 ((rd_T63 l2_3 x44_3).f0.f0), .int .i64 0, .int .i64 0, .int .i64 0]) ?_ 1 _ rfl; (with_reducible repeat first | apply blk_drewN | apply blk_drew | apply blk_alloc); refine blk_put (cs := #[.int .i64 0, .int .i64 0, .int .i64 0, .int .i64 0]) ?_ 0 _ rfl; (with_reducible repeat first | apply blk_drewN | apply blk_drew | apply blk_alloc); exact BK330.out⟩
              have n5_ : Aside0 (Below w.heap.size w ((((w54.setCell ⟨gb330, 0, none⟩ (.int .i64 ((rd_T63 l2_3 x44_3).f0.f0))).setCell ⟨gb330, 1, none⟩ (.int .i64 ((rd_T63 l2_3 x44_3).f0.f1))).setCell ⟨gb330, 2, none⟩ (.int .i64 ((rd_T63 l2_3 x44_3).f0.f2))).setCell ⟨gb330, 3, none⟩ (.int .i64 ((rd_T63 l2_3 x44_3).f1)))) := bw_ HB
              (try clear HO_8)
              (try clear BK321)
              (try clear BK322)
              (try clear BK323)
              (try clear BK330)
              (try clear HB)
              generalize ((((w54.setCell ⟨gb330, 0, none⟩ (.int .i64 ((rd_T63 l2_3 x44_3).f0.f0))).setCell ⟨gb330, 1, none⟩ (.int .i64 ((rd_T63 l2_3 x44_3).f0.f1))).setCell ⟨gb330, 2, none⟩ (.int .i64 ((rd_T63 l2_3 x44_3).f0.f2))).setCell ⟨gb330, 3, none⟩ (.int .i64 ((rd_T63 l2_3 x44_3).f1))) = w59 at n0_ n1_ n2_ n3_ n4_ n5_ ⊢
              have HO_8 := n0_
              have BK321 := n1_
              have BK322 := n2_
              have BK323 := n3_
              have BK330 := n4_
              have HB := n5_
              clear n0_ n1_ n2_ n3_ n4_ n5_
              replace HO_8 := Aside0.mk (Kd.R_drew HO_8.out)
              replace BK321 := Aside0.mk (blk_drew BK321.out)
              replace BK322 := Aside0.mk (blk_drew BK322.out)
              replace BK323 := Aside0.mk (blk_drew BK323.out)
              replace BK330 := Aside0.mk (blk_drew BK330.out)
              replace HB := Aside0.mk (below_drew1 HB.out)
              obtain ⟨Ao61, co61, eo61⟩ := Kd.R_slice HO_8.out
              (first | subst eo61 | (injection eo61 with f1_ f2_ f3_; have f4_ := f1_.symm; have f5_ := f3_.symm; clear f1_ f2_ f3_; subst f4_; subst f5_))
              have p331 : 0 ≤ (x44_3 : Int) := of_decide_eq_true (by first | (with_reducible assumption) | assumption)
              have q331 : x44_3 < (x8_3.length : Int) := of_decide_eq_true (by first | (with_reducible assumption) | assumption)
              obtain ⟨ad331, e331, hx331_0, hx331_1, hx331_2, hx331_3⟩ := at_T63 (Kd.R_reads' HO_8.out).2.2 x44_3 p331 q331
              cases e331
              replace p331 := eq_true p331
              replace q331 := eq_true q331
              refine start_ (n := 8) (S := fun w' => w'.cell? ⟨gb330, 0, none⟩ = some (.int .i64 ((rd_T63 l2_3 x44_3).f0.f0)) ∧ w'.cell? ⟨gb330, 1, none⟩ = some (.int .i64 ((rd_T63 l2_3 x44_3).f0.f1)) ∧ w'.cell? ⟨gb330, 2, none⟩ = some (.int .i64 ((rd_T63 l2_3 x44_3).f0.f2)) ∧ w'.cell? ⟨gb330, 3, none⟩ = some (.int .i64 ((rd_T63 l2_3 x44_3).f1)) ∧ w'.cell? (ad331.add ((x44_3).toNat * 4)) = some (.int .i64 ((rd_T63 x8_3 x44_3).f0.f0)) ∧ w'.cell? ⟨(ad331.add ((x44_3).toNat * 4)).block, (ad331.add ((x44_3).toNat * 4)).off + 1, none⟩ = some (.int .i64 ((rd_T63 x8_3 x44_3).f0.f1)) ∧ w'.cell? ⟨(ad331.add ((x44_3).toNat * 4)).block, (ad331.add ((x44_3).toNat * 4)).off + 2, none⟩ = some (.int .i64 ((rd_T63 x8_3 x44_3).f0.f2)) ∧ w'.cell? ⟨(ad331.add ((x44_3).toNat * 4)).block, (ad331.add ((x44_3).toNat * 4)).off + 3, none⟩ = some (.int .i64 ((rd_T63 x8_3 x44_3).f1))) (ds := []) (bv_ 8 0) (by kernel_rfl) rfl rfl ⟨(blk_cell BK330.out 0).trans rfl, (blk_cell BK330.out 1).trans rfl, (blk_cell BK330.out 2).trans rfl, (blk_cell BK330.out 3).trans rfl, hx331_0, hx331_1, hx331_2, hx331_3⟩ (fun hHeld => ?_); refine with_tabW impl_AddMeasures.tab9 impl_AddMeasures.bits9 (fun HT_ HW_ => ?_)
              generalize w59.drew = w60 at HO_8 BK321 BK322 BK323 BK330 HB hx331_0 hx331_1 hx331_2 hx331_3 hHeld ⊢
              refine pu_ HT_ 0 (some 49) (bv_ 8 1) ?_
              refine pu_ HT_ 1 (some 50) (bv_ 8 3) ?_
              refine pu_ HT_ 2 (some 51) (bv_ 8 7) ?_
              refine pu_ HT_ 3 (some 52) (bv_ 8 15) ?_
              refine pu_ HT_ 5 (some 54) (bv_ 8 47) ?_
              refine ta_ HT_ HW_ 4 (some 53) (bv_ 8 63) hHeld ?_ (hy := by rintro w' ⟨s0, s1, s2, s3, s4, s5, s6, s7⟩; go_simp; with_reducible rfl)
              refine ta_ HT_ HW_ 6 (some 55) (bv_ 8 127) hHeld ?_ (hy := by rintro w' ⟨s0, s1, s2, s3, s4, s5, s6, s7⟩; go_simp; with_reducible rfl)
              refine pu_ HT_ 7 (some 56) (bv_ 8 255) ?_
              refine done_ (done_of HT_.out (by kernel_rfl)) ?_
              have hnb62 := NB323_321.out
              have hnc62 := NB321_323.out
              have hnb63 := NB323_322.out
              have hnc63 := NB322_323.out
              have hcz64_0 : w60.cell? ⟨gb323, 0, none⟩ = some (.int .i64 x324000_3) := cz_ BK323 0
              have hcz64_1 : w60.cell? ⟨gb323, 1, none⟩ = some (.int .i64 x324001_3) := cz_ BK323 1
              have hcz64_2 : w60.cell? ⟨gb323, 2, none⟩ = some (.int .i64 x324002_3) := cz_ BK323 2
              have hcz64_3 : w60.cell? ⟨gb323, 3, none⟩ = some (.slice none 0 0) := cz_ BK323 3
              have hfz64_0 := fz_ BK323 0
              have hfz64_1 := fz_ BK323 1
              have hfz64_2 := fz_ BK323 2
              have hfz64_3 := fz_ BK323 3
              try go_wp2
              refine bodyPost_ret (results_ct rfl _ _ gb323 33 #[.int .i64 0, .int .i64 0, .int .i64 0, .slice none 0 0] (0, 0) _ rfl (by (with_reducible repeat first | apply blk_drewN | apply blk_drew | apply blk_alloc); refine blk_put (cs := #[.int .i64 0, .int .i64 0, .int .i64 0, .slice none 0 0]) ?_ 3 _ rfl; (with_reducible repeat first | apply blk_drewN | apply blk_drew | apply blk_alloc); refine blk_put (cs := #[.int .i64 0, .int .i64 0, .int .i64 x324002_3, .slice none 0 0]) ?_ 2 _ rfl; (with_reducible repeat first | apply blk_drewN | apply blk_drew | apply blk_alloc); refine blk_put (cs := #[.int .i64 0, .int .i64 x324001_3, .int .i64 x324002_3, .slice none 0 0]) ?_ 1 _ rfl; (with_reducible repeat first | apply blk_drewN | apply blk_drew | apply blk_alloc); refine blk_put (cs := #[.int .i64 x324000_3, .int .i64 x324001_3, .int .i64 x324002_3, .slice none 0 0]) ?_ 0 _ rfl; (with_reducible repeat first | apply blk_drewN | apply blk_drew | apply blk_alloc); exact BK323.out) Try.underlying33 rfl (by kernel_rfl)) rfl ?_
              exact ⟨_, by first | rfl | (simp [errW_none, errW_some] <;> rfl) | (simp [*, errW_none, errW_some] <;> rfl), by first | exact Kd.R_nil _ _ _ _ _ | exact Kd.N_nil _ _ _ _ _ | exact Kd.V_nil _ _ _ _ _ | exact Kd.Q_nil _ _ _ _ _ | exact Kd.S_nil _ _ _ _ _, by repeat (first | (with_reducible first | exact HB.out | apply below_alloc | apply pw_below_drewN | apply below_drew1 | refine below_set ?_ GE321.out | refine below_set ?_ GE322.out | refine below_set ?_ GE323.out | refine below_set ?_ GE330.out) | exact HB.out)⟩
             ·rw [if_neg c53] at H
              have c53b0 : (!(((rd_T63 x8_3 x44_3).f0.f0) == ((rd_T63 l2_3 x44_3).f0.f0)) || (!(((rd_T63 x8_3 x44_3).f0.f1) == ((rd_T63 l2_3 x44_3).f0.f1)) || (!(((rd_T63 x8_3 x44_3).f0.f2) == ((rd_T63 l2_3 x44_3).f0.f2))))) = false := by simpa using c53
              clear c53
              obtain ⟨y333, hy333⟩ : ∃ y_ : List (S63), y_ = (x8_3.set (x44_3 : Int).toNat (⟨(⟨(rd_T63 x8_3 x44_3).f0.f0, (rd_T63 x8_3 x44_3).f0.f1, (rd_T63 x8_3 x44_3).f0.f2⟩ : S30), wrap64 (((rd_T63 x8_3 x44_3).f1) + ((rd_T63 l2_3 x44_3).f1))⟩ : S63)) := ⟨_, rfl⟩
              replace H : (if x9_3 = true then ((impl_isWeight.f k3 (([wrap64 (((rd_T63 x8_3 x44_3).f1) + ((rd_T63 l2_3 x44_3).f1))] : List Int))).bind fun t338 => (impl_AddMeasures.l0 k3 y333 t338 l2_3 (l2_3.length : Int) (wrap64 (x44_3 + 1)) a1_0 a1_1 a1_2 l1_3)) else (impl_AddMeasures.l0 k3 y333 false l2_3 (l2_3.length : Int) (wrap64 (x44_3 + 1)) a1_0 a1_1 a1_2 l1_3)) = some (r1, r2, r3, r4, r5) := by first | (rw [hy333]; with_reducible exact H) | (have H2_ := (Option.bind_some _ _).symm.trans H; rw [hy333]; with_reducible exact H2_) | (have H2_ := (Option.bind_some _ _).symm.trans H; with_reducible exact H2_) | with_reducible exact H | (rw [hy333]; exact H) | exact H
              have Ny333 := Aside0.mk hy333
              clear hy333
              by_cases c66 : x9_3 = true
              ·subst c66
               have H1 : ((impl_isWeight.f k3 (([wrap64 (((rd_T63 x8_3 x44_3).f1) + ((rd_T63 l2_3 x44_3).f1))] : List Int))).bind fun t338 => (impl_AddMeasures.l0 k3 y333 t338 l2_3 (l2_3.length : Int) (wrap64 (x44_3 + 1)) a1_0 a1_1 a1_2 l1_3)) = some (r1, r2, r3, r4, r5) := by rw [if_pos rfl] at H; exact H
               clear H
               have H := H1
               clear H1
               obtain ⟨y335, hy335⟩ : ∃ y_ : List Int, y_ = (([wrap64 (((rd_T63 x8_3 x44_3).f1) + ((rd_T63 l2_3 x44_3).f1))] : List Int)) := ⟨_, rfl⟩
               replace H : ((impl_isWeight.f k3 y335).bind fun t338 => (impl_AddMeasures.l0 k3 y333 t338 l2_3 (l2_3.length : Int) (wrap64 (x44_3 + 1)) a1_0 a1_1 a1_2 l1_3)) = some (r1, r2, r3, r4, r5) := by first | (rw [hy335]; with_reducible exact H) | (have H2_ := (Option.bind_some _ _).symm.trans H; rw [hy335]; with_reducible exact H2_) | (have H2_ := (Option.bind_some _ _).symm.trans H; with_reducible exact H2_) | with_reducible exact H | (rw [hy335]; exact H) | exact H
               have Ny335 := Aside0.mk hy335
               clear hy335
               replace H := Option.bind_eq_some_iff.mp H
               obtain ⟨t338, A680, H⟩ := H
               have A68 := Aside0.mk A680
               clear A680
               have H' := Aside0.mk H
               clear H
               have p329 : 0 ≤ (x44_3 : Int) := of_decide_eq_true (by first | (with_reducible assumption) | assumption)
               have q329 : x44_3 < (l2_3.length : Int) := of_decide_eq_true (by first | (with_reducible assumption) | assumption)
               obtain ⟨ad329, e329, hx329_0, hx329_1, hx329_2, hx329_3⟩ := at_T63 HR2_3.out x44_3 p329 q329
               cases e329
               replace hx329_0 := clTr HB.out hx329_0
               replace hx329_1 := clTr HB.out hx329_1
               replace hx329_2 := clTr HB.out hx329_2
               replace hx329_3 := clTr HB.out hx329_3
               replace p329 := eq_true p329
               replace q329 := eq_true q329
               try go_wp2_with (first | ((with_reducible refine gate_dst (N := 11) rfl ?_); (try (refine gate_guard (by rfl) ?_; dsimp only)); refine bx_ 11 #[.int .i64 0, .int .i64 0, .int .i64 0, .int .i64 0] 63 ?_; intro gb330 hg w69 hbox hb; have BK330 := Aside0.mk (hbox); have GW330 := bs_ HB hg; have GE330 := bs_ HB hg; have NB321_330 := bm_ BK321 hg; have NB330_321 := bn_ BK321 hg; have NB322_330 := bm_ BK322 hg; have NB330_322 := bn_ BK322 hg; have NB323_330 := bm_ BK323 hg; have NB330_323 := bn_ BK323 hg; replace HO_8 := Aside0.mk (Kd.R_below (Kd.R_elderB (ra_ HO_8.out) gb330 (Nat.le_of_eq hg.symm)) hb); replace BK321 := bb_ BK321 hb; replace BK322 := bb_ BK322 hb; replace BK323 := bb_ BK323 hb; replace HB := bt_ HB hb; clear hb hbox hg; have hnb70 := NB330_321.out; have hnc70 := NB321_330.out; have hnb71 := NB330_322.out; have hnc71 := NB322_330.out; have hnb72 := NB330_323.out; have hnc72 := NB323_330.out; have hcz73_0 : w69.cell? ⟨gb330, 0, none⟩ = some (.int .i64 0) := cz_ BK330 0; have hcz73_1 : w69.cell? ⟨gb330, 1, none⟩ = some (.int .i64 0) := cz_ BK330 1; have hcz73_2 : w69.cell? ⟨gb330, 2, none⟩ = some (.int .i64 0) := cz_ BK330 2; have hcz73_3 : w69.cell? ⟨gb330, 3, none⟩ = some (.int .i64 0) := cz_ BK330 3; have hfz73_0 := fz_ BK330 0; have hfz73_1 := fz_ BK330 1; have hfz73_2 := fz_ BK330 2; have hfz73_3 := fz_ BK330 3))
               have n0_ : Aside0 (Kd.R k63 63 ((((w69.setCell ⟨gb330, 0, none⟩ (.int .i64 ((rd_T63 l2_3 x44_3).f0.f0))).setCell ⟨gb330, 1, none⟩ (.int .i64 ((rd_T63 l2_3 x44_3).f0.f1))).setCell ⟨gb330, 2, none⟩ (.int .i64 ((rd_T63 l2_3 x44_3).f0.f2))).setCell ⟨gb330, 3, none⟩ (.int .i64 ((rd_T63 l2_3 x44_3).f1))) w.heap.size (fun k_ => k_ ≠ gb330) v327 x8_3) := ⟨by (with_reducible repeat (first | apply Kd.R_alloc | apply Kd.R_drewN | apply Kd.R_drew)); exact Kd.R_mono (Kd.R_far (p := ⟨gb330, 3, none⟩) (Kd.R_far (p := ⟨gb330, 2, none⟩) (Kd.R_far (p := ⟨gb330, 1, none⟩) (Kd.R_far (p := ⟨gb330, 0, none⟩) (Kd.R_mono HO_8.out (fun k_ hk => (⟨hk, hk.2⟩ : _ ∧ k_ ≠ gb330))) (fun _ hk => hk.2) (.int .i64 ((rd_T63 l2_3 x44_3).f0.f0))) (fun _ hk => hk.2) (.int .i64 ((rd_T63 l2_3 x44_3).f0.f1))) (fun _ hk => hk.2) (.int .i64 ((rd_T63 l2_3 x44_3).f0.f2))) (fun _ hk => hk.2) (.int .i64 ((rd_T63 l2_3 x44_3).f1))) (fun _ hk => hk.1.2)⟩
               have n1_ : Aside0 (((((w69.setCell ⟨gb330, 0, none⟩ (.int .i64 ((rd_T63 l2_3 x44_3).f0.f0))).setCell ⟨gb330, 1, none⟩ (.int .i64 ((rd_T63 l2_3 x44_3).f0.f1))).setCell ⟨gb330, 2, none⟩ (.int .i64 ((rd_T63 l2_3 x44_3).f0.f2))).setCell ⟨gb330, 3, none⟩ (.int .i64 ((rd_T63 l2_3 x44_3).f1))).heap[gb321]? = some (.cells #[.int .i64 a1_0, .int .i64 a1_1, .int .i64 a1_2, .slice A1_3 l1_3.length c1_3] 33 (0, 0))) := fl_ BK321 NB321_330
               have n2_ : Aside0 (((((w69.setCell ⟨gb330, 0, none⟩ (.int .i64 ((rd_T63 l2_3 x44_3).f0.f0))).setCell ⟨gb330, 1, none⟩ (.int .i64 ((rd_T63 l2_3 x44_3).f0.f1))).setCell ⟨gb330, 2, none⟩ (.int .i64 ((rd_T63 l2_3 x44_3).f0.f2))).setCell ⟨gb330, 3, none⟩ (.int .i64 ((rd_T63 l2_3 x44_3).f1))).heap[gb322]? = some (.cells #[.int .i64 a2_0, .int .i64 a2_1, .int .i64 a2_2, .slice (some ad329) l2_3.length c2_3] 33 (0, 0))) := fl_ BK322 NB322_330
               have n3_ : Aside0 (((((w69.setCell ⟨gb330, 0, none⟩ (.int .i64 ((rd_T63 l2_3 x44_3).f0.f0))).setCell ⟨gb330, 1, none⟩ (.int .i64 ((rd_T63 l2_3 x44_3).f0.f1))).setCell ⟨gb330, 2, none⟩ (.int .i64 ((rd_T63 l2_3 x44_3).f0.f2))).setCell ⟨gb330, 3, none⟩ (.int .i64 ((rd_T63 l2_3 x44_3).f1))).heap[gb323]? = some (.cells #[.int .i64 x324000_3, .int .i64 x324001_3, .int .i64 x324002_3, .slice none 0 0] 33 (0, 0))) := fl_ BK323 NB323_330
               have n4_ : Aside0 (((((w69.setCell ⟨gb330, 0, none⟩ (.int .i64 ((rd_T63 l2_3 x44_3).f0.f0))).setCell ⟨gb330, 1, none⟩ (.int .i64 ((rd_T63 l2_3 x44_3).f0.f1))).setCell ⟨gb330, 2, none⟩ (.int .i64 ((rd_T63 l2_3 x44_3).f0.f2))).setCell ⟨gb330, 3, none⟩ (.int .i64 ((rd_T63 l2_3 x44_3).f1))).heap[gb330]? = some (.cells #[.int .i64 ((rd_T63 l2_3 x44_3).f0.f0), .int .i64 ((rd_T63 l2_3 x44_3).f0.f1), .int .i64 ((rd_T63 l2_3 x44_3).f0.f2), .int .i64 ((rd_T63 l2_3 x44_3).f1)] 63 (0, 0))) := ⟨by (with_reducible repeat first | apply blk_drewN | apply blk_drew | apply blk_alloc); refine blk_put (cs := #[.int .i64 ((rd_T63 l2_3 x44_3).f0.f0), .int .i64 ((rd_T63 l2_3 x44_3).f0.f1), .int .i64 ((rd_T63 l2_3 x44_3).f0.f2), .int .i64 0]) ?_ 3 _ rfl; (with_reducible repeat first | apply blk_drewN | apply blk_drew | apply blk_alloc); refine blk_put (cs := #[.int .i64 ((rd_T63 l2_3 x44_3).f0.f0), .int .i64 ((rd_T63 l2_3 x44_3).f0.f1), .int .i64 0, .int .i64 0]) ?_ 2 _ rfl; (with_reducible repeat first | apply blk_drewN | apply blk_drew | apply blk_alloc); refine blk_put (cs := #[.int .i64 ((rd_T63 l2_3 x44_3).f0.f0), .int .i64 0, .int .i64 0, .int .i64 0]) ?_ 1 _ rfl; (with_reducible repeat first | apply blk_drewN | apply blk_drew | apply blk_alloc); refine blk_put (cs := #[.int .i64 0, .int .i64 0, .int .i64 0, .int .i64 0]) ?_ 0 _ rfl; (with_reducible repeat first | apply blk_drewN | apply blk_drew | apply blk_alloc); exact BK330.out⟩
               have n5_ : Aside0 (Below w.heap.size w ((((w69.setCell ⟨gb330, 0, none⟩ (.int .i64 ((rd_T63 l2_3 x44_3).f0.f0))).setCell ⟨gb330, 1, none⟩ (.int .i64 ((rd_T63 l2_3 x44_3).f0.f1))).setCell ⟨gb330, 2, none⟩ (.int .i64 ((rd_T63 l2_3 x44_3).f0.f2))).setCell ⟨gb330, 3, none⟩ (.int .i64 ((rd_T63 l2_3 x44_3).f1)))) := bw_ HB
               (try clear HO_8)
               (try clear BK321)
               (try clear BK322)
               (try clear BK323)
               (try clear BK330)
               (try clear HB)
               generalize ((((w69.setCell ⟨gb330, 0, none⟩ (.int .i64 ((rd_T63 l2_3 x44_3).f0.f0))).setCell ⟨gb330, 1, none⟩ (.int .i64 ((rd_T63 l2_3 x44_3).f0.f1))).setCell ⟨gb330, 2, none⟩ (.int .i64 ((rd_T63 l2_3 x44_3).f0.f2))).setCell ⟨gb330, 3, none⟩ (.int .i64 ((rd_T63 l2_3 x44_3).f1))) = w74 at n0_ n1_ n2_ n3_ n4_ n5_ ⊢
               have HO_8 := n0_
               have BK321 := n1_
               have BK322 := n2_
               have BK323 := n3_
               have BK330 := n4_
               have HB := n5_
               clear n0_ n1_ n2_ n3_ n4_ n5_
               replace HO_8 := Aside0.mk (Kd.R_drew HO_8.out)
               replace BK321 := Aside0.mk (blk_drew BK321.out)
               replace BK322 := Aside0.mk (blk_drew BK322.out)
               replace BK323 := Aside0.mk (blk_drew BK323.out)
               replace BK330 := Aside0.mk (blk_drew BK330.out)
               replace HB := Aside0.mk (below_drew1 HB.out)
               obtain ⟨Ao76, co76, eo76⟩ := Kd.R_slice HO_8.out
               (first | subst eo76 | (injection eo76 with f1_ f2_ f3_; have f4_ := f1_.symm; have f5_ := f3_.symm; clear f1_ f2_ f3_; subst f4_; subst f5_))
               have p331 : 0 ≤ (x44_3 : Int) := of_decide_eq_true (by first | (with_reducible assumption) | assumption)
               have q331 : x44_3 < (x8_3.length : Int) := of_decide_eq_true (by first | (with_reducible assumption) | assumption)
               obtain ⟨ad331, e331, hx331_0, hx331_1, hx331_2, hx331_3⟩ := at_T63 (Kd.R_reads' HO_8.out).2.2 x44_3 p331 q331
               cases e331
               replace p331 := eq_true p331
               replace q331 := eq_true q331
               refine start_ (n := 8) (S := fun w' => w'.cell? ⟨gb330, 0, none⟩ = some (.int .i64 ((rd_T63 l2_3 x44_3).f0.f0)) ∧ w'.cell? ⟨gb330, 1, none⟩ = some (.int .i64 ((rd_T63 l2_3 x44_3).f0.f1)) ∧ w'.cell? ⟨gb330, 2, none⟩ = some (.int .i64 ((rd_T63 l2_3 x44_3).f0.f2)) ∧ w'.cell? ⟨gb330, 3, none⟩ = some (.int .i64 ((rd_T63 l2_3 x44_3).f1)) ∧ w'.cell? (ad331.add ((x44_3).toNat * 4)) = some (.int .i64 ((rd_T63 x8_3 x44_3).f0.f0)) ∧ w'.cell? ⟨(ad331.add ((x44_3).toNat * 4)).block, (ad331.add ((x44_3).toNat * 4)).off + 1, none⟩ = some (.int .i64 ((rd_T63 x8_3 x44_3).f0.f1)) ∧ w'.cell? ⟨(ad331.add ((x44_3).toNat * 4)).block, (ad331.add ((x44_3).toNat * 4)).off + 2, none⟩ = some (.int .i64 ((rd_T63 x8_3 x44_3).f0.f2)) ∧ w'.cell? ⟨(ad331.add ((x44_3).toNat * 4)).block, (ad331.add ((x44_3).toNat * 4)).off + 3, none⟩ = some (.int .i64 ((rd_T63 x8_3 x44_3).f1))) (ds := []) (bv_ 8 0) (by kernel_rfl) rfl rfl ⟨(blk_cell BK330.out 0).trans rfl, (blk_cell BK330.out 1).trans rfl, (blk_cell BK330.out 2).trans rfl, (blk_cell BK330.out 3).trans rfl, hx331_0, hx331_1, hx331_2, hx331_3⟩ (fun hHeld => ?_); refine with_tabW impl_AddMeasures.tab9 impl_AddMeasures.bits9 (fun HT_ HW_ => ?_)
               generalize w74.drew = w75 at HO_8 BK321 BK322 BK323 BK330 HB hx331_0 hx331_1 hx331_2 hx331_3 hHeld ⊢
               refine pu_ HT_ 0 (some 49) (bv_ 8 1) ?_
               refine pu_ HT_ 1 (some 50) (bv_ 8 3) ?_
               refine pu_ HT_ 2 (some 51) (bv_ 8 7) ?_
               refine pu_ HT_ 3 (some 52) (bv_ 8 15) ?_
               refine pu_ HT_ 5 (some 54) (bv_ 8 47) ?_
               refine ta_ HT_ HW_ 4 (some 53) (bv_ 8 63) hHeld ?_ (hy := by rintro w' ⟨s0, s1, s2, s3, s4, s5, s6, s7⟩; go_simp; with_reducible rfl)
               refine ta_ HT_ HW_ 6 (some 55) (bv_ 8 127) hHeld ?_ (hy := by rintro w' ⟨s0, s1, s2, s3, s4, s5, s6, s7⟩; go_simp; with_reducible rfl)
               refine pu_ HT_ 7 (some 56) (bv_ 8 255) ?_
               refine done_ (done_of HT_.out (by kernel_rfl)) ?_
               try go_wp2
               replace HO_8 := Aside0.mk (Kd.R_drew HO_8.out)
               replace BK321 := Aside0.mk (blk_drew BK321.out)
               replace BK322 := Aside0.mk (blk_drew BK322.out)
               replace BK323 := Aside0.mk (blk_drew BK323.out)
               replace BK330 := Aside0.mk (blk_drew BK330.out)
               replace HB := Aside0.mk (below_drew1 HB.out)
               have p332 : 0 ≤ (x44_3 : Int) := of_decide_eq_true (by first | (with_reducible assumption) | assumption)
               have q332 : x44_3 < (x8_3.length : Int) := of_decide_eq_true (by first | (with_reducible assumption) | assumption)
               obtain ⟨ad332, e332, hx332_0, hx332_1, hx332_2, hx332_3⟩ := at_T63 (Kd.R_reads' HO_8.out).2.2 x44_3 p332 q332
               obtain rfl : ad331 = ad332 := (by injection e332)
               replace p332 := eq_true p332
               replace q332 := eq_true q332
               have p65 : 0 ≤ (x44_3 : Int) := of_decide_eq_true (by first | (with_reducible assumption) | assumption)
               have q65 : (x44_3 : Int) < ((x8_3.length : Int) : Int) := of_decide_eq_true (by first | (with_reducible assumption) | assumption)
               obtain ⟨go65, co65, eo65, gb65, gl65, cl65, HG65⟩ := Kd.R_form HO_8.out (by omega)
               (first | cases eo65 | (injection eo65 with ea_ en_ ec_; (first | subst ea_ | (injection ea_ with ea_; subst ea_)); subst ec_; clear en_))
               have GB65 := Aside0.mk gb65
               have GG65 := Aside0.mk HG65
               clear gb65 gl65 HG65
               (first | simp only [add_plain] at hx331_0 | skip)
               (first | simp only [add_plain] at hx331_1 | skip)
               (first | simp only [add_plain] at hx331_2 | skip)
               (first | simp only [add_plain] at hx331_3 | skip)
               (first | simp only [add_plain] at hx332_0 | skip)
               (first | simp only [add_plain] at hx332_1 | skip)
               (first | simp only [add_plain] at hx332_2 | skip)
               (first | simp only [add_plain] at hx332_3 | skip)
               obtain ⟨ce65, hcl65, hM65, hcc65, hfr65⟩ := Kd.R_elem HO_8.out z63 (x44_3 : Int) p65 q65
               obtain rfl := k63_openM hM65
               have hx65_0 : World.cell? _ ⟨go65, (x44_3 : Int).toNat * 4, none⟩ = some (.int .i64 ((rd_T63 x8_3 x44_3).f0.f0)) := hcc65 0 _ rfl
               have hx65_1 : World.cell? _ ⟨go65, (x44_3 : Int).toNat * 4 + 1, none⟩ = some (.int .i64 ((rd_T63 x8_3 x44_3).f0.f1)) := hcc65 1 _ rfl
               have hx65_2 : World.cell? _ ⟨go65, (x44_3 : Int).toNat * 4 + 2, none⟩ = some (.int .i64 ((rd_T63 x8_3 x44_3).f0.f2)) := hcc65 2 _ rfl
               have hx65_3 : World.cell? _ ⟨go65, (x44_3 : Int).toNat * 4 + 3, none⟩ = some (.int .i64 ((rd_T63 x8_3 x44_3).f1)) := hcc65 3 _ rfl
               have hf65_0 : World.frozen? _ ⟨go65, (x44_3 : Int).toNat * 4, none⟩ = false := hfr65 0
               have hf65_1 : World.frozen? _ ⟨go65, (x44_3 : Int).toNat * 4 + 1, none⟩ = false := hfr65 1
               have hf65_2 : World.frozen? _ ⟨go65, (x44_3 : Int).toNat * 4 + 2, none⟩ = false := hfr65 2
               have hf65_3 : World.frozen? _ ⟨go65, (x44_3 : Int).toNat * 4 + 3, none⟩ = false := hfr65 3
               clear hcl65 hcc65 hfr65 hM65
               replace p65 := eq_true p65
               replace q65 := eq_true q65
               obtain ⟨ce78, hcl78, hM78, hcc78, hfr78⟩ := Kd.R_elem HO_8.out z63 (x44_3 : Int) (of_decide_eq_true (by first | (with_reducible assumption) | assumption)) (by have h_ : (x44_3 : Int) < ((x8_3.length : Int) : Int) := of_decide_eq_true (by first | (with_reducible assumption) | assumption); first | exact h_ | (have e_ := (Kd.R_reads' HO_8.out).1; omega) | simpa using h_)
               obtain rfl := k63_openM hM78
               have HP78 := (Kd.R_seg HO_8.out (x44_3 : Int) (of_decide_eq_true (by first | (with_reducible assumption) | assumption)) (by have h_ : (x44_3 : Int) < ((x8_3.length : Int) : Int) := of_decide_eq_true (by first | (with_reducible assumption) | assumption); first | exact h_ | (have e_ := (Kd.R_reads' HO_8.out).1; omega) | simpa using h_) (seg := [.int .i64 (wrap64 (((rd_T63 x8_3 x44_3).f1) + ((rd_T63 l2_3 x44_3).f1)))]) (j := 3) hcl78 hcc78 (show 4 ≤ 4 from by decide) (x' := (⟨(⟨(rd_T63 x8_3 x44_3).f0.f0, (rd_T63 x8_3 x44_3).f0.f1, (rd_T63 x8_3 x44_3).f0.f2⟩ : S30), wrap64 (((rd_T63 x8_3 x44_3).f1) + ((rd_T63 l2_3 x44_3).f1))⟩ : S63)) (k63_mkM _ _ _ (⟨(⟨(rd_T63 x8_3 x44_3).f0.f0, (rd_T63 x8_3 x44_3).f0.f1, (rd_T63 x8_3 x44_3).f0.f2⟩ : S30), wrap64 (((rd_T63 x8_3 x44_3).f1) + ((rd_T63 l2_3 x44_3).f1))⟩ : S63) ) (fun _ hk => hk)).1
               rw [← Ny333.out] at HP78
               have HQ78 := Aside0.mk HP78
               clear hcl78 hcc78 hfr78 hM78 HP78
               refine start_ (n := 11) (S := fun w' => w'.cell? ⟨gb330, 0, none⟩ = some (.int .i64 ((rd_T63 l2_3 x44_3).f0.f0)) ∧ w'.cell? ⟨gb330, 1, none⟩ = some (.int .i64 ((rd_T63 l2_3 x44_3).f0.f1)) ∧ w'.cell? ⟨gb330, 2, none⟩ = some (.int .i64 ((rd_T63 l2_3 x44_3).f0.f2)) ∧ w'.cell? ⟨gb330, 3, none⟩ = some (.int .i64 ((rd_T63 l2_3 x44_3).f1)) ∧ w'.cell? ⟨go65, ((x44_3).toNat * 4), none⟩ = some (.int .i64 ((rd_T63 x8_3 x44_3).f0.f0)) ∧ w'.cell? ⟨go65, ((x44_3).toNat * 4) + 1, none⟩ = some (.int .i64 ((rd_T63 x8_3 x44_3).f0.f1)) ∧ w'.cell? ⟨go65, ((x44_3).toNat * 4) + 2, none⟩ = some (.int .i64 ((rd_T63 x8_3 x44_3).f0.f2)) ∧ w'.cell? ⟨go65, ((x44_3).toNat * 4) + 3, none⟩ = some (.int .i64 ((rd_T63 x8_3 x44_3).f1))) (ds := [10]) (bv_ 11 0) (by kernel_rfl) rfl rfl ⟨(blk_cell BK330.out 0).trans rfl, (blk_cell BK330.out 1).trans rfl, (blk_cell BK330.out 2).trans rfl, (blk_cell BK330.out 3).trans rfl, hx332_0, hx332_1, hx332_2, hx332_3⟩ (fun hHeld => ?_); refine with_tabW impl_AddMeasures.tab11 impl_AddMeasures.bits11 (fun HT_ HW_ => ?_)
               generalize w75.drew = w77 at HO_8 BK321 BK322 BK323 BK330 HB GG65 HQ78 hf65_0 hf65_1 hf65_2 hf65_3 hx331_0 hx331_1 hx331_2 hx331_3 hx332_0 hx332_1 hx332_2 hx332_3 hx65_0 hx65_1 hx65_2 hx65_3 hHeld ⊢
               refine pu_ HT_ 0 (some 58) (bv_ 11 1) ?_
               refine pu_ HT_ 1 (some 59) (bv_ 11 3) ?_
               refine pu_ HT_ 2 (some 60) (bv_ 11 7) ?_
               refine pu_ HT_ 3 (some 61) (bv_ 11 15) ?_
               refine pu_ HT_ 5 (some 63) (bv_ 11 47) ?_
               refine ta_ HT_ HW_ 4 (some 62) (bv_ 11 63) hHeld ?_ (hy := by rintro w' ⟨s0, s1, s2, s3, s4, s5, s6, s7⟩; go_simp; with_reducible rfl)
               refine ta_ HT_ HW_ 6 (some 64) (bv_ 11 127) hHeld ?_ (hy := by rintro w' ⟨s0, s1, s2, s3, s4, s5, s6, s7⟩; go_simp; with_reducible rfl)
               refine pu_ HT_ 7 (some 65) (bv_ 11 255) ?_
               refine pu_ HT_ 8 (some 66) (bv_ 11 511) ?_
               refine pu_ HT_ 9 (some 67) (bv_ 11 1023) ?_
               refine last_ (i := 10) (N := none) (bv_ 11 2047) rfl rfl (one_of HT_.out (by kernel_rfl)) (by decide) (fun K hK => ?_)
               refine skip_ (w1 := ?_) (by rfl) rfl ?_ ?_
               rotate_left
               ·go_simp
                rfl
               refine hK.out _ _ ?_
               clear hK K
               refine done_ (done_of HT_.out (by kernel_rfl)) ?_
               have p67 : 0 ≤ (x44_3 : Int) := of_decide_eq_true (by first | (with_reducible assumption) | assumption)
               have q67 : (x44_3 : Int) < ((x8_3.length : Int) : Int) := of_decide_eq_true (by first | (with_reducible assumption) | assumption)
               replace p67 := eq_true p67
               replace q67 := eq_true q67
               try go_wp2_with (first | ((with_reducible refine gate_dst (N := 75) rfl ?_); (try (refine gate_guard (by rfl) ?_; dsimp only)); refine Kd.R_lit (Kd.int .i64) _ 2 ?hg (N := 75) ?hd (xs := ([wrap64 (((rd_T63 x8_3 x44_3).f1) + ((rd_T63 l2_3 x44_3).f1))] : List Int)) (inner := [.int .i64 (wrap64 (((rd_T63 x8_3 x44_3).f1) + ((rd_T63 l2_3 x44_3).f1)))]) (ok := fun _ => True) (okp := fun _ => True) ?hr ?hp (fun _ hk => hk) trivial (Below.refl _ _) (Nat.le_refl _) (by simp) ?_; (case hd => rfl); (case hg => rfl); (case hr => first | (go_simp; done) | (go_simp; rfl)); (case hp => exact (Reps.one (show Kd.M (Kd.int .i64) _ _ _ (wrap64 (((rd_T63 x8_3 x44_3).f1) + ((rd_T63 l2_3 x44_3).f1))) [.int .i64 (wrap64 (((rd_T63 x8_3 x44_3).f1) + ((rd_T63 l2_3 x44_3).f1)))] from rfl) (Reps.none _ _))); intro v336 w79 ho80 hb hg_ hnew_; clear hg_ hnew_; (first | rw [← Ny335.out] at ho80 | (simp only [Int.reduceToNat] at ho80; rw [← Ny335.out] at ho80)); have HO337 := Aside0.mk (Kd.R_lower ho80 (below_size (by repeat (first | (with_reducible first | exact HB.out | apply below_alloc | apply pw_below_drewN | apply below_drew1 | refine below_set ?_ GB65.out | refine below_set ?_ GE321.out | refine below_set ?_ GE322.out | refine below_set ?_ GE323.out | refine below_set ?_ GE330.out) | exact HB.out)))); replace BK321 := Aside0.mk (blk_below (g := gb321) (o := .cells #[.int .i64 a1_0, .int .i64 a1_1, .int .i64 a1_2, .slice A1_3 l1_3.length c1_3] 33 (0, 0)) (by (with_reducible repeat first | apply blk_drewN | apply blk_drew | apply blk_alloc); refine blk_far ?_ (by have h_ := Kd.R_ne HO_8.out BK321.out (by decide); intro e_; exact h_ (by rw [e_]; rfl)) _; (with_reducible repeat first | apply blk_drewN | apply blk_drew | apply blk_alloc); exact BK321.out) hb); replace BK322 := Aside0.mk (blk_below (g := gb322) (o := .cells #[.int .i64 a2_0, .int .i64 a2_1, .int .i64 a2_2, .slice (some ad329) l2_3.length c2_3] 33 (0, 0)) (by (with_reducible repeat first | apply blk_drewN | apply blk_drew | apply blk_alloc); refine blk_far ?_ (by have h_ := Kd.R_ne HO_8.out BK322.out (by decide); intro e_; exact h_ (by rw [e_]; rfl)) _; (with_reducible repeat first | apply blk_drewN | apply blk_drew | apply blk_alloc); exact BK322.out) hb); replace BK323 := Aside0.mk (blk_below (g := gb323) (o := .cells #[.int .i64 x324000_3, .int .i64 x324001_3, .int .i64 x324002_3, .slice none 0 0] 33 (0, 0)) (by (with_reducible repeat first | apply blk_drewN | apply blk_drew | apply blk_alloc); refine blk_far ?_ (by have h_ := Kd.R_ne HO_8.out BK323.out (by decide); intro e_; exact h_ (by rw [e_]; rfl)) _; (with_reducible repeat first | apply blk_drewN | apply blk_drew | apply blk_alloc); exact BK323.out) hb); replace BK330 := Aside0.mk (blk_below (g := gb330) (o := .cells #[.int .i64 ((rd_T63 l2_3 x44_3).f0.f0), .int .i64 ((rd_T63 l2_3 x44_3).f0.f1), .int .i64 ((rd_T63 l2_3 x44_3).f0.f2), .int .i64 ((rd_T63 l2_3 x44_3).f1)] 63 (0, 0)) (by (with_reducible repeat first | apply blk_drewN | apply blk_drew | apply blk_alloc); refine blk_far ?_ (by have h_ := Kd.R_away HO_8.out (fun _ hk => hk); intro e_; exact h_ (by rw [e_]; rfl)) _; (with_reducible repeat first | apply blk_drewN | apply blk_drew | apply blk_alloc); exact BK330.out) hb); replace HO_8 := Aside0.mk (Kd.R_below (ra_ HQ78.out) hb); replace HB := Aside0.mk (below_step (by repeat (first | (with_reducible first | exact HB.out | apply below_alloc | apply pw_below_drewN | apply below_drew1 | refine below_set ?_ GB65.out | refine below_set ?_ GE321.out | refine below_set ?_ GE322.out | refine below_set ?_ GE323.out | refine below_set ?_ GE330.out) | exact HB.out)) hb); clear hb ho80; obtain ⟨Ao81, co81, eo81⟩ := Kd.R_slice HO337.out; subst eo81) | (go_at_call 38; (with_reducible refine (impl_isWeight.calls k3 _ _ y335 t338 _ ?side1 ?side2 A68.out).mono ?_); (case side1 => repeat (first | exact (Kd.R_reads' HO337.out).2.2 | (with_reducible refine Kd.C_alloc ?_ _) | (with_reducible refine Kd.C_drewN ?_ _) | (with_reducible refine Kd.C_drew ?_))); (case side2 => exact (Kd.R_reads' HO337.out).2.1); rintro e w' ⟨rfl, ⟨nd, rfl⟩⟩))
               go_roundg k3
               case measure => have := HJ3.out; have := HJ25.out; have := HK3.out; omega
               case rel => exact ⟨(y333), (t338), (wrap64 (x44_3 + 1)), (x324000_3), (x324001_3), (x324002_3), (by first | rfl | (simp; done) | (simp [*]; done) | (simp [wrap64]; done)), (by first | rfl | (simp; done) | (simp [*]; done) | (simp [wrap64]; done)), H', ⟨by have := HJ3.out; have := HJ25.out; have := HK3.out; omega⟩, ⟨by (with_reducible repeat (first | apply Kd.R_alloc | apply Kd.R_drewN | apply Kd.R_drew)); exact Kd.R_mono HO_8.out (fun _ hk => trivial)⟩, bl_ BK321, bl_ BK322, bl_ BK323, bw_ HB⟩
              ·replace c66 := Bool.eq_false_iff.mpr c66
               subst c66
               have H1 : (impl_AddMeasures.l0 k3 y333 false l2_3 (l2_3.length : Int) (wrap64 (x44_3 + 1)) a1_0 a1_1 a1_2 l1_3) = some (r1, r2, r3, r4, r5) := by rw [if_neg (show ¬ (false = true) by decide)] at H; exact H
               clear H
               have H := H1
               clear H1
               have H' := Aside0.mk H
               clear H
               have p329 : 0 ≤ (x44_3 : Int) := of_decide_eq_true (by first | (with_reducible assumption) | assumption)
               have q329 : x44_3 < (l2_3.length : Int) := of_decide_eq_true (by first | (with_reducible assumption) | assumption)
               obtain ⟨ad329, e329, hx329_0, hx329_1, hx329_2, hx329_3⟩ := at_T63 HR2_3.out x44_3 p329 q329
               cases e329
               replace hx329_0 := clTr HB.out hx329_0
               replace hx329_1 := clTr HB.out hx329_1
               replace hx329_2 := clTr HB.out hx329_2
               replace hx329_3 := clTr HB.out hx329_3
               replace p329 := eq_true p329
               replace q329 := eq_true q329
               try go_wp2_with (first | ((with_reducible refine gate_dst (N := 11) rfl ?_); (try (refine gate_guard (by rfl) ?_; dsimp only)); refine bx_ 11 #[.int .i64 0, .int .i64 0, .int .i64 0, .int .i64 0] 63 ?_; intro gb330 hg w82 hbox hb; have BK330 := Aside0.mk (hbox); have GW330 := bs_ HB hg; have GE330 := bs_ HB hg; have NB321_330 := bm_ BK321 hg; have NB330_321 := bn_ BK321 hg; have NB322_330 := bm_ BK322 hg; have NB330_322 := bn_ BK322 hg; have NB323_330 := bm_ BK323 hg; have NB330_323 := bn_ BK323 hg; replace HO_8 := Aside0.mk (Kd.R_below (Kd.R_elderB (ra_ HO_8.out) gb330 (Nat.le_of_eq hg.symm)) hb); replace BK321 := bb_ BK321 hb; replace BK322 := bb_ BK322 hb; replace BK323 := bb_ BK323 hb; replace HB := bt_ HB hb; clear hb hbox hg; have hnb83 := NB330_321.out; have hnc83 := NB321_330.out; have hnb84 := NB330_322.out; have hnc84 := NB322_330.out; have hnb85 := NB330_323.out; have hnc85 := NB323_330.out; have hcz86_0 : w82.cell? ⟨gb330, 0, none⟩ = some (.int .i64 0) := cz_ BK330 0; have hcz86_1 : w82.cell? ⟨gb330, 1, none⟩ = some (.int .i64 0) := cz_ BK330 1; have hcz86_2 : w82.cell? ⟨gb330, 2, none⟩ = some (.int .i64 0) := cz_ BK330 2; have hcz86_3 : w82.cell? ⟨gb330, 3, none⟩ = some (.int .i64 0) := cz_ BK330 3; have hfz86_0 := fz_ BK330 0; have hfz86_1 := fz_ BK330 1; have hfz86_2 := fz_ BK330 2; have hfz86_3 := fz_ BK330 3))
               have n0_ : Aside0 (Kd.R k63 63 ((((w82.setCell ⟨gb330, 0, none⟩ (.int .i64 ((rd_T63 l2_3 x44_3).f0.f0))).setCell ⟨gb330, 1, none⟩ (.int .i64 ((rd_T63 l2_3 x44_3).f0.f1))).setCell ⟨gb330, 2, none⟩ (.int .i64 ((rd_T63 l2_3 x44_3).f0.f2))).setCell ⟨gb330, 3, none⟩ (.int .i64 ((rd_T63 l2_3 x44_3).f1))) w.heap.size (fun k_ => k_ ≠ gb330) v327 x8_3) := ⟨by (with_reducible repeat (first | apply Kd.R_alloc | apply Kd.R_drewN | apply Kd.R_drew)); exact Kd.R_mono (Kd.R_far (p := ⟨gb330, 3, none⟩) (Kd.R_far (p := ⟨gb330, 2, none⟩) (Kd.R_far (p := ⟨gb330, 1, none⟩) (Kd.R_far (p := ⟨gb330, 0, none⟩) (Kd.R_mono HO_8.out (fun k_ hk => (⟨hk, hk.2⟩ : _ ∧ k_ ≠ gb330))) (fun _ hk => hk.2) (.int .i64 ((rd_T63 l2_3 x44_3).f0.f0))) (fun _ hk => hk.2) (.int .i64 ((rd_T63 l2_3 x44_3).f0.f1))) (fun _ hk => hk.2) (.int .i64 ((rd_T63 l2_3 x44_3).f0.f2))) (fun _ hk => hk.2) (.int .i64 ((rd_T63 l2_3 x44_3).f1))) (fun _ hk => hk.1.2)⟩
               have n1_ : Aside0 (((((w82.setCell ⟨gb330, 0, none⟩ (.int .i64 ((rd_T63 l2_3 x44_3).f0.f0))).setCell ⟨gb330, 1, none⟩ (.int .i64 ((rd_T63 l2_3 x44_3).f0.f1))).setCell ⟨gb330, 2, none⟩ (.int .i64 ((rd_T63 l2_3 x44_3).f0.f2))).setCell ⟨gb330, 3, none⟩ (.int .i64 ((rd_T63 l2_3 x44_3).f1))).heap[gb321]? = some (.cells #[.int .i64 a1_0, .int .i64 a1_1, .int .i64 a1_2, .slice A1_3 l1_3.length c1_3] 33 (0, 0))) := fl_ BK321 NB321_330
               have n2_ : Aside0 (((((w82.setCell ⟨gb330, 0, none⟩ (.int .i64 ((rd_T63 l2_3 x44_3).f0.f0))).setCell ⟨gb330, 1, none⟩ (.int .i64 ((rd_T63 l2_3 x44_3).f0.f1))).setCell ⟨gb330, 2, none⟩ (.int .i64 ((rd_T63 l2_3 x44_3).f0.f2))).setCell ⟨gb330, 3, none⟩ (.int .i64 ((rd_T63 l2_3 x44_3).f1))).heap[gb322]? = some (.cells #[.int .i64 a2_0, .int .i64 a2_1, .int .i64 a2_2, .slice (some ad329) l2_3.length c2_3] 33 (0, 0))) := fl_ BK322 NB322_330
               have n3_ : Aside0 (((((w82.setCell ⟨gb330, 0, none⟩ (.int .i64 ((rd_T63 l2_3 x44_3).f0.f0))).setCell ⟨gb330, 1, none⟩ (.int .i64 ((rd_T63 l2_3 x44_3).f0.f1))).setCell ⟨gb330, 2, none⟩ (.int .i64 ((rd_T63 l2_3 x44_3).f0.f2))).setCell ⟨gb330, 3, none⟩ (.int .i64 ((rd_T63 l2_3 x44_3).f1))).heap[gb323]? = some (.cells #[.int .i64 x324000_3, .int .i64 x324001_3, .int .i64 x324002_3, .slice none 0 0] 33 (0, 0))) := fl_ BK323 NB323_330
               have n4_ : Aside0 (((((w82.setCell ⟨gb330, 0, none⟩ (.int .i64 ((rd_T63 l2_3 x44_3).f0.f0))).setCell ⟨gb330, 1, none⟩ (.int .i64 ((rd_T63 l2_3 x44_3).f0.f1))).setCell ⟨gb330, 2, none⟩ (.int .i64 ((rd_T63 l2_3 x44_3).f0.f2))).setCell ⟨gb330, 3, none⟩ (.int .i64 ((rd_T63 l2_3 x44_3).f1))).heap[gb330]? = some (.cells #[.int .i64 ((rd_T63 l2_3 x44_3).f0.f0), .int .i64 ((rd_T63 l2_3 x44_3).f0.f1), .int .i64 ((rd_T63 l2_3 x44_3).f0.f2), .int .i64 ((rd_T63 l2_3 x44_3).f1)] 63 (0, 0))) := ⟨by (with_reducible repeat first | apply blk_drewN | apply blk_drew | apply blk_alloc); refine blk_put (cs := #[.int .i64 ((rd_T63 l2_3 x44_3).f0.f0), .int .i64 ((rd_T63 l2_3 x44_3).f0.f1), .int .i64 ((rd_T63 l2_3 x44_3).f0.f2), .int .i64 0]) ?_ 3 _ rfl; (with_reducible repeat first | apply blk_drewN | apply blk_drew | apply blk_alloc); refine blk_put (cs := #[.int .i64 ((rd_T63 l2_3 x44_3).f0.f0), .int .i64 ((rd_T63 l2_3 x44_3).f0.f1), .int .i64 0, .int .i64 0]) ?_ 2 _ rfl; (with_reducible repeat first | apply blk_drewN | apply blk_drew | apply blk_alloc); refine blk_put (cs := #[.int .i64 ((rd_T63 l2_3 x44_3).f0.f0), .int .i64 0, .int .i64 0, .int .i64 0]) ?_ 1 _ rfl; (with_reducible repeat first | apply blk_drewN | apply blk_drew | apply blk_alloc); refine blk_put (cs := #[.int .i64 0, .int .i64 0, .int .i64 0, .int .i64 0]) ?_ 0 _ rfl; (with_reducible repeat first | apply blk_drewN | apply blk_drew | apply blk_alloc); exact BK330.out⟩
               have n5_ : Aside0 (Below w.heap.size w ((((w82.setCell ⟨gb330, 0, none⟩ (.int .i64 ((rd_T63 l2_3 x44_3).f0.f0))).setCell ⟨gb330, 1, none⟩ (.int .i64 ((rd_T63 l2_3 x44_3).f0.f1))).setCell ⟨gb330, 2, none⟩ (.int .i64 ((rd_T63 l2_3 x44_3).f0.f2))).setCell ⟨gb330, 3, none⟩ (.int .i64 ((rd_T63 l2_3 x44_3).f1)))) := bw_ HB
               (try clear HO_8)
               (try clear BK321)
               (try clear BK322)
               (try clear BK323)
               (try clear BK330)
               (try clear HB)
               generalize ((((w82.setCell ⟨gb330, 0, none⟩ (.int .i64 ((rd_T63 l2_3 x44_3).f0.f0))).setCell ⟨gb330, 1, none⟩ (.int .i64 ((rd_T63 l2_3 x44_3).f0.f1))).setCell ⟨gb330, 2, none⟩ (.int .i64 ((rd_T63 l2_3 x44_3).f0.f2))).setCell ⟨gb330, 3, none⟩ (.int .i64 ((rd_T63 l2_3 x44_3).f1))) = w87 at n0_ n1_ n2_ n3_ n4_ n5_ ⊢
               have HO_8 := n0_
               have BK321 := n1_
               have BK322 := n2_
               have BK323 := n3_
               have BK330 := n4_
               have HB := n5_
               clear n0_ n1_ n2_ n3_ n4_ n5_
               replace HO_8 := Aside0.mk (Kd.R_drew HO_8.out)
               replace BK321 := Aside0.mk (blk_drew BK321.out)
               replace BK322 := Aside0.mk (blk_drew BK322.out)
               replace BK323 := Aside0.mk (blk_drew BK323.out)
               replace BK330 := Aside0.mk (blk_drew BK330.out)
               replace HB := Aside0.mk (below_drew1 HB.out)
               obtain ⟨Ao89, co89, eo89⟩ := Kd.R_slice HO_8.out
               (first | subst eo89 | (injection eo89 with f1_ f2_ f3_; have f4_ := f1_.symm; have f5_ := f3_.symm; clear f1_ f2_ f3_; subst f4_; subst f5_))
               have p331 : 0 ≤ (x44_3 : Int) := of_decide_eq_true (by first | (with_reducible assumption) | assumption)
               have q331 : x44_3 < (x8_3.length : Int) := of_decide_eq_true (by first | (with_reducible assumption) | assumption)
               obtain ⟨ad331, e331, hx331_0, hx331_1, hx331_2, hx331_3⟩ := at_T63 (Kd.R_reads' HO_8.out).2.2 x44_3 p331 q331
               cases e331
               replace p331 := eq_true p331
               replace q331 := eq_true q331
               refine start_ (n := 8) (S := fun w' => w'.cell? ⟨gb330, 0, none⟩ = some (.int .i64 ((rd_T63 l2_3 x44_3).f0.f0)) ∧ w'.cell? ⟨gb330, 1, none⟩ = some (.int .i64 ((rd_T63 l2_3 x44_3).f0.f1)) ∧ w'.cell? ⟨gb330, 2, none⟩ = some (.int .i64 ((rd_T63 l2_3 x44_3).f0.f2)) ∧ w'.cell? ⟨gb330, 3, none⟩ = some (.int .i64 ((rd_T63 l2_3 x44_3).f1)) ∧ w'.cell? (ad331.add ((x44_3).toNat * 4)) = some (.int .i64 ((rd_T63 x8_3 x44_3).f0.f0)) ∧ w'.cell? ⟨(ad331.add ((x44_3).toNat * 4)).block, (ad331.add ((x44_3).toNat * 4)).off + 1, none⟩ = some (.int .i64 ((rd_T63 x8_3 x44_3).f0.f1)) ∧ w'.cell? ⟨(ad331.add ((x44_3).toNat * 4)).block, (ad331.add ((x44_3).toNat * 4)).off + 2, none⟩ = some (.int .i64 ((rd_T63 x8_3 x44_3).f0.f2)) ∧ w'.cell? ⟨(ad331.add ((x44_3).toNat * 4)).block, (ad331.add ((x44_3).toNat * 4)).off + 3, none⟩ = some (.int .i64 ((rd_T63 x8_3 x44_3).f1))) (ds := []) (bv_ 8 0) (by kernel_rfl) rfl rfl ⟨(blk_cell BK330.out 0).trans rfl, (blk_cell BK330.out 1).trans rfl, (blk_cell BK330.out 2).trans rfl, (blk_cell BK330.out 3).trans rfl, hx331_0, hx331_1, hx331_2, hx331_3⟩ (fun hHeld => ?_); refine with_tabW impl_AddMeasures.tab9 impl_AddMeasures.bits9 (fun HT_ HW_ => ?_)
               generalize w87.drew = w88 at HO_8 BK321 BK322 BK323 BK330 HB hx331_0 hx331_1 hx331_2 hx331_3 hHeld ⊢
               refine pu_ HT_ 0 (some 49) (bv_ 8 1) ?_
               refine pu_ HT_ 1 (some 50) (bv_ 8 3) ?_
               refine pu_ HT_ 2 (some 51) (bv_ 8 7) ?_
               refine pu_ HT_ 3 (some 52) (bv_ 8 15) ?_
               refine pu_ HT_ 5 (some 54) (bv_ 8 47) ?_
               refine ta_ HT_ HW_ 4 (some 53) (bv_ 8 63) hHeld ?_ (hy := by rintro w' ⟨s0, s1, s2, s3, s4, s5, s6, s7⟩; go_simp; with_reducible rfl)
               refine ta_ HT_ HW_ 6 (some 55) (bv_ 8 127) hHeld ?_ (hy := by rintro w' ⟨s0, s1, s2, s3, s4, s5, s6, s7⟩; go_simp; with_reducible rfl)
               refine pu_ HT_ 7 (some 56) (bv_ 8 255) ?_
               refine done_ (done_of HT_.out (by kernel_rfl)) ?_
               try go_wp2
               replace HO_8 := Aside0.mk (Kd.R_drew HO_8.out)
               replace BK321 := Aside0.mk (blk_drew BK321.out)
               replace BK322 := Aside0.mk (blk_drew BK322.out)
               replace BK323 := Aside0.mk (blk_drew BK323.out)
               replace BK330 := Aside0.mk (blk_drew BK330.out)
               replace HB := Aside0.mk (below_drew1 HB.out)
               have p332 : 0 ≤ (x44_3 : Int) := of_decide_eq_true (by first | (with_reducible assumption) | assumption)
               have q332 : x44_3 < (x8_3.length : Int) := of_decide_eq_true (by first | (with_reducible assumption) | assumption)
               obtain ⟨ad332, e332, hx332_0, hx332_1, hx332_2, hx332_3⟩ := at_T63 (Kd.R_reads' HO_8.out).2.2 x44_3 p332 q332
               obtain rfl : ad331 = ad332 := (by injection e332)
               replace p332 := eq_true p332
               replace q332 := eq_true q332
               have p65 : 0 ≤ (x44_3 : Int) := of_decide_eq_true (by first | (with_reducible assumption) | assumption)
               have q65 : (x44_3 : Int) < ((x8_3.length : Int) : Int) := of_decide_eq_true (by first | (with_reducible assumption) | assumption)
               obtain ⟨go65, co65, eo65, gb65, gl65, cl65, HG65⟩ := Kd.R_form HO_8.out (by omega)
               (first | cases eo65 | (injection eo65 with ea_ en_ ec_; (first | subst ea_ | (injection ea_ with ea_; subst ea_)); subst ec_; clear en_))
               have GB65 := Aside0.mk gb65
               have GG65 := Aside0.mk HG65
               clear gb65 gl65 HG65
               (first | simp only [add_plain] at hx331_0 | skip)
               (first | simp only [add_plain] at hx331_1 | skip)
               (first | simp only [add_plain] at hx331_2 | skip)
               (first | simp only [add_plain] at hx331_3 | skip)
               (first | simp only [add_plain] at hx332_0 | skip)
               (first | simp only [add_plain] at hx332_1 | skip)
               (first | simp only [add_plain] at hx332_2 | skip)
               (first | simp only [add_plain] at hx332_3 | skip)
               obtain ⟨ce65, hcl65, hM65, hcc65, hfr65⟩ := Kd.R_elem HO_8.out z63 (x44_3 : Int) p65 q65
               obtain rfl := k63_openM hM65
               have hx65_0 : World.cell? _ ⟨go65, (x44_3 : Int).toNat * 4, none⟩ = some (.int .i64 ((rd_T63 x8_3 x44_3).f0.f0)) := hcc65 0 _ rfl
               have hx65_1 : World.cell? _ ⟨go65, (x44_3 : Int).toNat * 4 + 1, none⟩ = some (.int .i64 ((rd_T63 x8_3 x44_3).f0.f1)) := hcc65 1 _ rfl
               have hx65_2 : World.cell? _ ⟨go65, (x44_3 : Int).toNat * 4 + 2, none⟩ = some (.int .i64 ((rd_T63 x8_3 x44_3).f0.f2)) := hcc65 2 _ rfl
               have hx65_3 : World.cell? _ ⟨go65, (x44_3 : Int).toNat * 4 + 3, none⟩ = some (.int .i64 ((rd_T63 x8_3 x44_3).f1)) := hcc65 3 _ rfl
               have hf65_0 : World.frozen? _ ⟨go65, (x44_3 : Int).toNat * 4, none⟩ = false := hfr65 0
               have hf65_1 : World.frozen? _ ⟨go65, (x44_3 : Int).toNat * 4 + 1, none⟩ = false := hfr65 1
               have hf65_2 : World.frozen? _ ⟨go65, (x44_3 : Int).toNat * 4 + 2, none⟩ = false := hfr65 2
               have hf65_3 : World.frozen? _ ⟨go65, (x44_3 : Int).toNat * 4 + 3, none⟩ = false := hfr65 3
               clear hcl65 hcc65 hfr65 hM65
               replace p65 := eq_true p65
               replace q65 := eq_true q65
               obtain ⟨ce91, hcl91, hM91, hcc91, hfr91⟩ := Kd.R_elem HO_8.out z63 (x44_3 : Int) (of_decide_eq_true (by first | (with_reducible assumption) | assumption)) (by have h_ : (x44_3 : Int) < ((x8_3.length : Int) : Int) := of_decide_eq_true (by first | (with_reducible assumption) | assumption); first | exact h_ | (have e_ := (Kd.R_reads' HO_8.out).1; omega) | simpa using h_)
               obtain rfl := k63_openM hM91
               have HP91 := (Kd.R_seg HO_8.out (x44_3 : Int) (of_decide_eq_true (by first | (with_reducible assumption) | assumption)) (by have h_ : (x44_3 : Int) < ((x8_3.length : Int) : Int) := of_decide_eq_true (by first | (with_reducible assumption) | assumption); first | exact h_ | (have e_ := (Kd.R_reads' HO_8.out).1; omega) | simpa using h_) (seg := [.int .i64 (wrap64 (((rd_T63 x8_3 x44_3).f1) + ((rd_T63 l2_3 x44_3).f1)))]) (j := 3) hcl91 hcc91 (show 4 ≤ 4 from by decide) (x' := (⟨(⟨(rd_T63 x8_3 x44_3).f0.f0, (rd_T63 x8_3 x44_3).f0.f1, (rd_T63 x8_3 x44_3).f0.f2⟩ : S30), wrap64 (((rd_T63 x8_3 x44_3).f1) + ((rd_T63 l2_3 x44_3).f1))⟩ : S63)) (k63_mkM _ _ _ (⟨(⟨(rd_T63 x8_3 x44_3).f0.f0, (rd_T63 x8_3 x44_3).f0.f1, (rd_T63 x8_3 x44_3).f0.f2⟩ : S30), wrap64 (((rd_T63 x8_3 x44_3).f1) + ((rd_T63 l2_3 x44_3).f1))⟩ : S63) ) (fun _ hk => hk)).1
               rw [← Ny333.out] at HP91
               have HQ91 := Aside0.mk HP91
               clear hcl91 hcc91 hfr91 hM91 HP91
               refine start_ (n := 11) (S := fun w' => w'.cell? ⟨gb330, 0, none⟩ = some (.int .i64 ((rd_T63 l2_3 x44_3).f0.f0)) ∧ w'.cell? ⟨gb330, 1, none⟩ = some (.int .i64 ((rd_T63 l2_3 x44_3).f0.f1)) ∧ w'.cell? ⟨gb330, 2, none⟩ = some (.int .i64 ((rd_T63 l2_3 x44_3).f0.f2)) ∧ w'.cell? ⟨gb330, 3, none⟩ = some (.int .i64 ((rd_T63 l2_3 x44_3).f1)) ∧ w'.cell? ⟨go65, ((x44_3).toNat * 4), none⟩ = some (.int .i64 ((rd_T63 x8_3 x44_3).f0.f0)) ∧ w'.cell? ⟨go65, ((x44_3).toNat * 4) + 1, none⟩ = some (.int .i64 ((rd_T63 x8_3 x44_3).f0.f1)) ∧ w'.cell? ⟨go65, ((x44_3).toNat * 4) + 2, none⟩ = some (.int .i64 ((rd_T63 x8_3 x44_3).f0.f2)) ∧ w'.cell? ⟨go65, ((x44_3).toNat * 4) + 3, none⟩ = some (.int .i64 ((rd_T63 x8_3 x44_3).f1))) (ds := [10]) (bv_ 11 0) (by kernel_rfl) rfl rfl ⟨(blk_cell BK330.out 0).trans rfl, (blk_cell BK330.out 1).trans rfl, (blk_cell BK330.out 2).trans rfl, (blk_cell BK330.out 3).trans rfl, hx332_0, hx332_1, hx332_2, hx332_3⟩ (fun hHeld => ?_); refine with_tabW impl_AddMeasures.tab11 impl_AddMeasures.bits11 (fun HT_ HW_ => ?_)
               generalize w88.drew = w90 at HO_8 BK321 BK322 BK323 BK330 HB GG65 HQ91 hf65_0 hf65_1 hf65_2 hf65_3 hx331_0 hx331_1 hx331_2 hx331_3 hx332_0 hx332_1 hx332_2 hx332_3 hx65_0 hx65_1 hx65_2 hx65_3 hHeld ⊢
               refine pu_ HT_ 0 (some 58) (bv_ 11 1) ?_
               refine pu_ HT_ 1 (some 59) (bv_ 11 3) ?_
               refine pu_ HT_ 2 (some 60) (bv_ 11 7) ?_
               refine pu_ HT_ 3 (some 61) (bv_ 11 15) ?_
               refine pu_ HT_ 5 (some 63) (bv_ 11 47) ?_
               refine ta_ HT_ HW_ 4 (some 62) (bv_ 11 63) hHeld ?_ (hy := by rintro w' ⟨s0, s1, s2, s3, s4, s5, s6, s7⟩; go_simp; with_reducible rfl)
               refine ta_ HT_ HW_ 6 (some 64) (bv_ 11 127) hHeld ?_ (hy := by rintro w' ⟨s0, s1, s2, s3, s4, s5, s6, s7⟩; go_simp; with_reducible rfl)
               refine pu_ HT_ 7 (some 65) (bv_ 11 255) ?_
               refine pu_ HT_ 8 (some 66) (bv_ 11 511) ?_
               refine pu_ HT_ 9 (some 67) (bv_ 11 1023) ?_
               refine last_ (i := 10) (N := none) (bv_ 11 2047) rfl rfl (one_of HT_.out (by kernel_rfl)) (by decide) (fun K hK => ?_)
               refine skip_ (w1 := ?_) (by rfl) rfl ?_ ?_
               rotate_left
               ·go_simp
                rfl
               refine hK.out _ _ ?_
               clear hK K
               refine done_ (done_of HT_.out (by kernel_rfl)) ?_
               try go_wp2
               go_roundg k3
               case measure => have := HJ3.out; have := HJ25.out; have := HK3.out; omega
               case rel => exact ⟨(y333), (false), (wrap64 (x44_3 + 1)), (x324000_3), (x324001_3), (x324002_3), (by first | rfl | (simp; done) | (simp [*]; done) | (simp [wrap64]; done)), (by first | rfl | (simp; done) | (simp [*]; done) | (simp [wrap64]; done)), H', ⟨by have := HJ3.out; have := HJ25.out; have := HK3.out; omega⟩, ⟨by (with_reducible repeat (first | apply Kd.R_alloc | apply Kd.R_drewN | apply Kd.R_drew)); exact Kd.R_mono HQ91.out (fun _ hk => trivial)⟩, ⟨by (with_reducible repeat first | apply blk_drewN | apply blk_drew | apply blk_alloc); refine blk_far ?_ (by have h_ := Kd.R_ne HO_8.out BK321.out (by decide); intro e_; exact h_ (by rw [e_]; rfl)) _; (with_reducible repeat first | apply blk_drewN | apply blk_drew | apply blk_alloc); exact BK321.out⟩, ⟨by (with_reducible repeat first | apply blk_drewN | apply blk_drew | apply blk_alloc); refine blk_far ?_ (by have h_ := Kd.R_ne HO_8.out BK322.out (by decide); intro e_; exact h_ (by rw [e_]; rfl)) _; (with_reducible repeat first | apply blk_drewN | apply blk_drew | apply blk_alloc); exact BK322.out⟩, ⟨by (with_reducible repeat first | apply blk_drewN | apply blk_drew | apply blk_alloc); refine blk_far ?_ (by have h_ := Kd.R_ne HO_8.out BK323.out (by decide); intro e_; exact h_ (by rw [e_]; rfl)) _; (with_reducible repeat first | apply blk_drewN | apply blk_drew | apply blk_alloc); exact BK323.out⟩, ⟨by repeat (first | (with_reducible first | exact HB.out | apply below_alloc | apply pw_below_drewN | apply below_drew1 | refine below_set ?_ GB65.out | refine below_set ?_ GE321.out | refine below_set ?_ GE322.out | refine below_set ?_ GE323.out | refine below_set ?_ GE330.out) | exact HB.out)⟩⟩
            ·rw [if_neg c52] at H
             exact absurd H (by simp)
           ·rw [if_neg c51] at H
            exact absurd H (by simp)
          ·rw [if_neg c50] at H
           exact absurd H (by simp)
         ·rw [if_neg c49] at H
          have c49b0 : decide (x44_3 < (l2_3.length : Int)) = false := decide_eq_false c49
          clear c49
          by_cases c92 : x9_3 = true
          ·subst c92
           have H1 : (some (a1_0, a1_1, a1_2, x8_3, 0)) = some (r1, r2, r3, r4, r5) := by rw [if_pos rfl] at H; exact H
           clear H
           have H := H1
           clear H1
           simp only [Option.some.injEq, Prod.mk.injEq] at H
           obtain ⟨rfl, rfl, rfl, rfl, rfl⟩ := H
           have hnb93 := NB321_322.out
           have hnc93 := NB322_321.out
           have hnb94 := NB321_323.out
           have hnc94 := NB323_321.out
           have hcz95_0 : wr.cell? ⟨gb321, 0, none⟩ = some (.int .i64 a1_0) := cz_ BK321 0
           have hcz95_1 : wr.cell? ⟨gb321, 1, none⟩ = some (.int .i64 a1_1) := cz_ BK321 1
           have hcz95_2 : wr.cell? ⟨gb321, 2, none⟩ = some (.int .i64 a1_2) := cz_ BK321 2
           have hcz95_3 : wr.cell? ⟨gb321, 3, none⟩ = some (.slice A1_3 l1_3.length c1_3) := cz_ BK321 3
           have hfz95_0 := fz_ BK321 0
           have hfz95_1 := fz_ BK321 1
           have hfz95_2 := fz_ BK321 2
           have hfz95_3 := fz_ BK321 3
           obtain ⟨Ao96, co96, eo96⟩ := Kd.R_slice HO_8.out
           subst eo96
           have hnb97 := NB323_322.out
           have hnc97 := NB322_323.out
           have hcz98_0 : wr.cell? ⟨gb323, 0, none⟩ = some (.int .i64 x324000_3) := cz_ BK323 0
           have hcz98_1 : wr.cell? ⟨gb323, 1, none⟩ = some (.int .i64 x324001_3) := cz_ BK323 1
           have hcz98_2 : wr.cell? ⟨gb323, 2, none⟩ = some (.int .i64 x324002_3) := cz_ BK323 2
           have hcz98_3 : wr.cell? ⟨gb323, 3, none⟩ = some (.slice none 0 0) := cz_ BK323 3
           have hfz98_0 := fz_ BK323 0
           have hfz98_1 := fz_ BK323 1
           have hfz98_2 := fz_ BK323 2
           have hfz98_3 := fz_ BK323 3
           go_wp2
           refine bodyPost_ret (results_ct rfl _ _ gb323 33 #[.int .i64 a1_0, .int .i64 a1_1, .int .i64 a1_2, .slice Ao96 x8_3.length co96] (0, 0) _ rfl (by (with_reducible repeat first | apply blk_drewN | apply blk_drew | apply blk_alloc); refine blk_put (cs := #[.int .i64 a1_0, .int .i64 a1_1, .int .i64 a1_2, .slice none 0 0]) ?_ 3 _ rfl; (with_reducible repeat first | apply blk_drewN | apply blk_drew | apply blk_alloc); refine blk_put (cs := #[.int .i64 a1_0, .int .i64 a1_1, .int .i64 x324002_3, .slice none 0 0]) ?_ 2 _ rfl; (with_reducible repeat first | apply blk_drewN | apply blk_drew | apply blk_alloc); refine blk_put (cs := #[.int .i64 a1_0, .int .i64 x324001_3, .int .i64 x324002_3, .slice none 0 0]) ?_ 1 _ rfl; (with_reducible repeat first | apply blk_drewN | apply blk_drew | apply blk_alloc); refine blk_put (cs := #[.int .i64 x324000_3, .int .i64 x324001_3, .int .i64 x324002_3, .slice none 0 0]) ?_ 0 _ rfl; (with_reducible repeat first | apply blk_drewN | apply blk_drew | apply blk_alloc); exact BK323.out) Try.underlying33 rfl (by kernel_rfl)) rfl ?_
           exact ⟨_, by first | rfl | (simp [errW_none, errW_some] <;> rfl) | (simp [*, errW_none, errW_some] <;> rfl), by (with_reducible repeat (first | apply Kd.R_alloc | apply Kd.R_drewN | apply Kd.R_drew)); exact Kd.R_mono (Kd.R_far (p := ⟨gb323, 3, none⟩) (Kd.R_far (p := ⟨gb323, 2, none⟩) (Kd.R_far (p := ⟨gb323, 1, none⟩) (Kd.R_far (p := ⟨gb323, 0, none⟩) (Kd.R_types HO_8.out BK323.out (by decide)) (fun _ hk => hk.2) (.int .i64 a1_0)) (fun _ hk => hk.2) (.int .i64 a1_1)) (fun _ hk => hk.2) (.int .i64 a1_2)) (fun _ hk => hk.2) (.slice Ao96 x8_3.length co96)) (fun _ hk => trivial), by repeat (first | (with_reducible first | exact HB.out | apply below_alloc | apply pw_below_drewN | apply below_drew1 | refine below_set ?_ GE321.out | refine below_set ?_ GE322.out | refine below_set ?_ GE323.out) | exact HB.out)⟩
          ·replace c92 := Bool.eq_false_iff.mpr c92
           subst c92
           have H1 : (some (0, 0, 0, ([] : List (S63)), 3)) = some (r1, r2, r3, r4, r5) := by rw [if_neg (show ¬ (false = true) by decide)] at H; exact H
           clear H
           have H := H1
           clear H1
           simp only [Option.some.injEq, Prod.mk.injEq] at H
           obtain ⟨rfl, rfl, rfl, rfl, rfl⟩ := H
           have hnb99 := NB323_321.out
           have hnc99 := NB321_323.out
           have hnb100 := NB323_322.out
           have hnc100 := NB322_323.out
           have hcz101_0 : wr.cell? ⟨gb323, 0, none⟩ = some (.int .i64 x324000_3) := cz_ BK323 0
           have hcz101_1 : wr.cell? ⟨gb323, 1, none⟩ = some (.int .i64 x324001_3) := cz_ BK323 1
           have hcz101_2 : wr.cell? ⟨gb323, 2, none⟩ = some (.int .i64 x324002_3) := cz_ BK323 2
           have hcz101_3 : wr.cell? ⟨gb323, 3, none⟩ = some (.slice none 0 0) := cz_ BK323 3
           have hfz101_0 := fz_ BK323 0
           have hfz101_1 := fz_ BK323 1
           have hfz101_2 := fz_ BK323 2
           have hfz101_3 := fz_ BK323 3
           go_wp2
           refine bodyPost_ret (results_ct rfl _ _ gb323 33 #[.int .i64 0, .int .i64 0, .int .i64 0, .slice none 0 0] (0, 0) _ rfl (by (with_reducible repeat first | apply blk_drewN | apply blk_drew | apply blk_alloc); refine blk_put (cs := #[.int .i64 0, .int .i64 0, .int .i64 0, .slice none 0 0]) ?_ 3 _ rfl; (with_reducible repeat first | apply blk_drewN | apply blk_drew | apply blk_alloc); refine blk_put (cs := #[.int .i64 0, .int .i64 0, .int .i64 x324002_3, .slice none 0 0]) ?_ 2 _ rfl; (with_reducible repeat first | apply blk_drewN | apply blk_drew | apply blk_alloc); refine blk_put (cs := #[.int .i64 0, .int .i64 x324001_3, .int .i64 x324002_3, .slice none 0 0]) ?_ 1 _ rfl; (with_reducible repeat first | apply blk_drewN | apply blk_drew | apply blk_alloc); refine blk_put (cs := #[.int .i64 x324000_3, .int .i64 x324001_3, .int .i64 x324002_3, .slice none 0 0]) ?_ 0 _ rfl; (with_reducible repeat first | apply blk_drewN | apply blk_drew | apply blk_alloc); exact BK323.out) Try.underlying33 rfl (by kernel_rfl)) rfl ?_
           exact ⟨_, by first | rfl | (simp [errW_none, errW_some] <;> rfl) | (simp [*, errW_none, errW_some] <;> rfl), by first | exact Kd.R_nil _ _ _ _ _ | exact Kd.N_nil _ _ _ _ _ | exact Kd.V_nil _ _ _ _ _ | exact Kd.Q_nil _ _ _ _ _ | exact Kd.S_nil _ _ _ _ _, by repeat (first | (with_reducible first | exact HB.out | apply below_alloc | apply pw_below_drewN | apply below_drew1 | refine below_set ?_ GE321.out | refine below_set ?_ GE322.out | refine below_set ?_ GE323.out) | exact HB.out)⟩
end Go.Proofs.Ytoiailmmgfokjaa.QC
