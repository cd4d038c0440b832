-- Written by a program of this session out of Lean's own print of the loaded program; Lean checks it.
import Derived.Test.YtoiailmmgfokjaaQCx6
import Derived.Test.YtoiailmmgfokjaaQCx18
import Derived.Test.YtoiailmmgfokjaaQCx21
import Derived.Test.YtoiailmmgfokjaaQCx23
namespace Go.Proofs.Ytoiailmmgfokjaa.QC
open Go.RowKit Go.Proofs.YtoiailmmgfokjaaW.PrintWords Go.Proofs.YtoiailmmgfokjaaW.PrintLast Go.Proofs.YtoiailmmgfokjaaW.PrintMore
attribute [local go_sem] isSome_setCell max2_int min2_int max_two min_two max_three min_three max_four min_four   -- for this text's walks alone
set_option linter.unusedVariables false
set_option linter.unusedSimpArgs false

/-! ### spec_l08Is: function 34 -/
mutual
def spec_l08Is.j0 : Nat → Int → Bool → Int → Int → Int → List (S63) → Option (Bool)
 | 0, _, _, _, _, _, _ => none
 | k + 1, x0, x28, x174000, x174001, x174002, x174003 => if x28 = true then (some false) else (spec_l08Is.l0 k x0 x174000 0 x174000 x174001 x174002 x174003)
def spec_l08Is.l0 : Nat → Int → Int → Int → Int → Int → Int → List (S63) → Option (Bool)
 | 0, _, _, _, _, _, _, _ => none
 | k + 1, x0, x5, x6, x174000, x174001, x174002, x174003 => if x6 < (x174003.length : Int) then (if 0 ≤ x6 then ((spec_l01Is.f k x0 ((rd_T63 x174003 x6).f0.f0) ((rd_T63 x174003 x6).f0.f1) ((rd_T63 x174003 x6).f0.f2)).bind fun t180 => (if t180 = true then ((spec_l01Holds.f k x0 x174000 x174001 x174002 ((rd_T63 x174003 x6).f0.f0) ((rd_T63 x174003 x6).f0.f1) ((rd_T63 x174003 x6).f0.f2)).bind fun t181 => (if t181 = true then ((spec_l01In.f ((rd_T63 x174003 x6).f1) (-1000000) 1000000).bind fun t182 => (spec_l08Is.j2 k x0 x5 x6 (!t182) x174000 x174001 x174002 x174003 ((rd_T63 x174003 x6).f0.f0) ((rd_T63 x174003 x6).f0.f1) ((rd_T63 x174003 x6).f0.f2) ((rd_T63 x174003 x6).f1))) else (spec_l08Is.j2 k x0 x5 x6 true x174000 x174001 x174002 x174003 ((rd_T63 x174003 x6).f0.f0) ((rd_T63 x174003 x6).f0.f1) ((rd_T63 x174003 x6).f0.f2) ((rd_T63 x174003 x6).f1)))) else (spec_l08Is.j2 k x0 x5 x6 true x174000 x174001 x174002 x174003 ((rd_T63 x174003 x6).f0.f0) ((rd_T63 x174003 x6).f0.f1) ((rd_T63 x174003 x6).f0.f2) ((rd_T63 x174003 x6).f1)))) else (none)) else (spec_l08Is.l1 k x0 x5 0 0 x174000 x174001 x174002 x174003)
def spec_l08Is.j2 : Nat → Int → Int → Int → Bool → Int → Int → Int → List (S63) → Int → Int → Int → Int → Option (Bool)
 | 0, _, _, _, _, _, _, _, _, _, _, _, _ => none
 | k + 1, x0, x5, x6, x63, x174000, x174001, x174002, x174003, x180000, x180001, x180002, x180003 => if x63 = true then (some false) else (if x6 > 0 then (if 0 ≤ (wrap64 (x6 - 1)) then (if (wrap64 (x6 - 1)) < (x174003.length : Int) then ((spec_l08Key.f k x0 ((rd_T63 x174003 (wrap64 (x6 - 1))).f0.f0) ((rd_T63 x174003 (wrap64 (x6 - 1))).f0.f1) ((rd_T63 x174003 (wrap64 (x6 - 1))).f0.f2)).bind fun t184 => ((spec_l08Key.f k x0 x180000 x180001 x180002).bind fun t185 => (if t184 ≥ t185 then (some false) else (spec_l08Is.l0 k x0 (mx x5 x180000) (wrap64 (x6 + 1)) x174000 x174001 x174002 x174003)))) else (none)) else (none)) else (spec_l08Is.l0 k x0 (mx x5 x180000) (wrap64 (x6 + 1)) x174000 x174001 x174002 x174003))
def spec_l08Is.l1 : Nat → Int → Int → Int → Int → Int → Int → Int → List (S63) → Option (Bool)
 | 0, _, _, _, _, _, _, _, _ => none
 | k + 1, x0, x5, x8, x9, x174000, x174001, x174002, x174003 => if x9 < (x174003.length : Int) then (spec_l08Is.l2 k x0 x5 x8 x9 0 x174000 x174001 x174002 x174003) else ((spec_l01Power.f k x0 (wrap64 (x5 - x174000))).bind fun t186 => (some (x8 == t186)))
def spec_l08Is.l2 : Nat → Int → Int → Int → Int → Int → Int → Int → Int → List (S63) → Option (Bool)
 | 0, _, _, _, _, _, _, _, _, _ => none
 | k + 1, x0, x5, x8, x9, x10, x174000, x174001, x174002, x174003 => if x10 < (x174003.length : Int) then (if x9 = x10 then (spec_l08Is.l2 k x0 x5 x8 x9 (wrap64 (x10 + 1)) x174000 x174001 x174002 x174003) else (if 0 ≤ x9 then (if x9 < (x174003.length : Int) then (if 0 ≤ x10 then ((spec_l01Holds.f k x0 ((rd_T63 x174003 x9).f0.f0) ((rd_T63 x174003 x9).f0.f1) ((rd_T63 x174003 x9).f0.f2) ((rd_T63 x174003 x10).f0.f0) ((rd_T63 x174003 x10).f0.f1) ((rd_T63 x174003 x10).f0.f2)).bind fun t189 => (if t189 = true then (some false) else (spec_l08Is.l2 k x0 x5 x8 x9 (wrap64 (x10 + 1)) x174000 x174001 x174002 x174003))) else (none)) else (none)) else (none))) else (if 0 ≤ x9 then (if x9 < (x174003.length : Int) then ((spec_l01Power.f k x0 (wrap64 (x5 - ((rd_T63 x174003 x9).f0.f0)))).bind fun t191 => (spec_l08Is.l1 k x0 x5 (wrap64 (x8 + t191)) (wrap64 (x9 + 1)) x174000 x174001 x174002 x174003)) else (none)) else (none))
end
def spec_l08Is.f (k : Nat) (a0 : Int) (a1_0 : Int) (a1_1 : Int) (a1_2 : Int) (l1_3 : List (S63)) : Option (Bool) := (spec_l01Code.f k a0 (([(⟨a1_0, a1_1, a1_2⟩ : S30)] : List (S30)))).bind fun t177 => (if t177 = 0 then (if (l1_3.length : Int) < 1 then (spec_l08Is.j0 k a0 true a1_0 a1_1 a1_2 l1_3) else (spec_l08Is.j0 k a0 (decide ((l1_3.length : Int) > 64)) a1_0 a1_1 a1_2 l1_3)) else (spec_l08Is.j0 k a0 true a1_0 a1_1 a1_2 l1_3))
def spec_l08Is.T10 : Bool × List (List Nat × List Nat) := (true, [([], []), ([0], [0]), ([1], [1]), ([2], [2]), ([2], [2]), ([4, 2], [2, 4]), ([2], [2]), ([6, 2], [2, 6]), ([5, 7, 2], [2, 5, 7]), ([8, 2], [2, 8]), ([9, 2], [2, 9]), ([3, 10, 2, 2], [2, 3, 10]), ([2], [2]), ([2], [2]), ([13, 2], [2, 13]), ([12, 14, 11, 2], [2, 12, 14]), ([11, 15, 2], [2, 11, 15]), ([2, 16], [2, 16])])
def spec_l08Is.B10 : List Nat := [0, 1, 3, 7, 7, 23, 7, 71, 247, 503, 1015, 2047, 7, 7, 8199, 32767, 65535, 131071]
theorem spec_l08Is.tab10 : rtab .any (opsOf Try.f34 10) = spec_l08Is.T10 := by kernel_rfl
theorem spec_l08Is.bits10 : waitsOk spec_l08Is.T10.2 spec_l08Is.B10 = true := by kernel_rfl
def spec_l08Is.T20 : Bool × List (List Nat × List Nat) := (true, [([], []), ([], []), ([0, 1], [0, 1]), ([2], [2]), ([3], [3]), ([3], [3]), ([5, 3], [3, 5]), ([3], [3]), ([6, 7, 3], [3, 6, 7]), ([8, 3], [3, 8]), ([9, 3], [3, 9]), ([3], [3]), ([11, 3], [3, 11]), ([3], [3]), ([12, 13, 3], [3, 12, 13]), ([14, 3], [3, 14]), ([15, 3], [3, 15]), ([4, 10, 16, 3, 3], [3, 4, 10, 16]), ([3, 17], [3, 17])])
def spec_l08Is.B20 : List Nat := [0, 0, 3, 7, 15, 15, 47, 15, 239, 495, 1007, 15, 2063, 15, 14351, 30735, 63503, 131071, 262143]
theorem spec_l08Is.tab20 : rtab .any (opsOf Try.f34 20) = spec_l08Is.T20 := by kernel_rfl
theorem spec_l08Is.bits20 : waitsOk spec_l08Is.T20.2 spec_l08Is.B20 = true := by kernel_rfl
set_option maxHeartbeats 8000000 in
set_option maxRecDepth 100000 in
theorem spec_l08Is.calls (k : Nat) (a0 : Int) (a1_0 : Int) (a1_1 : Int) (a1_2 : Int) (A1_3 : Option Addr) (c1_3 : Nat) (l1_3 : List (S63)) (r : Bool) (w : World) (hr1_3 : Kd.C k63 w A1_3 l1_3.length l1_3) (hc1_3 : l1_3.length ≤ c1_3) (h : spec_l08Is.f k a0 a1_0 a1_1 a1_2 l1_3 = some r) :
  Calls Try.prog 34 #[.int .i64 a0, .agg #[.int .i64 a1_0, .int .i64 a1_1, .int .i64 a1_2, .slice A1_3 l1_3.length c1_3]] w fun e w' => e = .returned (.bool r) ∧ Below w.heap.size w w' := by
 have hu33 := Try.underlying33
 have hu30 := Try.underlying30
 have hu63 := Try.underlying63
 have HR1_3 := Aside0.mk hr1_3
 have HC1_3 := Aside0.mk hc1_3
 clear hr1_3 hc1_3
 have HB := Aside0.mk (Below.refl w.heap.size w)
 have H : ((spec_l01Code.f k a0 (([(⟨a1_0, a1_1, a1_2⟩ : S30)] : List (S30)))).bind fun t177 => (if t177 = 0 then (if (l1_3.length : Int) < 1 then (spec_l08Is.j0 k a0 true a1_0 a1_1 a1_2 l1_3) else (spec_l08Is.j0 k a0 (decide ((l1_3.length : Int) > 64)) a1_0 a1_1 a1_2 l1_3)) else (spec_l08Is.j0 k a0 true a1_0 a1_1 a1_2 l1_3))) = some r := h
 clear h
 have HC3 := Aside0.mk H
 clear H
 go_enter Try.func34, Try.ntmps34
 go_upto_region 1 with (first | ((with_reducible refine gate_dst (N := 3) rfl ?_); (try (refine gate_guard (by rfl) ?_; dsimp only)); refine bx_ 3 #[.int .i64 a1_0, .int .i64 a1_1, .int .i64 a1_2, .slice A1_3 l1_3.length c1_3] 33 ?_; intro gb173 hg w4 hbox hb; have BK173 := Aside0.mk (hbox); have GW173 := bs_ HB hg; have GE173 := bs_ HB hg; replace HB := bt_ HB hb; clear hb hbox hg))
 (try simp only [Act.put, lstS, lstZ, lstC])
 go_cut [28] (fun v28 wc => ∃ (kq : Nat) (x28_2 : Bool), v28 = .bool x28_2 ∧ Aside0 (spec_l08Is.j0 kq a0 x28_2 a1_0 a1_1 a1_2 l1_3 = some r) ∧ Aside0 (kq ≤ k) ∧ Aside0 (wc.heap[gb173]? = some (.cells #[.int .i64 a1_0, .int .i64 a1_1, .int .i64 a1_2, (.slice A1_3 l1_3.length c1_3)] 33 (0, 0))) ∧ Aside0 (Below w.heap.size w wc))
 case first =>
  have H := HC3.out
  clear HC3
  obtain ⟨y174, hy174⟩ : ∃ y_ : List (S30), y_ = (([(⟨a1_0, a1_1, a1_2⟩ : S30)] : List (S30))) := ⟨_, rfl⟩
  replace H : ((spec_l01Code.f k a0 y174).bind fun t177 => (if t177 = 0 then (if (l1_3.length : Int) < 1 then (spec_l08Is.j0 k a0 true a1_0 a1_1 a1_2 l1_3) else (spec_l08Is.j0 k a0 (decide ((l1_3.length : Int) > 64)) a1_0 a1_1 a1_2 l1_3)) else (spec_l08Is.j0 k a0 true a1_0 a1_1 a1_2 l1_3))) = some r := by first | (rw [hy174]; with_reducible exact H) | (have H2_ := (Option.bind_some _ _).symm.trans H; rw [hy174]; with_reducible exact H2_) | (have H2_ := (Option.bind_some _ _).symm.trans H; with_reducible exact H2_) | with_reducible exact H | (rw [hy174]; exact H) | exact H
  have Ny174 := Aside0.mk hy174
  clear hy174
  replace H := Option.bind_eq_some_iff.mp H
  obtain ⟨t177, A50, H⟩ := H
  have A5 := Aside0.mk A50
  clear A50
  by_cases c6 : t177 = 0
  ·rw [if_pos c6] at H
   have c6b0 : (t177 == 0) = true := beq_iff_eq.mpr c6
   have c6b1 : (t177 != 0) = false := bne_eq_false_iff_eq.mpr c6
   clear c6
   (first | rw [c6b0] | (simp only [i64_w, i32_w]; rw [c6b0]) | skip)
   by_cases c7 : (l1_3.length : Int) < 1
   ·rw [if_pos c7] at H
    have c7b0 : decide ((l1_3.length : Int) < 1) = true := decide_eq_true c7
    have c7b1 : decide (l1_3.length < 1) = true := decide_eq_true (by omega)
    clear c7
    have H' := Aside0.mk H
    clear H
    have hcz8_0 : w4.cell? ⟨gb173, 0, none⟩ = some (.int .i64 a1_0) := cz_ BK173 0
    have hcz8_1 : w4.cell? ⟨gb173, 1, none⟩ = some (.int .i64 a1_1) := cz_ BK173 1
    have hcz8_2 : w4.cell? ⟨gb173, 2, none⟩ = some (.int .i64 a1_2) := cz_ BK173 2
    have hcz8_3 : w4.cell? ⟨gb173, 3, none⟩ = some (.slice A1_3 l1_3.length c1_3) := cz_ BK173 3
    have hfz8_0 := fz_ BK173 0
    have hfz8_1 := fz_ BK173 1
    have hfz8_2 := fz_ BK173 2
    have hfz8_3 := fz_ BK173 3
    go_wp2_with (first | ((with_reducible refine gate_dst (N := 14) rfl ?_); (try (refine gate_guard (by rfl) ?_; dsimp only)); refine Kd.R_lit k30 _ 30 ?hg (N := 14) ?hd (xs := ([(⟨a1_0, a1_1, a1_2⟩ : S30)] : List (S30))) (inner := [.int .i64 a1_0, .int .i64 a1_1, .int .i64 a1_2]) (ok := fun _ => True) (okp := fun _ => True) ?hr ?hp (fun _ hk => hk) trivial (Below.refl _ _) (Nat.le_refl _) (by simp) ?_; (case hd => rfl); (case hg => rfl); (case hr => first | (go_simp; done) | (go_simp; rfl)); (case hp => exact (Reps.c3 (show Kd.M k30 _ _ _ (⟨a1_0, a1_1, a1_2⟩ : S30) [.int .i64 a1_0, .int .i64 a1_1, .int .i64 a1_2] from (k30_mkM _ _ _ (⟨a1_0, a1_1, a1_2⟩ : S30) )) (Reps.none _ _))); intro v175 w9 ho10 hb hg_ hnew_; clear hg_ hnew_; (first | rw [← Ny174.out] at ho10 | (simp only [Int.reduceToNat] at ho10; rw [← Ny174.out] at ho10)); have HO176 := Aside0.mk (Kd.R_lower ho10 (below_size (bw_ HB).out)); replace BK173 := bb_ BK173 hb; replace HB := bt_ HB hb; clear hb ho10; obtain ⟨Ao11, co11, eo11⟩ := Kd.R_slice HO176.out; subst eo11) | ((with_reducible refine gate_callee (f := 61) rfl ?_); refine ge_ 15 Try.func61 #[.int .i64 a0, .slice Ao11 y174.length co11] ?_; (with_reducible refine (spec_l01Code.calls k a0 _ _ y174 t177 _ ?side1 ?side2 A5.out).mono ?_); (case side1 => repeat (first | exact (Kd.R_reads' HO176.out).2.2 | (with_reducible refine Kd.C_alloc ?_ _) | (with_reducible refine Kd.C_drewN ?_ _) | (with_reducible refine Kd.C_drew ?_))); (case side2 => exact (Kd.R_reads' HO176.out).2.1); rintro e w12 ⟨rfl, hb⟩; refine ⟨_, rfl, ?_⟩; replace HO176 := Aside0.mk (Kd.R_below (ra_ HO176.out) hb); replace BK173 := bb_ BK173 hb; replace HB := bt_ HB hb; (try clear hb); (try clear hb2); (try clear hk); (try clear hi); have hcz13_0 : w12.cell? ⟨gb173, 0, none⟩ = some (.int .i64 a1_0) := cz_ BK173 0; have hcz13_1 : w12.cell? ⟨gb173, 1, none⟩ = some (.int .i64 a1_1) := cz_ BK173 1; have hcz13_2 : w12.cell? ⟨gb173, 2, none⟩ = some (.int .i64 a1_2) := cz_ BK173 2; have hcz13_3 : w12.cell? ⟨gb173, 3, none⟩ = some (.slice A1_3 l1_3.length c1_3) := cz_ BK173 3; have hfz13_0 := fz_ BK173 0; have hfz13_1 := fz_ BK173 1; have hfz13_2 := fz_ BK173 2; have hfz13_3 := fz_ BK173 3))
    go_meet
    case rel => exact ⟨_, (true), (by first | rfl | (simp; done) | (simp [*]; done) | (simp [wrap64]; done)), H', ⟨by first | omega | exact Nat.le_refl _⟩, bl_ BK173, bw_ HB⟩
   ·rw [if_neg c7] at H
    have c7b0 : decide ((l1_3.length : Int) < 1) = false := decide_eq_false c7
    have c7b1 : decide (l1_3.length < 1) = false := decide_eq_false (by omega)
    clear c7
    have H' := Aside0.mk H
    clear H
    have hcz14_0 : w4.cell? ⟨gb173, 0, none⟩ = some (.int .i64 a1_0) := cz_ BK173 0
    have hcz14_1 : w4.cell? ⟨gb173, 1, none⟩ = some (.int .i64 a1_1) := cz_ BK173 1
    have hcz14_2 : w4.cell? ⟨gb173, 2, none⟩ = some (.int .i64 a1_2) := cz_ BK173 2
    have hcz14_3 : w4.cell? ⟨gb173, 3, none⟩ = some (.slice A1_3 l1_3.length c1_3) := cz_ BK173 3
    have hfz14_0 := fz_ BK173 0
    have hfz14_1 := fz_ BK173 1
    have hfz14_2 := fz_ BK173 2
    have hfz14_3 := fz_ BK173 3
    go_wp2_with (first | ((with_reducible refine gate_dst (N := 14) rfl ?_); (try (refine gate_guard (by rfl) ?_; dsimp only)); refine Kd.R_lit k30 _ 30 ?hg (N := 14) ?hd (xs := ([(⟨a1_0, a1_1, a1_2⟩ : S30)] : List (S30))) (inner := [.int .i64 a1_0, .int .i64 a1_1, .int .i64 a1_2]) (ok := fun _ => True) (okp := fun _ => True) ?hr ?hp (fun _ hk => hk) trivial (Below.refl _ _) (Nat.le_refl _) (by simp) ?_; (case hd => rfl); (case hg => rfl); (case hr => first | (go_simp; done) | (go_simp; rfl)); (case hp => exact (Reps.c3 (show Kd.M k30 _ _ _ (⟨a1_0, a1_1, a1_2⟩ : S30) [.int .i64 a1_0, .int .i64 a1_1, .int .i64 a1_2] from (k30_mkM _ _ _ (⟨a1_0, a1_1, a1_2⟩ : S30) )) (Reps.none _ _))); intro v175 w15 ho16 hb hg_ hnew_; clear hg_ hnew_; (first | rw [← Ny174.out] at ho16 | (simp only [Int.reduceToNat] at ho16; rw [← Ny174.out] at ho16)); have HO176 := Aside0.mk (Kd.R_lower ho16 (below_size (bw_ HB).out)); replace BK173 := bb_ BK173 hb; replace HB := bt_ HB hb; clear hb ho16; obtain ⟨Ao17, co17, eo17⟩ := Kd.R_slice HO176.out; subst eo17) | ((with_reducible refine gate_callee (f := 61) rfl ?_); refine ge_ 15 Try.func61 #[.int .i64 a0, .slice Ao17 y174.length co17] ?_; (with_reducible refine (spec_l01Code.calls k a0 _ _ y174 t177 _ ?side1 ?side2 A5.out).mono ?_); (case side1 => repeat (first | exact (Kd.R_reads' HO176.out).2.2 | (with_reducible refine Kd.C_alloc ?_ _) | (with_reducible refine Kd.C_drewN ?_ _) | (with_reducible refine Kd.C_drew ?_))); (case side2 => exact (Kd.R_reads' HO176.out).2.1); rintro e w18 ⟨rfl, hb⟩; refine ⟨_, rfl, ?_⟩; replace HO176 := Aside0.mk (Kd.R_below (ra_ HO176.out) hb); replace BK173 := bb_ BK173 hb; replace HB := bt_ HB hb; (try clear hb); (try clear hb2); (try clear hk); (try clear hi); have hcz19_0 : w18.cell? ⟨gb173, 0, none⟩ = some (.int .i64 a1_0) := cz_ BK173 0; have hcz19_1 : w18.cell? ⟨gb173, 1, none⟩ = some (.int .i64 a1_1) := cz_ BK173 1; have hcz19_2 : w18.cell? ⟨gb173, 2, none⟩ = some (.int .i64 a1_2) := cz_ BK173 2; have hcz19_3 : w18.cell? ⟨gb173, 3, none⟩ = some (.slice A1_3 l1_3.length c1_3) := cz_ BK173 3; have hfz19_0 := fz_ BK173 0; have hfz19_1 := fz_ BK173 1; have hfz19_2 := fz_ BK173 2; have hfz19_3 := fz_ BK173 3))
    go_meet
    case rel => exact ⟨_, (decide ((l1_3.length : Int) > 64)), (by first | rfl | (simp; done) | (simp [*]; done) | (simp [wrap64]; done)), H', ⟨by first | omega | exact Nat.le_refl _⟩, bl_ BK173, bw_ HB⟩
  ·rw [if_neg c6] at H
   have c6b0 : (t177 == 0) = false := beq_eq_false_iff_ne.mpr c6
   have c6b1 : (t177 != 0) = true := bne_iff_ne.mpr c6
   (first | rw [c6b0] | (simp only [i64_w, i32_w]; rw [c6b0]) | skip)
   have H' := Aside0.mk H
   clear H
   have hcz20_0 : w4.cell? ⟨gb173, 0, none⟩ = some (.int .i64 a1_0) := cz_ BK173 0
   have hcz20_1 : w4.cell? ⟨gb173, 1, none⟩ = some (.int .i64 a1_1) := cz_ BK173 1
   have hcz20_2 : w4.cell? ⟨gb173, 2, none⟩ = some (.int .i64 a1_2) := cz_ BK173 2
   have hcz20_3 : w4.cell? ⟨gb173, 3, none⟩ = some (.slice A1_3 l1_3.length c1_3) := cz_ BK173 3
   have hfz20_0 := fz_ BK173 0
   have hfz20_1 := fz_ BK173 1
   have hfz20_2 := fz_ BK173 2
   have hfz20_3 := fz_ BK173 3
   go_wp2_with (first | ((with_reducible refine gate_dst (N := 14) rfl ?_); (try (refine gate_guard (by rfl) ?_; dsimp only)); refine Kd.R_lit k30 _ 30 ?hg (N := 14) ?hd (xs := ([(⟨a1_0, a1_1, a1_2⟩ : S30)] : List (S30))) (inner := [.int .i64 a1_0, .int .i64 a1_1, .int .i64 a1_2]) (ok := fun _ => True) (okp := fun _ => True) ?hr ?hp (fun _ hk => hk) trivial (Below.refl _ _) (Nat.le_refl _) (by simp) ?_; (case hd => rfl); (case hg => rfl); (case hr => first | (go_simp; done) | (go_simp; rfl)); (case hp => exact (Reps.c3 (show Kd.M k30 _ _ _ (⟨a1_0, a1_1, a1_2⟩ : S30) [.int .i64 a1_0, .int .i64 a1_1, .int .i64 a1_2] from (k30_mkM _ _ _ (⟨a1_0, a1_1, a1_2⟩ : S30) )) (Reps.none _ _))); intro v175 w21 ho22 hb hg_ hnew_; clear hg_ hnew_; (first | rw [← Ny174.out] at ho22 | (simp only [Int.reduceToNat] at ho22; rw [← Ny174.out] at ho22)); have HO176 := Aside0.mk (Kd.R_lower ho22 (below_size (bw_ HB).out)); replace BK173 := bb_ BK173 hb; replace HB := bt_ HB hb; clear hb ho22; obtain ⟨Ao23, co23, eo23⟩ := Kd.R_slice HO176.out; subst eo23) | ((with_reducible refine gate_callee (f := 61) rfl ?_); refine ge_ 15 Try.func61 #[.int .i64 a0, .slice Ao23 y174.length co23] ?_; (with_reducible refine (spec_l01Code.calls k a0 _ _ y174 t177 _ ?side1 ?side2 A5.out).mono ?_); (case side1 => repeat (first | exact (Kd.R_reads' HO176.out).2.2 | (with_reducible refine Kd.C_alloc ?_ _) | (with_reducible refine Kd.C_drewN ?_ _) | (with_reducible refine Kd.C_drew ?_))); (case side2 => exact (Kd.R_reads' HO176.out).2.1); rintro e w24 ⟨rfl, hb⟩; refine ⟨_, rfl, ?_⟩; replace HO176 := Aside0.mk (Kd.R_below (ra_ HO176.out) hb); replace BK173 := bb_ BK173 hb; replace HB := bt_ HB hb; (try clear hb); (try clear hb2); (try clear hk); (try clear hi)))
   go_meet
   case rel => exact ⟨_, (true), (by first | rfl | (simp; done) | (simp [*]; done) | (simp [wrap64]; done)), H', ⟨by first | omega | exact Nat.le_refl _⟩, bl_ BK173, bw_ HB⟩
 case rest =>
  clear HC3
  try clear c1
  try clear p2
  try clear c3
  try clear c6
  try clear c6b0
  try clear c6b1
  try clear c7
  try clear c7b0
  try clear c7b1
  try clear hcz13_0
  try clear hcz13_1
  try clear hcz13_2
  try clear hcz13_3
  try clear hcz14_0
  try clear hcz14_1
  try clear hcz14_2
  try clear hcz14_3
  try clear hcz19_0
  try clear hcz19_1
  try clear hcz19_2
  try clear hcz19_3
  try clear hcz20_0
  try clear hcz20_1
  try clear hcz20_2
  try clear hcz20_3
  try clear hcz8_0
  try clear hcz8_1
  try clear hcz8_2
  try clear hcz8_3
  try clear hfz13_0
  try clear hfz13_1
  try clear hfz13_2
  try clear hfz13_3
  try clear hfz14_0
  try clear hfz14_1
  try clear hfz14_2
  try clear hfz14_3
  try clear hfz19_0
  try clear hfz19_1
  try clear hfz19_2
  try clear hfz19_3
  try clear hfz20_0
  try clear hfz20_1
  try clear hfz20_2
  try clear hfz20_3
  try clear hfz8_0
  try clear hfz8_1
  try clear hfz8_2
  try clear hfz8_3
  obtain ⟨kq, x28_2, rfl, HA, HJ2, BK173, HB⟩ := hcut
  cases kq with
  | zero => exact absurd HA.out (by simp [spec_l08Is.j0])
  | succ kj2 =>
   have H := HA.out
   clear HA
   simp only [spec_l08Is.j0] at H
   by_cases c25 : x28_2 = true
   ·subst c25
    have H1 : (some false) = some r := by rw [if_pos rfl] at H; exact H
    clear H
    have H := H1
    clear H1
    obtain rfl := Option.some.inj H
    go_wp2
    go_ret
    exact ⟨by first | rfl | (simp [errW_none, errW_some] <;> rfl) | (simp [*, errW_none, errW_some] <;> rfl), by repeat (first | (with_reducible first | exact HB.out | apply below_alloc | apply pw_below_drewN | apply below_drew1 | refine below_set ?_ GE173.out) | exact HB.out)⟩
   ·replace c25 := Bool.eq_false_iff.mpr c25
    subst c25
    have H1 : (spec_l08Is.l0 kj2 a0 a1_0 0 a1_0 a1_1 a1_2 l1_3) = some r := by rw [if_neg (show ¬ (false = true) by decide)] at H; exact H
    clear H
    have H := H1
    clear H1
    have H' := Aside0.mk H
    clear H
    have hcz26_0 : wc.cell? ⟨gb173, 0, none⟩ = some (.int .i64 a1_0) := cz_ BK173 0
    have hcz26_1 : wc.cell? ⟨gb173, 1, none⟩ = some (.int .i64 a1_1) := cz_ BK173 1
    have hcz26_2 : wc.cell? ⟨gb173, 2, none⟩ = some (.int .i64 a1_2) := cz_ BK173 2
    have hcz26_3 : wc.cell? ⟨gb173, 3, none⟩ = some (.slice A1_3 l1_3.length c1_3) := cz_ BK173 3
    have hfz26_0 := fz_ BK173 0
    have hfz26_1 := fz_ BK173 1
    have hfz26_2 := fz_ BK173 2
    have hfz26_3 := fz_ BK173 3
    go_wp2
    go_loopg [5, 6] kj2 (fun kq v5 v6 w' => ∃ (x5_2 : Int) (x6_2 : Int), v5 = .int .i64 x5_2 ∧ v6 = .int .i64 x6_2 ∧ Aside0 (spec_l08Is.l0 kq a0 x5_2 x6_2 a1_0 a1_1 a1_2 l1_3 = some r) ∧ Aside0 (kq ≤ kj2) ∧ Aside0 (w'.heap[gb173]? = some (.cells #[.int .i64 a1_0, .int .i64 a1_1, .int .i64 a1_2, (.slice A1_3 l1_3.length c1_3)] 33 (0, 0))) ∧ Aside0 (Below w.heap.size w w'))
    case atStart => exact ⟨(a1_0), (0), (by first | rfl | (simp; done) | (simp [*]; done) | (simp [wrap64]; done)), (by first | rfl | (simp; done) | (simp [*]; done) | (simp [wrap64]; done)), H', ⟨Nat.le_refl _⟩, bl_ BK173, bw_ HB⟩
    case round =>
     clear H'
     try clear c1
     try clear c2
     try clear p2
     try clear c3
     try clear c6
     try clear c6b0
     try clear c6b1
     try clear c7
     try clear c7b0
     try clear c7b1
     try clear c25
     try clear hcz13_0
     try clear hcz13_1
     try clear hcz13_2
     try clear hcz13_3
     try clear hcz14_0
     try clear hcz14_1
     try clear hcz14_2
     try clear hcz14_3
     try clear hcz19_0
     try clear hcz19_1
     try clear hcz19_2
     try clear hcz19_3
     try clear hcz20_0
     try clear hcz20_1
     try clear hcz20_2
     try clear hcz20_3
     try clear hcz26_0
     try clear hcz26_1
     try clear hcz26_2
     try clear hcz26_3
     try clear hcz8_0
     try clear hcz8_1
     try clear hcz8_2
     try clear hcz8_3
     try clear hfz13_0
     try clear hfz13_1
     try clear hfz13_2
     try clear hfz13_3
     try clear hfz14_0
     try clear hfz14_1
     try clear hfz14_2
     try clear hfz14_3
     try clear hfz19_0
     try clear hfz19_1
     try clear hfz19_2
     try clear hfz19_3
     try clear hfz20_0
     try clear hfz20_1
     try clear hfz20_2
     try clear hfz20_3
     try clear hfz26_0
     try clear hfz26_1
     try clear hfz26_2
     try clear hfz26_3
     try clear hfz8_0
     try clear hfz8_1
     try clear hfz8_2
     try clear hfz8_3
     try clear p2
     obtain ⟨x5_2, x6_2, rfl, rfl, HA, HK2, BK173, HB⟩ := hrel
     cases gk with
     | zero => exact absurd HA.out (by simp [spec_l08Is.l0])
     | succ k2 =>
      have H := HA.out
      clear HA
      simp only [spec_l08Is.l0] at H
      by_cases c27 : x6_2 < (l1_3.length : Int)
      ·rw [if_pos c27] at H
       have c27b0 : decide (x6_2 < (l1_3.length : Int)) = true := decide_eq_true c27
       clear c27
       by_cases c28 : 0 ≤ x6_2
       ·rw [if_pos c28] at H
        have c28b0 : decide (0 ≤ x6_2) = true := decide_eq_true c28
        clear c28
        have HC29 := Aside0.mk H
        clear H
        have hcz30_0 : wr.cell? ⟨gb173, 0, none⟩ = some (.int .i64 a1_0) := cz_ BK173 0
        have hcz30_1 : wr.cell? ⟨gb173, 1, none⟩ = some (.int .i64 a1_1) := cz_ BK173 1
        have hcz30_2 : wr.cell? ⟨gb173, 2, none⟩ = some (.int .i64 a1_2) := cz_ BK173 2
        have hcz30_3 : wr.cell? ⟨gb173, 3, none⟩ = some (.slice A1_3 l1_3.length c1_3) := cz_ BK173 3
        have hfz30_0 := fz_ BK173 0
        have hfz30_1 := fz_ BK173 1
        have hfz30_2 := fz_ BK173 2
        have hfz30_3 := fz_ BK173 3
        have p178 : 0 ≤ (x6_2 : Int) := of_decide_eq_true (by first | (with_reducible assumption) | assumption)
        have q178 : x6_2 < (l1_3.length : Int) := of_decide_eq_true (by first | (with_reducible assumption) | assumption)
        obtain ⟨ad178, e178, hx178_0, hx178_1, hx178_2, hx178_3⟩ := at_T63 HR1_3.out x6_2 p178 q178
        cases e178
        replace hx178_0 := clTr HB.out hx178_0
        replace hx178_1 := clTr HB.out hx178_1
        replace hx178_2 := clTr HB.out hx178_2
        replace hx178_3 := clTr HB.out hx178_3
        replace p178 := eq_true p178
        replace q178 := eq_true q178
        go_upto_region 8 with (first | ((with_reducible refine gate_dst (N := 7) rfl ?_); (try (refine gate_guard (by rfl) ?_; dsimp only)); refine bx_ 7 #[.int .i64 0, .int .i64 0, .int .i64 0, .int .i64 0] 63 ?_; intro gb179 hg w31 hbox hb; have BK179 := Aside0.mk (hbox); have GW179 := bs_ HB hg; have GE179 := bs_ HB hg; have NB173_179 := bm_ BK173 hg; have NB179_173 := bn_ BK173 hg; replace BK173 := bb_ BK173 hb; replace HB := bt_ HB hb; clear hb hbox hg; have hnb32 := NB179_173.out; have hnc32 := NB173_179.out; have hcz33_0 : w31.cell? ⟨gb179, 0, none⟩ = some (.int .i64 0) := cz_ BK179 0; have hcz33_1 : w31.cell? ⟨gb179, 1, none⟩ = some (.int .i64 0) := cz_ BK179 1; have hcz33_2 : w31.cell? ⟨gb179, 2, none⟩ = some (.int .i64 0) := cz_ BK179 2; have hcz33_3 : w31.cell? ⟨gb179, 3, none⟩ = some (.int .i64 0) := cz_ BK179 3; have hfz33_0 := fz_ BK179 0; have hfz33_1 := fz_ BK179 1; have hfz33_2 := fz_ BK179 2; have hfz33_3 := fz_ BK179 3))
        (try simp only [Act.put, lstS, lstZ, lstC])
        go_cut [63] (fun v63 wc => ∃ (kq : Nat) (x63_28 : Bool), v63 = .bool x63_28 ∧ Aside0 (spec_l08Is.j2 kq a0 x5_2 x6_2 x63_28 a1_0 a1_1 a1_2 l1_3 ((rd_T63 l1_3 x6_2).f0.f0) ((rd_T63 l1_3 x6_2).f0.f1) ((rd_T63 l1_3 x6_2).f0.f2) ((rd_T63 l1_3 x6_2).f1) = some r) ∧ Aside0 (kq ≤ k2) ∧ Aside0 (wc.heap[gb173]? = some (.cells #[.int .i64 a1_0, .int .i64 a1_1, .int .i64 a1_2, (.slice (some ad178) l1_3.length c1_3)] 33 (0, 0))) ∧ Aside0 (wc.heap[gb179]? = some (.cells #[.int .i64 ((rd_T63 l1_3 x6_2).f0.f0), .int .i64 ((rd_T63 l1_3 x6_2).f0.f1), .int .i64 ((rd_T63 l1_3 x6_2).f0.f2), .int .i64 ((rd_T63 l1_3 x6_2).f1)] 63 (0, 0))) ∧ Aside0 (Below w.heap.size w wc))
        case first =>
         have H := HC29.out
         clear HC29
         replace H := Option.bind_eq_some_iff.mp H
         obtain ⟨t180, A340, H⟩ := H
         have A34 := Aside0.mk A340
         clear A340
         by_cases c35 : t180 = true
         ·subst c35
          have H1 : ((spec_l01Holds.f k2 a0 a1_0 a1_1 a1_2 ((rd_T63 l1_3 x6_2).f0.f0) ((rd_T63 l1_3 x6_2).f0.f1) ((rd_T63 l1_3 x6_2).f0.f2)).bind fun t181 => (if t181 = true then ((spec_l01In.f ((rd_T63 l1_3 x6_2).f1) (-1000000) 1000000).bind fun t182 => (spec_l08Is.j2 k2 a0 x5_2 x6_2 (!t182) a1_0 a1_1 a1_2 l1_3 ((rd_T63 l1_3 x6_2).f0.f0) ((rd_T63 l1_3 x6_2).f0.f1) ((rd_T63 l1_3 x6_2).f0.f2) ((rd_T63 l1_3 x6_2).f1))) else (spec_l08Is.j2 k2 a0 x5_2 x6_2 true a1_0 a1_1 a1_2 l1_3 ((rd_T63 l1_3 x6_2).f0.f0) ((rd_T63 l1_3 x6_2).f0.f1) ((rd_T63 l1_3 x6_2).f0.f2) ((rd_T63 l1_3 x6_2).f1)))) = some r := by rw [if_pos rfl] at H; exact H
          clear H
          have H := H1
          clear H1
          replace H := Option.bind_eq_some_iff.mp H
          obtain ⟨t181, A360, H⟩ := H
          have A36 := Aside0.mk A360
          clear A360
          by_cases c37 : t181 = true
          ·subst c37
           have H1 : ((spec_l01In.f ((rd_T63 l1_3 x6_2).f1) (-1000000) 1000000).bind fun t182 => (spec_l08Is.j2 k2 a0 x5_2 x6_2 (!t182) a1_0 a1_1 a1_2 l1_3 ((rd_T63 l1_3 x6_2).f0.f0) ((rd_T63 l1_3 x6_2).f0.f1) ((rd_T63 l1_3 x6_2).f0.f2) ((rd_T63 l1_3 x6_2).f1))) = some r := by rw [if_pos rfl] at H; exact H
           clear H
           have H := H1
           clear H1
           replace H := Option.bind_eq_some_iff.mp H
           obtain ⟨t182, A380, H⟩ := H
           have A38 := Aside0.mk A380
           clear A380
           have H' := Aside0.mk H
           clear H
           have hnb39 := NB179_173.out
           have hnc39 := NB173_179.out
           have hcz40_0 : w31.cell? ⟨gb179, 0, none⟩ = some (.int .i64 0) := cz_ BK179 0
           have hcz40_1 : w31.cell? ⟨gb179, 1, none⟩ = some (.int .i64 0) := cz_ BK179 1
           have hcz40_2 : w31.cell? ⟨gb179, 2, none⟩ = some (.int .i64 0) := cz_ BK179 2
           have hcz40_3 : w31.cell? ⟨gb179, 3, none⟩ = some (.int .i64 0) := cz_ BK179 3
           have hfz40_0 := fz_ BK179 0
           have hfz40_1 := fz_ BK179 1
           have hfz40_2 := fz_ BK179 2
           have hfz40_3 := fz_ BK179 3
           go_wp2_with (first | ((with_reducible refine gate_callee (f := 53) rfl ?_); refine ge_ 47 Try.func53 #[.int .i64 a0, .agg #[.int .i64 ((rd_T63 l1_3 x6_2).f0.f0), .int .i64 ((rd_T63 l1_3 x6_2).f0.f1), .int .i64 ((rd_T63 l1_3 x6_2).f0.f2)]] ?_; (with_reducible refine (spec_l01Is.calls k2 a0 ((rd_T63 l1_3 x6_2).f0.f0) ((rd_T63 l1_3 x6_2).f0.f1) ((rd_T63 l1_3 x6_2).f0.f2) true _ A34.out).mono ?_); rintro e w41 ⟨rfl, hb⟩; refine ⟨_, rfl, ?_⟩; replace BK173 := fb_ BK173 NB173_179 hb; replace BK179 := Aside0.mk (blk_below (g := gb179) (o := .cells #[.int .i64 ((rd_T63 l1_3 x6_2).f0.f0), .int .i64 ((rd_T63 l1_3 x6_2).f0.f1), .int .i64 ((rd_T63 l1_3 x6_2).f0.f2), .int .i64 ((rd_T63 l1_3 x6_2).f1)] 63 (0, 0)) (by (with_reducible repeat first | apply blk_drewN | apply blk_drew | apply blk_alloc); refine blk_put (cs := #[.int .i64 ((rd_T63 l1_3 x6_2).f0.f0), .int .i64 ((rd_T63 l1_3 x6_2).f0.f1), .int .i64 ((rd_T63 l1_3 x6_2).f0.f2), .int .i64 0]) ?_ 3 _ rfl; (with_reducible repeat first | apply blk_drewN | apply blk_drew | apply blk_alloc); refine blk_put (cs := #[.int .i64 ((rd_T63 l1_3 x6_2).f0.f0), .int .i64 ((rd_T63 l1_3 x6_2).f0.f1), .int .i64 0, .int .i64 0]) ?_ 2 _ rfl; (with_reducible repeat first | apply blk_drewN | apply blk_drew | apply blk_alloc); refine blk_put (cs := #[.int .i64 ((rd_T63 l1_3 x6_2).f0.f0), .int .i64 0, .int .i64 0, .int .i64 0]) ?_ 1 _ rfl; (with_reducible repeat first | apply blk_drewN | apply blk_drew | apply blk_alloc); refine blk_put (cs := #[.int .i64 0, .int .i64 0, .int .i64 0, .int .i64 0]) ?_ 0 _ rfl; (with_reducible repeat first | apply blk_drewN | apply blk_drew | apply blk_alloc); exact BK179.out) hb); replace HB := bt_ HB hb; (try clear hb); (try clear hb2); (try clear hk); (try clear hi); have hcz42_0 : w41.cell? ⟨gb173, 0, none⟩ = some (.int .i64 a1_0) := cz_ BK173 0; have hcz42_1 : w41.cell? ⟨gb173, 1, none⟩ = some (.int .i64 a1_1) := cz_ BK173 1; have hcz42_2 : w41.cell? ⟨gb173, 2, none⟩ = some (.int .i64 a1_2) := cz_ BK173 2; have hcz42_3 : w41.cell? ⟨gb173, 3, none⟩ = some (.slice (some ad178) l1_3.length c1_3) := cz_ BK173 3; have hfz42_0 := fz_ BK173 0; have hfz42_1 := fz_ BK173 1; have hfz42_2 := fz_ BK173 2; have hfz42_3 := fz_ BK173 3; have hcz43_0 : w41.cell? ⟨gb179, 0, none⟩ = some (.int .i64 ((rd_T63 l1_3 x6_2).f0.f0)) := cz_ BK179 0; have hcz43_1 : w41.cell? ⟨gb179, 1, none⟩ = some (.int .i64 ((rd_T63 l1_3 x6_2).f0.f1)) := cz_ BK179 1; have hcz43_2 : w41.cell? ⟨gb179, 2, none⟩ = some (.int .i64 ((rd_T63 l1_3 x6_2).f0.f2)) := cz_ BK179 2; have hcz43_3 : w41.cell? ⟨gb179, 3, none⟩ = some (.int .i64 ((rd_T63 l1_3 x6_2).f1)) := cz_ BK179 3; have hfz43_0 := fz_ BK179 0; have hfz43_1 := fz_ BK179 1; have hfz43_2 := fz_ BK179 2; have hfz43_3 := fz_ BK179 3) | (go_at_call 54; (with_reducible refine (spec_l01Holds.calls k2 a0 a1_0 a1_1 a1_2 ((rd_T63 l1_3 x6_2).f0.f0) ((rd_T63 l1_3 x6_2).f0.f1) ((rd_T63 l1_3 x6_2).f0.f2) true _ A36.out).mono ?_); rintro e w44 ⟨rfl, hb⟩; replace BK173 := bb_ BK173 hb; replace BK179 := bb_ BK179 hb; replace HB := bt_ HB hb; (try clear hb); (try clear hb2); (try clear hk); (try clear hi); have hcz45_0 : w44.cell? ⟨gb179, 0, none⟩ = some (.int .i64 ((rd_T63 l1_3 x6_2).f0.f0)) := cz_ BK179 0; have hcz45_1 : w44.cell? ⟨gb179, 1, none⟩ = some (.int .i64 ((rd_T63 l1_3 x6_2).f0.f1)) := cz_ BK179 1; have hcz45_2 : w44.cell? ⟨gb179, 2, none⟩ = some (.int .i64 ((rd_T63 l1_3 x6_2).f0.f2)) := cz_ BK179 2; have hcz45_3 : w44.cell? ⟨gb179, 3, none⟩ = some (.int .i64 ((rd_T63 l1_3 x6_2).f1)) := cz_ BK179 3; have hfz45_0 := fz_ BK179 0; have hfz45_1 := fz_ BK179 1; have hfz45_2 := fz_ BK179 2; have hfz45_3 := fz_ BK179 3) | (go_at_call 62; (with_reducible refine (spec_l01In.calls ((rd_T63 l1_3 x6_2).f1) (-1000000) 1000000 t182 _ A38.out).mono ?_); rintro e w' ⟨rfl, ⟨nd, rfl⟩⟩))
           go_meet
           case rel => exact ⟨_, (!t182), (by first | rfl | (simp; done) | (simp [*]; done) | (simp [wrap64]; done)), H', ⟨by have := HJ2.out; have := HK2.out; first | omega | exact Nat.le_refl _⟩, bl_ BK173, bl_ BK179, bw_ HB⟩
          ·replace c37 := Bool.eq_false_iff.mpr c37
           subst c37
           have H1 : (spec_l08Is.j2 k2 a0 x5_2 x6_2 true a1_0 a1_1 a1_2 l1_3 ((rd_T63 l1_3 x6_2).f0.f0) ((rd_T63 l1_3 x6_2).f0.f1) ((rd_T63 l1_3 x6_2).f0.f2) ((rd_T63 l1_3 x6_2).f1)) = some r := by rw [if_neg (show ¬ (false = true) by decide)] at H; exact H
           clear H
           have H := H1
           clear H1
           have H' := Aside0.mk H
           clear H
           have hnb46 := NB179_173.out
           have hnc46 := NB173_179.out
           have hcz47_0 : w31.cell? ⟨gb179, 0, none⟩ = some (.int .i64 0) := cz_ BK179 0
           have hcz47_1 : w31.cell? ⟨gb179, 1, none⟩ = some (.int .i64 0) := cz_ BK179 1
           have hcz47_2 : w31.cell? ⟨gb179, 2, none⟩ = some (.int .i64 0) := cz_ BK179 2
           have hcz47_3 : w31.cell? ⟨gb179, 3, none⟩ = some (.int .i64 0) := cz_ BK179 3
           have hfz47_0 := fz_ BK179 0
           have hfz47_1 := fz_ BK179 1
           have hfz47_2 := fz_ BK179 2
           have hfz47_3 := fz_ BK179 3
           go_wp2_with (first | ((with_reducible refine gate_callee (f := 53) rfl ?_); refine ge_ 47 Try.func53 #[.int .i64 a0, .agg #[.int .i64 ((rd_T63 l1_3 x6_2).f0.f0), .int .i64 ((rd_T63 l1_3 x6_2).f0.f1), .int .i64 ((rd_T63 l1_3 x6_2).f0.f2)]] ?_; (with_reducible refine (spec_l01Is.calls k2 a0 ((rd_T63 l1_3 x6_2).f0.f0) ((rd_T63 l1_3 x6_2).f0.f1) ((rd_T63 l1_3 x6_2).f0.f2) true _ A34.out).mono ?_); rintro e w48 ⟨rfl, hb⟩; refine ⟨_, rfl, ?_⟩; replace BK173 := fb_ BK173 NB173_179 hb; replace BK179 := Aside0.mk (blk_below (g := gb179) (o := .cells #[.int .i64 ((rd_T63 l1_3 x6_2).f0.f0), .int .i64 ((rd_T63 l1_3 x6_2).f0.f1), .int .i64 ((rd_T63 l1_3 x6_2).f0.f2), .int .i64 ((rd_T63 l1_3 x6_2).f1)] 63 (0, 0)) (by (with_reducible repeat first | apply blk_drewN | apply blk_drew | apply blk_alloc); refine blk_put (cs := #[.int .i64 ((rd_T63 l1_3 x6_2).f0.f0), .int .i64 ((rd_T63 l1_3 x6_2).f0.f1), .int .i64 ((rd_T63 l1_3 x6_2).f0.f2), .int .i64 0]) ?_ 3 _ rfl; (with_reducible repeat first | apply blk_drewN | apply blk_drew | apply blk_alloc); refine blk_put (cs := #[.int .i64 ((rd_T63 l1_3 x6_2).f0.f0), .int .i64 ((rd_T63 l1_3 x6_2).f0.f1), .int .i64 0, .int .i64 0]) ?_ 2 _ rfl; (with_reducible repeat first | apply blk_drewN | apply blk_drew | apply blk_alloc); refine blk_put (cs := #[.int .i64 ((rd_T63 l1_3 x6_2).f0.f0), .int .i64 0, .int .i64 0, .int .i64 0]) ?_ 1 _ rfl; (with_reducible repeat first | apply blk_drewN | apply blk_drew | apply blk_alloc); refine blk_put (cs := #[.int .i64 0, .int .i64 0, .int .i64 0, .int .i64 0]) ?_ 0 _ rfl; (with_reducible repeat first | apply blk_drewN | apply blk_drew | apply blk_alloc); exact BK179.out) hb); replace HB := bt_ HB hb; (try clear hb); (try clear hb2); (try clear hk); (try clear hi); have hcz49_0 : w48.cell? ⟨gb173, 0, none⟩ = some (.int .i64 a1_0) := cz_ BK173 0; have hcz49_1 : w48.cell? ⟨gb173, 1, none⟩ = some (.int .i64 a1_1) := cz_ BK173 1; have hcz49_2 : w48.cell? ⟨gb173, 2, none⟩ = some (.int .i64 a1_2) := cz_ BK173 2; have hcz49_3 : w48.cell? ⟨gb173, 3, none⟩ = some (.slice (some ad178) l1_3.length c1_3) := cz_ BK173 3; have hfz49_0 := fz_ BK173 0; have hfz49_1 := fz_ BK173 1; have hfz49_2 := fz_ BK173 2; have hfz49_3 := fz_ BK173 3; have hcz50_0 : w48.cell? ⟨gb179, 0, none⟩ = some (.int .i64 ((rd_T63 l1_3 x6_2).f0.f0)) := cz_ BK179 0; have hcz50_1 : w48.cell? ⟨gb179, 1, none⟩ = some (.int .i64 ((rd_T63 l1_3 x6_2).f0.f1)) := cz_ BK179 1; have hcz50_2 : w48.cell? ⟨gb179, 2, none⟩ = some (.int .i64 ((rd_T63 l1_3 x6_2).f0.f2)) := cz_ BK179 2; have hcz50_3 : w48.cell? ⟨gb179, 3, none⟩ = some (.int .i64 ((rd_T63 l1_3 x6_2).f1)) := cz_ BK179 3; have hfz50_0 := fz_ BK179 0; have hfz50_1 := fz_ BK179 1; have hfz50_2 := fz_ BK179 2; have hfz50_3 := fz_ BK179 3) | (go_at_call 54; (with_reducible refine (spec_l01Holds.calls k2 a0 a1_0 a1_1 a1_2 ((rd_T63 l1_3 x6_2).f0.f0) ((rd_T63 l1_3 x6_2).f0.f1) ((rd_T63 l1_3 x6_2).f0.f2) false _ A36.out).mono ?_); rintro e w51 ⟨rfl, hb⟩; replace BK173 := bb_ BK173 hb; replace BK179 := bb_ BK179 hb; replace HB := bt_ HB hb; (try clear hb); (try clear hb2); (try clear hk); (try clear hi)))
           go_meet
           case rel => exact ⟨_, (true), (by first | rfl | (simp; done) | (simp [*]; done) | (simp [wrap64]; done)), H', ⟨by have := HJ2.out; have := HK2.out; first | omega | exact Nat.le_refl _⟩, bl_ BK173, bl_ BK179, bw_ HB⟩
         ·replace c35 := Bool.eq_false_iff.mpr c35
          subst c35
          have H1 : (spec_l08Is.j2 k2 a0 x5_2 x6_2 true a1_0 a1_1 a1_2 l1_3 ((rd_T63 l1_3 x6_2).f0.f0) ((rd_T63 l1_3 x6_2).f0.f1) ((rd_T63 l1_3 x6_2).f0.f2) ((rd_T63 l1_3 x6_2).f1)) = some r := by rw [if_neg (show ¬ (false = true) by decide)] at H; exact H
          clear H
          have H := H1
          clear H1
          have H' := Aside0.mk H
          clear H
          have hnb52 := NB179_173.out
          have hnc52 := NB173_179.out
          have hcz53_0 : w31.cell? ⟨gb179, 0, none⟩ = some (.int .i64 0) := cz_ BK179 0
          have hcz53_1 : w31.cell? ⟨gb179, 1, none⟩ = some (.int .i64 0) := cz_ BK179 1
          have hcz53_2 : w31.cell? ⟨gb179, 2, none⟩ = some (.int .i64 0) := cz_ BK179 2
          have hcz53_3 : w31.cell? ⟨gb179, 3, none⟩ = some (.int .i64 0) := cz_ BK179 3
          have hfz53_0 := fz_ BK179 0
          have hfz53_1 := fz_ BK179 1
          have hfz53_2 := fz_ BK179 2
          have hfz53_3 := fz_ BK179 3
          go_wp2_with (first | ((with_reducible refine gate_callee (f := 53) rfl ?_); refine ge_ 47 Try.func53 #[.int .i64 a0, .agg #[.int .i64 ((rd_T63 l1_3 x6_2).f0.f0), .int .i64 ((rd_T63 l1_3 x6_2).f0.f1), .int .i64 ((rd_T63 l1_3 x6_2).f0.f2)]] ?_; (with_reducible refine (spec_l01Is.calls k2 a0 ((rd_T63 l1_3 x6_2).f0.f0) ((rd_T63 l1_3 x6_2).f0.f1) ((rd_T63 l1_3 x6_2).f0.f2) false _ A34.out).mono ?_); rintro e w54 ⟨rfl, hb⟩; refine ⟨_, rfl, ?_⟩; replace BK173 := fb_ BK173 NB173_179 hb; replace BK179 := Aside0.mk (blk_below (g := gb179) (o := .cells #[.int .i64 ((rd_T63 l1_3 x6_2).f0.f0), .int .i64 ((rd_T63 l1_3 x6_2).f0.f1), .int .i64 ((rd_T63 l1_3 x6_2).f0.f2), .int .i64 ((rd_T63 l1_3 x6_2).f1)] 63 (0, 0)) (by (with_reducible repeat first | apply blk_drewN | apply blk_drew | apply blk_alloc); refine blk_put (cs := #[.int .i64 ((rd_T63 l1_3 x6_2).f0.f0), .int .i64 ((rd_T63 l1_3 x6_2).f0.f1), .int .i64 ((rd_T63 l1_3 x6_2).f0.f2), .int .i64 0]) ?_ 3 _ rfl; (with_reducible repeat first | apply blk_drewN | apply blk_drew | apply blk_alloc); refine blk_put (cs := #[.int .i64 ((rd_T63 l1_3 x6_2).f0.f0), .int .i64 ((rd_T63 l1_3 x6_2).f0.f1), .int .i64 0, .int .i64 0]) ?_ 2 _ rfl; (with_reducible repeat first | apply blk_drewN | apply blk_drew | apply blk_alloc); refine blk_put (cs := #[.int .i64 ((rd_T63 l1_3 x6_2).f0.f0), .int .i64 0, .int .i64 0, .int .i64 0]) ?_ 1 _ rfl; (with_reducible repeat first | apply blk_drewN | apply blk_drew | apply blk_alloc); refine blk_put (cs := #[.int .i64 0, .int .i64 0, .int .i64 0, .int .i64 0]) ?_ 0 _ rfl; (with_reducible repeat first | apply blk_drewN | apply blk_drew | apply blk_alloc); exact BK179.out) hb); replace HB := bt_ HB hb; (try clear hb); (try clear hb2); (try clear hk); (try clear hi)))
          go_meet
          case rel => exact ⟨_, (true), (by first | rfl | (simp; done) | (simp [*]; done) | (simp [wrap64]; done)), H', ⟨by have := HJ2.out; have := HK2.out; first | omega | exact Nat.le_refl _⟩, bl_ BK173, bl_ BK179, bw_ HB⟩
        case rest =>
         clear HC29
         try clear c1
         try clear p1
         try clear q1
         try clear hx1
         try clear c2
         try clear p2
         try clear c3
         try clear c4
         try clear c5
         try clear c6
         try clear c6b0
         try clear c6b1
         try clear c7
         try clear c7b0
         try clear c7b1
         try clear p17
         try clear q17
         try clear hx17
         try clear c25
         try clear c27
         try clear c27b0
         try clear c28
         try clear c28b0
         try clear c32
         try clear c34
         try clear c35
         try clear c37
         try clear c39
         try clear c46
         try clear c52
         try clear c53
         try clear hcz13_0
         try clear hcz13_1
         try clear hcz13_2
         try clear hcz13_3
         try clear hcz14_0
         try clear hcz14_1
         try clear hcz14_2
         try clear hcz14_3
         try clear hcz19_0
         try clear hcz19_1
         try clear hcz19_2
         try clear hcz19_3
         try clear hcz20_0
         try clear hcz20_1
         try clear hcz20_2
         try clear hcz20_3
         try clear hcz26_0
         try clear hcz26_1
         try clear hcz26_2
         try clear hcz26_3
         try clear hcz30_0
         try clear hcz30_1
         try clear hcz30_2
         try clear hcz30_3
         try clear hcz33_0
         try clear hcz33_1
         try clear hcz33_2
         try clear hcz33_3
         try clear hcz40_0
         try clear hcz40_1
         try clear hcz40_2
         try clear hcz40_3
         try clear hcz42_0
         try clear hcz42_1
         try clear hcz42_2
         try clear hcz42_3
         try clear hcz43_0
         try clear hcz43_1
         try clear hcz43_2
         try clear hcz43_3
         try clear hcz45_0
         try clear hcz45_1
         try clear hcz45_2
         try clear hcz45_3
         try clear hcz47_0
         try clear hcz47_1
         try clear hcz47_2
         try clear hcz47_3
         try clear hcz49_0
         try clear hcz49_1
         try clear hcz49_2
         try clear hcz49_3
         try clear hcz50_0
         try clear hcz50_1
         try clear hcz50_2
         try clear hcz50_3
         try clear hcz53_0
         try clear hcz53_1
         try clear hcz53_2
         try clear hcz53_3
         try clear hcz8_0
         try clear hcz8_1
         try clear hcz8_2
         try clear hcz8_3
         try clear hfz13_0
         try clear hfz13_1
         try clear hfz13_2
         try clear hfz13_3
         try clear hfz14_0
         try clear hfz14_1
         try clear hfz14_2
         try clear hfz14_3
         try clear hfz19_0
         try clear hfz19_1
         try clear hfz19_2
         try clear hfz19_3
         try clear hfz20_0
         try clear hfz20_1
         try clear hfz20_2
         try clear hfz20_3
         try clear hfz26_0
         try clear hfz26_1
         try clear hfz26_2
         try clear hfz26_3
         try clear hfz30_0
         try clear hfz30_1
         try clear hfz30_2
         try clear hfz30_3
         try clear hfz33_0
         try clear hfz33_1
         try clear hfz33_2
         try clear hfz33_3
         try clear hfz40_0
         try clear hfz40_1
         try clear hfz40_2
         try clear hfz40_3
         try clear hfz42_0
         try clear hfz42_1
         try clear hfz42_2
         try clear hfz42_3
         try clear hfz43_0
         try clear hfz43_1
         try clear hfz43_2
         try clear hfz43_3
         try clear hfz45_0
         try clear hfz45_1
         try clear hfz45_2
         try clear hfz45_3
         try clear hfz47_0
         try clear hfz47_1
         try clear hfz47_2
         try clear hfz47_3
         try clear hfz49_0
         try clear hfz49_1
         try clear hfz49_2
         try clear hfz49_3
         try clear hfz50_0
         try clear hfz50_1
         try clear hfz50_2
         try clear hfz50_3
         try clear hfz53_0
         try clear hfz53_1
         try clear hfz53_2
         try clear hfz53_3
         try clear hfz8_0
         try clear hfz8_1
         try clear hfz8_2
         try clear hfz8_3
         try clear hx178_0
         try clear hx178_1
         try clear hx178_2
         try clear hx178_3
         try clear p178
         try clear p2
         try clear q178
         obtain ⟨kq, x63_28, rfl, HA, HJ28, BK173, BK179, HB⟩ := hcut
         cases kq with
         | zero => exact absurd HA.out (by simp [spec_l08Is.j2])
         | succ kj28 =>
          have H := HA.out
          clear HA
          simp only [spec_l08Is.j2] at H
          by_cases c55 : x63_28 = true
          ·subst c55
           have H1 : (some false) = some r := by rw [if_pos rfl] at H; exact H
           clear H
           have H := H1
           clear H1
           obtain rfl := Option.some.inj H
           go_wp2
           go_ret
           exact ⟨by first | rfl | (simp [errW_none, errW_some] <;> rfl) | (simp [*, errW_none, errW_some] <;> rfl), by repeat (first | (with_reducible first | exact HB.out | apply below_alloc | apply pw_below_drewN | apply below_drew1 | refine below_set ?_ GE173.out | refine below_set ?_ GE179.out) | exact HB.out)⟩
          ·replace c55 := Bool.eq_false_iff.mpr c55
           subst c55
           have H1 : (if x6_2 > 0 then (if 0 ≤ (wrap64 (x6_2 - 1)) then (if (wrap64 (x6_2 - 1)) < (l1_3.length : Int) then ((spec_l08Key.f kj28 a0 ((rd_T63 l1_3 (wrap64 (x6_2 - 1))).f0.f0) ((rd_T63 l1_3 (wrap64 (x6_2 - 1))).f0.f1) ((rd_T63 l1_3 (wrap64 (x6_2 - 1))).f0.f2)).bind fun t184 => ((spec_l08Key.f kj28 a0 ((rd_T63 l1_3 x6_2).f0.f0) ((rd_T63 l1_3 x6_2).f0.f1) ((rd_T63 l1_3 x6_2).f0.f2)).bind fun t185 => (if t184 ≥ t185 then (some false) else (spec_l08Is.l0 kj28 a0 (mx x5_2 ((rd_T63 l1_3 x6_2).f0.f0)) (wrap64 (x6_2 + 1)) a1_0 a1_1 a1_2 l1_3)))) else (none)) else (none)) else (spec_l08Is.l0 kj28 a0 (mx x5_2 ((rd_T63 l1_3 x6_2).f0.f0)) (wrap64 (x6_2 + 1)) a1_0 a1_1 a1_2 l1_3)) = some r := by rw [if_neg (show ¬ (false = true) by decide)] at H; exact H
           clear H
           have H := H1
           clear H1
           by_cases c56 : x6_2 > 0
           ·rw [if_pos c56] at H
            have c56b0 : decide (0 < x6_2) = true := decide_eq_true c56
            clear c56
            obtain ⟨ji57, hji57⟩ : ∃ j_ : Int, (wrap64 (x6_2 - 1)) = j_ := ⟨_, rfl⟩
            replace H : (if 0 ≤ (ji57) then (if (ji57) < (l1_3.length : Int) then ((spec_l08Key.f kj28 a0 ((rd_T63 l1_3 (ji57)).f0.f0) ((rd_T63 l1_3 (ji57)).f0.f1) ((rd_T63 l1_3 (ji57)).f0.f2)).bind fun t184 => ((spec_l08Key.f kj28 a0 ((rd_T63 l1_3 x6_2).f0.f0) ((rd_T63 l1_3 x6_2).f0.f1) ((rd_T63 l1_3 x6_2).f0.f2)).bind fun t185 => (if t184 ≥ t185 then (some false) else (spec_l08Is.l0 kj28 a0 (mx x5_2 ((rd_T63 l1_3 x6_2).f0.f0)) (wrap64 (x6_2 + 1)) a1_0 a1_1 a1_2 l1_3)))) else (none)) else (none)) = some r := by first | (rw [hji57] at H; exact H) | (simp only [hji57] at H ⊢; exact H)
            have hji57w : (IntKind.i64.wrap (x6_2 - 1)) = ji57 := (i64_w _).trans hji57
            by_cases c58 : 0 ≤ (ji57)
            ·rw [if_pos c58] at H
             have c58b0 : decide (0 ≤ (ji57)) = true := decide_eq_true c58
             clear c58
             by_cases c59 : (ji57) < (l1_3.length : Int)
             ·rw [if_pos c59] at H
              have c59b0 : decide ((ji57) < (l1_3.length : Int)) = true := decide_eq_true c59
              clear c59
              replace H := Option.bind_eq_some_iff.mp H
              obtain ⟨t184, A600, H⟩ := H
              have A60 := Aside0.mk A600
              clear A600
              replace H := Option.bind_eq_some_iff.mp H
              obtain ⟨t185, A610, H⟩ := H
              have A61 := Aside0.mk A610
              clear A610
              by_cases c62 : t184 ≥ t185
              ·rw [if_pos c62] at H
               have c62b0 : decide (t185 ≤ t184) = true := decide_eq_true c62
               clear c62
               obtain rfl := Option.some.inj H
               try go_wp2
               replace BK173 := Aside0.mk (blk_drew BK173.out)
               replace BK179 := Aside0.mk (blk_drew BK179.out)
               replace HB := Aside0.mk (below_drew1 HB.out)
               have p183 : 0 ≤ ((ji57) : Int) := of_decide_eq_true (by first | (with_reducible assumption) | assumption)
               have q183 : (ji57) < (l1_3.length : Int) := of_decide_eq_true (by first | (with_reducible assumption) | assumption)
               obtain ⟨ad183, e183, hx183_0, hx183_1, hx183_2, hx183_3⟩ := at_T63 HR1_3.out (ji57) p183 q183
               have hw183_3 := hx183_3
               have hw183_2 := hx183_2
               have hw183_1 := hx183_1
               have hw183_0 := hx183_0
               obtain rfl : ad178 = ad183 := (by injection e183)
               replace hx183_0 := clTr HB.out hx183_0
               replace hx183_1 := clTr HB.out hx183_1
               replace hx183_2 := clTr HB.out hx183_2
               replace hx183_3 := clTr HB.out hx183_3
               replace p183 := eq_true p183
               replace q183 := eq_true q183
               refine start_ (n := 18) (S := fun w' => w'.cell? ⟨gb173, 0, none⟩ = some (.int .i64 a1_0) ∧ w'.cell? ⟨gb173, 1, none⟩ = some (.int .i64 a1_1) ∧ w'.cell? ⟨gb173, 2, none⟩ = some (.int .i64 a1_2) ∧ w'.cell? ⟨gb173, 3, none⟩ = some (.slice (some ad178) l1_3.length c1_3) ∧ w'.cell? ⟨gb179, 0, none⟩ = some (.int .i64 ((rd_T63 l1_3 x6_2).f0.f0)) ∧ w'.cell? ⟨gb179, 1, none⟩ = some (.int .i64 ((rd_T63 l1_3 x6_2).f0.f1)) ∧ w'.cell? ⟨gb179, 2, none⟩ = some (.int .i64 ((rd_T63 l1_3 x6_2).f0.f2)) ∧ w'.cell? ⟨gb179, 3, none⟩ = some (.int .i64 ((rd_T63 l1_3 x6_2).f1)) ∧ w'.cell? (ad178.add (((ji57)).toNat * 4)) = some (.int .i64 ((rd_T63 l1_3 (ji57)).f0.f0)) ∧ w'.cell? ⟨(ad178.add (((ji57)).toNat * 4)).block, (ad178.add (((ji57)).toNat * 4)).off + 1, none⟩ = some (.int .i64 ((rd_T63 l1_3 (ji57)).f0.f1)) ∧ w'.cell? ⟨(ad178.add (((ji57)).toNat * 4)).block, (ad178.add (((ji57)).toNat * 4)).off + 2, none⟩ = some (.int .i64 ((rd_T63 l1_3 (ji57)).f0.f2)) ∧ w'.cell? ⟨(ad178.add (((ji57)).toNat * 4)).block, (ad178.add (((ji57)).toNat * 4)).off + 3, none⟩ = some (.int .i64 ((rd_T63 l1_3 (ji57)).f1))) (ds := []) (bv_ 18 0) (by kernel_rfl) rfl rfl ⟨(blk_cell BK173.out 0).trans rfl, (blk_cell BK173.out 1).trans rfl, (blk_cell BK173.out 2).trans rfl, (blk_cell BK173.out 3).trans rfl, (blk_cell BK179.out 0).trans rfl, (blk_cell BK179.out 1).trans rfl, (blk_cell BK179.out 2).trans rfl, (blk_cell BK179.out 3).trans rfl, (clTr HB.out hw183_0 :), (clTr HB.out hw183_1 :), (clTr HB.out hw183_2 :), (clTr HB.out hw183_3 :)⟩ (fun hHeld => ?_); refine with_tabW spec_l08Is.tab10 spec_l08Is.bits10 (fun HT_ HW_ => ?_)
               generalize wc.drew = w63 at BK173 BK179 HB hx183_0 hx183_1 hx183_2 hx183_3 hHeld ⊢
               refine pu_ HT_ 0 (some 64) (bv_ 18 1) ?_
               refine pu_ HT_ 1 (some 65) (bv_ 18 3) ?_
               refine pu_ HT_ 2 (some 66) (bv_ 18 7) ?_
               refine pu_ HT_ 3 (some 67) (bv_ 18 15) ?_
               refine pu_ HT_ 4 (some 68) (bv_ 18 31) ?_
               refine pu_ HT_ 6 (some 70) (bv_ 18 95) ?_
               refine pu_ HT_ 7 (some 71) (bv_ 18 223) ?_
               refine pu_ HT_ 12 (some 76) (bv_ 18 4319) ?_
               refine pu_ HT_ 13 (some 77) (bv_ 18 12511) ?_
               refine ta_ HT_ HW_ 5 (some 69) (bv_ 18 12543) hHeld ?_ (hy := by rintro w' ⟨s0, s1, s2, s3, s4, s5, s6, s7, s8, s9, s10, s11⟩; go_simp; with_reducible rfl)
               refine pu_ HT_ 8 (some 72) (bv_ 18 12799) ?_
               refine pu_ HT_ 9 (some 73) (bv_ 18 13311) ?_
               refine ta_ HT_ HW_ 10 (some 74) (bv_ 18 14335) hHeld ?_ (hy := by rintro w' ⟨s0, s1, s2, s3, s4, s5, s6, s7, s8, s9, s10, s11⟩; go_simp; with_reducible rfl)
               refine ta_ HT_ HW_ 14 (some 78) (bv_ 18 30719) hHeld ?_ (hy := by rintro w' ⟨s0, s1, s2, s3, s4, s5, s6, s7, s8, s9, s10, s11⟩; go_simp; with_reducible rfl)
               refine one_ (i := 11) (N := some 75) (bv_ 18 32767) rfl rfl (one_of HT_.out (by kernel_rfl)) (by decide) (fun K hK => ?_)
               refine goes_ Try.func63 (by kernel_rfl) rfl #[.int .i64 a0, .agg #[.int .i64 ((rd_T63 l1_3 (ji57)).f0.f0), .int .i64 ((rd_T63 l1_3 (ji57)).f0.f1), .int .i64 ((rd_T63 l1_3 (ji57)).f0.f2)]] (by rfl) rfl rfl (by (try simp only [List.map_toArray, List.map_cons, List.map_nil]); first | done | (simp only [hji57]; rfl) | rfl | (simp only [List.length_drop, List.length_take]; rfl)) ?_
               with_reducible refine (spec_l08Key.calls kj28 a0 ((rd_T63 l1_3 (ji57)).f0.f0) ((rd_T63 l1_3 (ji57)).f0.f1) ((rd_T63 l1_3 (ji57)).f0.f2) t184 _ A60.out).mono ?_
               rintro e w64 ⟨rfl, hb⟩
               refine ⟨_, rfl, ?_⟩
               replace BK173 := bb_ BK173 hb
               replace BK179 := bb_ BK179 hb
               replace HB := bt_ HB hb
               (try clear hb)
               (try clear hb2)
               (try clear hk)
               (try clear hi)
               refine hK.out _ _ ⟨(blk_cell BK173.out 0).trans rfl, (blk_cell BK173.out 1).trans rfl, (blk_cell BK173.out 2).trans rfl, (blk_cell BK173.out 3).trans rfl, (blk_cell BK179.out 0).trans rfl, (blk_cell BK179.out 1).trans rfl, (blk_cell BK179.out 2).trans rfl, (blk_cell BK179.out 3).trans rfl, (clTr HB.out hw183_0 :), (clTr HB.out hw183_1 :), (clTr HB.out hw183_2 :), (clTr HB.out hw183_3 :)⟩ (fun hHeld => ?_)
               clear hK K
               refine norm_ (a' := ?_) ?_ ?_
               rotate_left
               ·show Act.put _ (some 75) _ = _
                simp only [Act.put, lstS, lstZ, lstC, i64_w, i32_w]
                rfl
               refine one_ (i := 15) (N := some 79) (bv_ 18 65535) rfl rfl (one_of HT_.out (by kernel_rfl)) (by decide) (fun K hK => ?_)
               refine goes_ Try.func63 (by kernel_rfl) rfl #[.int .i64 a0, .agg #[.int .i64 ((rd_T63 l1_3 x6_2).f0.f0), .int .i64 ((rd_T63 l1_3 x6_2).f0.f1), .int .i64 ((rd_T63 l1_3 x6_2).f0.f2)]] (by rfl) rfl rfl (by (try simp only [List.map_toArray, List.map_cons, List.map_nil]); first | done | rfl | (simp only [List.length_drop, List.length_take]; rfl)) ?_
               with_reducible refine (spec_l08Key.calls kj28 a0 ((rd_T63 l1_3 x6_2).f0.f0) ((rd_T63 l1_3 x6_2).f0.f1) ((rd_T63 l1_3 x6_2).f0.f2) t185 _ A61.out).mono ?_
               rintro e w65 ⟨rfl, hb⟩
               refine ⟨_, rfl, ?_⟩
               replace BK173 := bb_ BK173 hb
               replace BK179 := bb_ BK179 hb
               replace HB := bt_ HB hb
               (try clear hb)
               (try clear hb2)
               (try clear hk)
               (try clear hi)
               refine hK.out _ _ ⟨(blk_cell BK173.out 0).trans rfl, (blk_cell BK173.out 1).trans rfl, (blk_cell BK173.out 2).trans rfl, (blk_cell BK173.out 3).trans rfl, (blk_cell BK179.out 0).trans rfl, (blk_cell BK179.out 1).trans rfl, (blk_cell BK179.out 2).trans rfl, (blk_cell BK179.out 3).trans rfl, (clTr HB.out hw183_0 :), (clTr HB.out hw183_1 :), (clTr HB.out hw183_2 :), (clTr HB.out hw183_3 :)⟩ (fun hHeld => ?_)
               clear hK K
               refine norm_ (a' := ?_) ?_ ?_
               rotate_left
               ·show Act.put _ (some 79) _ = _
                simp only [Act.put, lstS, lstZ, lstC, i64_w, i32_w]
                rfl
               refine pu_ HT_ 16 (some 80) (bv_ 18 131071) ?_
               refine pu_ HT_ 17 (some 81) (bv_ 18 262143) ?_
               refine done_ (done_of HT_.out (by kernel_rfl)) ?_
               try go_wp2
               go_ret
               exact ⟨by first | rfl | (simp [errW_none, errW_some] <;> rfl) | (simp only [← hji57]; first | rfl | (simp [errW_none, errW_some] <;> rfl)) | (simp [*, errW_none, errW_some] <;> rfl), by repeat (first | (with_reducible first | exact HB.out | apply below_alloc | apply pw_below_drewN | apply below_drew1 | refine below_set ?_ GE173.out | refine below_set ?_ GE179.out) | exact HB.out)⟩
              ·rw [if_neg c62] at H
               have c62b0 : decide (t185 ≤ t184) = false := decide_eq_false c62
               clear c62
               obtain ⟨ji66, hji66⟩ : ∃ j_ : Int, (mx x5_2 ((rd_T63 l1_3 x6_2).f0.f0)) = j_ := ⟨_, rfl⟩
               replace H : (spec_l08Is.l0 kj28 a0 ji66 (wrap64 (x6_2 + 1)) a1_0 a1_1 a1_2 l1_3) = some r := by first | (rw [hji66] at H; exact H) | (simp only [hji66] at H ⊢; exact H)
               (try rw [hji66] at A60)
               (try rw [hji66] at A61)
               have hji66_ : (if x5_2 < ((rd_T63 l1_3 x6_2).f0.f0) then ((rd_T63 l1_3 x6_2).f0.f0) else x5_2) = ji66 := hji66
               have H' := Aside0.mk H
               clear H
               try go_wp2
               replace BK173 := Aside0.mk (blk_drew BK173.out)
               replace BK179 := Aside0.mk (blk_drew BK179.out)
               replace HB := Aside0.mk (below_drew1 HB.out)
               have p183 : 0 ≤ ((ji57) : Int) := of_decide_eq_true (by first | (with_reducible assumption) | assumption)
               have q183 : (ji57) < (l1_3.length : Int) := of_decide_eq_true (by first | (with_reducible assumption) | assumption)
               obtain ⟨ad183, e183, hx183_0, hx183_1, hx183_2, hx183_3⟩ := at_T63 HR1_3.out (ji57) p183 q183
               have hw183_3 := hx183_3
               have hw183_2 := hx183_2
               have hw183_1 := hx183_1
               have hw183_0 := hx183_0
               obtain rfl : ad178 = ad183 := (by injection e183)
               replace hx183_0 := clTr HB.out hx183_0
               replace hx183_1 := clTr HB.out hx183_1
               replace hx183_2 := clTr HB.out hx183_2
               replace hx183_3 := clTr HB.out hx183_3
               replace p183 := eq_true p183
               replace q183 := eq_true q183
               refine start_ (n := 18) (S := fun w' => w'.cell? ⟨gb173, 0, none⟩ = some (.int .i64 a1_0) ∧ w'.cell? ⟨gb173, 1, none⟩ = some (.int .i64 a1_1) ∧ w'.cell? ⟨gb173, 2, none⟩ = some (.int .i64 a1_2) ∧ w'.cell? ⟨gb173, 3, none⟩ = some (.slice (some ad178) l1_3.length c1_3) ∧ w'.cell? ⟨gb179, 0, none⟩ = some (.int .i64 ((rd_T63 l1_3 x6_2).f0.f0)) ∧ w'.cell? ⟨gb179, 1, none⟩ = some (.int .i64 ((rd_T63 l1_3 x6_2).f0.f1)) ∧ w'.cell? ⟨gb179, 2, none⟩ = some (.int .i64 ((rd_T63 l1_3 x6_2).f0.f2)) ∧ w'.cell? ⟨gb179, 3, none⟩ = some (.int .i64 ((rd_T63 l1_3 x6_2).f1)) ∧ w'.cell? (ad178.add (((ji57)).toNat * 4)) = some (.int .i64 ((rd_T63 l1_3 (ji57)).f0.f0)) ∧ w'.cell? ⟨(ad178.add (((ji57)).toNat * 4)).block, (ad178.add (((ji57)).toNat * 4)).off + 1, none⟩ = some (.int .i64 ((rd_T63 l1_3 (ji57)).f0.f1)) ∧ w'.cell? ⟨(ad178.add (((ji57)).toNat * 4)).block, (ad178.add (((ji57)).toNat * 4)).off + 2, none⟩ = some (.int .i64 ((rd_T63 l1_3 (ji57)).f0.f2)) ∧ w'.cell? ⟨(ad178.add (((ji57)).toNat * 4)).block, (ad178.add (((ji57)).toNat * 4)).off + 3, none⟩ = some (.int .i64 ((rd_T63 l1_3 (ji57)).f1))) (ds := []) (bv_ 18 0) (by kernel_rfl) rfl rfl ⟨(blk_cell BK173.out 0).trans rfl, (blk_cell BK173.out 1).trans rfl, (blk_cell BK173.out 2).trans rfl, (blk_cell BK173.out 3).trans rfl, (blk_cell BK179.out 0).trans rfl, (blk_cell BK179.out 1).trans rfl, (blk_cell BK179.out 2).trans rfl, (blk_cell BK179.out 3).trans rfl, (clTr HB.out hw183_0 :), (clTr HB.out hw183_1 :), (clTr HB.out hw183_2 :), (clTr HB.out hw183_3 :)⟩ (fun hHeld => ?_); refine with_tabW spec_l08Is.tab10 spec_l08Is.bits10 (fun HT_ HW_ => ?_)
               generalize wc.drew = w67 at BK173 BK179 HB hx183_0 hx183_1 hx183_2 hx183_3 hHeld ⊢
               refine pu_ HT_ 0 (some 64) (bv_ 18 1) ?_
               refine pu_ HT_ 1 (some 65) (bv_ 18 3) ?_
               refine pu_ HT_ 2 (some 66) (bv_ 18 7) ?_
               refine pu_ HT_ 3 (some 67) (bv_ 18 15) ?_
               refine pu_ HT_ 4 (some 68) (bv_ 18 31) ?_
               refine pu_ HT_ 6 (some 70) (bv_ 18 95) ?_
               refine pu_ HT_ 7 (some 71) (bv_ 18 223) ?_
               refine pu_ HT_ 12 (some 76) (bv_ 18 4319) ?_
               refine pu_ HT_ 13 (some 77) (bv_ 18 12511) ?_
               refine ta_ HT_ HW_ 5 (some 69) (bv_ 18 12543) hHeld ?_ (hy := by rintro w' ⟨s0, s1, s2, s3, s4, s5, s6, s7, s8, s9, s10, s11⟩; go_simp; with_reducible rfl)
               refine pu_ HT_ 8 (some 72) (bv_ 18 12799) ?_
               refine pu_ HT_ 9 (some 73) (bv_ 18 13311) ?_
               refine ta_ HT_ HW_ 10 (some 74) (bv_ 18 14335) hHeld ?_ (hy := by rintro w' ⟨s0, s1, s2, s3, s4, s5, s6, s7, s8, s9, s10, s11⟩; go_simp; with_reducible rfl)
               refine ta_ HT_ HW_ 14 (some 78) (bv_ 18 30719) hHeld ?_ (hy := by rintro w' ⟨s0, s1, s2, s3, s4, s5, s6, s7, s8, s9, s10, s11⟩; go_simp; with_reducible rfl)
               refine one_ (i := 11) (N := some 75) (bv_ 18 32767) rfl rfl (one_of HT_.out (by kernel_rfl)) (by decide) (fun K hK => ?_)
               refine goes_ Try.func63 (by kernel_rfl) rfl #[.int .i64 a0, .agg #[.int .i64 ((rd_T63 l1_3 (ji57)).f0.f0), .int .i64 ((rd_T63 l1_3 (ji57)).f0.f1), .int .i64 ((rd_T63 l1_3 (ji57)).f0.f2)]] (by rfl) rfl rfl (by (try simp only [List.map_toArray, List.map_cons, List.map_nil]); first | done | (simp only [hji57]; rfl) | rfl | (simp only [List.length_drop, List.length_take]; rfl)) ?_
               with_reducible refine (spec_l08Key.calls kj28 a0 ((rd_T63 l1_3 (ji57)).f0.f0) ((rd_T63 l1_3 (ji57)).f0.f1) ((rd_T63 l1_3 (ji57)).f0.f2) t184 _ A60.out).mono ?_
               rintro e w68 ⟨rfl, hb⟩
               refine ⟨_, rfl, ?_⟩
               replace BK173 := bb_ BK173 hb
               replace BK179 := bb_ BK179 hb
               replace HB := bt_ HB hb
               (try clear hb)
               (try clear hb2)
               (try clear hk)
               (try clear hi)
               refine hK.out _ _ ⟨(blk_cell BK173.out 0).trans rfl, (blk_cell BK173.out 1).trans rfl, (blk_cell BK173.out 2).trans rfl, (blk_cell BK173.out 3).trans rfl, (blk_cell BK179.out 0).trans rfl, (blk_cell BK179.out 1).trans rfl, (blk_cell BK179.out 2).trans rfl, (blk_cell BK179.out 3).trans rfl, (clTr HB.out hw183_0 :), (clTr HB.out hw183_1 :), (clTr HB.out hw183_2 :), (clTr HB.out hw183_3 :)⟩ (fun hHeld => ?_)
               clear hK K
               refine norm_ (a' := ?_) ?_ ?_
               rotate_left
               ·show Act.put _ (some 75) _ = _
                simp only [Act.put, lstS, lstZ, lstC, i64_w, i32_w]
                rfl
               refine one_ (i := 15) (N := some 79) (bv_ 18 65535) rfl rfl (one_of HT_.out (by kernel_rfl)) (by decide) (fun K hK => ?_)
               refine goes_ Try.func63 (by kernel_rfl) rfl #[.int .i64 a0, .agg #[.int .i64 ((rd_T63 l1_3 x6_2).f0.f0), .int .i64 ((rd_T63 l1_3 x6_2).f0.f1), .int .i64 ((rd_T63 l1_3 x6_2).f0.f2)]] (by rfl) rfl rfl (by (try simp only [List.map_toArray, List.map_cons, List.map_nil]); first | done | rfl | (simp only [List.length_drop, List.length_take]; rfl)) ?_
               with_reducible refine (spec_l08Key.calls kj28 a0 ((rd_T63 l1_3 x6_2).f0.f0) ((rd_T63 l1_3 x6_2).f0.f1) ((rd_T63 l1_3 x6_2).f0.f2) t185 _ A61.out).mono ?_
               rintro e w69 ⟨rfl, hb⟩
               refine ⟨_, rfl, ?_⟩
               replace BK173 := bb_ BK173 hb
               replace BK179 := bb_ BK179 hb
               replace HB := bt_ HB hb
               (try clear hb)
               (try clear hb2)
               (try clear hk)
               (try clear hi)
               refine hK.out _ _ ⟨(blk_cell BK173.out 0).trans rfl, (blk_cell BK173.out 1).trans rfl, (blk_cell BK173.out 2).trans rfl, (blk_cell BK173.out 3).trans rfl, (blk_cell BK179.out 0).trans rfl, (blk_cell BK179.out 1).trans rfl, (blk_cell BK179.out 2).trans rfl, (blk_cell BK179.out 3).trans rfl, (clTr HB.out hw183_0 :), (clTr HB.out hw183_1 :), (clTr HB.out hw183_2 :), (clTr HB.out hw183_3 :)⟩ (fun hHeld => ?_)
               clear hK K
               refine norm_ (a' := ?_) ?_ ?_
               rotate_left
               ·show Act.put _ (some 79) _ = _
                simp only [Act.put, lstS, lstZ, lstC, i64_w, i32_w]
                rfl
               refine pu_ HT_ 16 (some 80) (bv_ 18 131071) ?_
               refine pu_ HT_ 17 (some 81) (bv_ 18 262143) ?_
               refine done_ (done_of HT_.out (by kernel_rfl)) ?_
               have hnb70 := NB179_173.out
               have hnc70 := NB173_179.out
               have hcz71_0 : w69.cell? ⟨gb179, 0, none⟩ = some (.int .i64 ((rd_T63 l1_3 x6_2).f0.f0)) := cz_ BK179 0
               have hcz71_1 : w69.cell? ⟨gb179, 1, none⟩ = some (.int .i64 ((rd_T63 l1_3 x6_2).f0.f1)) := cz_ BK179 1
               have hcz71_2 : w69.cell? ⟨gb179, 2, none⟩ = some (.int .i64 ((rd_T63 l1_3 x6_2).f0.f2)) := cz_ BK179 2
               have hcz71_3 : w69.cell? ⟨gb179, 3, none⟩ = some (.int .i64 ((rd_T63 l1_3 x6_2).f1)) := cz_ BK179 3
               have hfz71_0 := fz_ BK179 0
               have hfz71_1 := fz_ BK179 1
               have hfz71_2 := fz_ BK179 2
               have hfz71_3 := fz_ BK179 3
               try go_wp2
               go_roundg kj28
               case measure => have := HJ2.out; have := HK2.out; have := HJ28.out; omega
               case rel => exact ⟨(ji66), (wrap64 (x6_2 + 1)), (by first | rfl | (simp; done) | (simp only [← hji66] <;> (first | rfl | simp)) | (simp [*]; done)), (by first | rfl | (simp; done) | (simp [*]; done) | (simp [wrap64]; done)), H', ⟨by have := HJ2.out; have := HK2.out; have := HJ28.out; omega⟩, bl_ BK173, bw_ HB⟩
             ·rw [if_neg c59] at H
              exact absurd H (by simp)
            ·rw [if_neg c58] at H
             exact absurd H (by simp)
           ·rw [if_neg c56] at H
            have c56b0 : decide (0 < x6_2) = false := decide_eq_false c56
            clear c56
            obtain ⟨ji72, hji72⟩ : ∃ j_ : Int, (mx x5_2 ((rd_T63 l1_3 x6_2).f0.f0)) = j_ := ⟨_, rfl⟩
            replace H : (spec_l08Is.l0 kj28 a0 ji72 (wrap64 (x6_2 + 1)) a1_0 a1_1 a1_2 l1_3) = some r := by first | (rw [hji72] at H; exact H) | (simp only [hji72] at H ⊢; exact H)
            have hji72_ : (if x5_2 < ((rd_T63 l1_3 x6_2).f0.f0) then ((rd_T63 l1_3 x6_2).f0.f0) else x5_2) = ji72 := hji72
            have H' := Aside0.mk H
            clear H
            try go_wp2
            replace BK173 := Aside0.mk (blk_drew BK173.out)
            replace BK179 := Aside0.mk (blk_drew BK179.out)
            replace HB := Aside0.mk (below_drew1 HB.out)
            refine start_ (n := 18) (S := fun w' => True) (ds := []) (bv_ 18 0) (by kernel_rfl) rfl rfl trivial (fun hHeld => ?_); refine with_tabW spec_l08Is.tab10 spec_l08Is.bits10 (fun HT_ HW_ => ?_)
            generalize wc.drew = w73 at BK173 BK179 HB hHeld ⊢
            refine pu_ HT_ 0 (some 64) (bv_ 18 1) ?_
            refine pu_ HT_ 1 (some 65) (bv_ 18 3) ?_
            refine pu_ HT_ 2 (some 66) (bv_ 18 7) ?_
            refine pv_ HT_ 3 (some 67) (bv_ 18 15) ?_
            refine pv_ HT_ 4 (some 68) (bv_ 18 31) ?_
            refine pv_ HT_ 5 (some 69) (bv_ 18 63) ?_
            refine pv_ HT_ 6 (some 70) (bv_ 18 127) ?_
            refine pv_ HT_ 7 (some 71) (bv_ 18 255) ?_
            refine pv_ HT_ 8 (some 72) (bv_ 18 511) ?_
            refine pv_ HT_ 9 (some 73) (bv_ 18 1023) ?_
            refine pv_ HT_ 10 (some 74) (bv_ 18 2047) ?_
            refine pv_ HT_ 11 (some 75) (bv_ 18 4095) ?_
            refine pv_ HT_ 12 (some 76) (bv_ 18 8191) ?_
            refine pv_ HT_ 13 (some 77) (bv_ 18 16383) ?_
            refine pv_ HT_ 14 (some 78) (bv_ 18 32767) ?_
            refine pv_ HT_ 15 (some 79) (bv_ 18 65535) ?_
            refine pv_ HT_ 16 (some 80) (bv_ 18 131071) ?_
            refine pu_ HT_ 17 (some 81) (bv_ 18 262143) ?_
            refine done_ (done_of HT_.out (by kernel_rfl)) ?_
            have hnb74 := NB179_173.out
            have hnc74 := NB173_179.out
            have hcz75_0 : w73.cell? ⟨gb179, 0, none⟩ = some (.int .i64 ((rd_T63 l1_3 x6_2).f0.f0)) := cz_ BK179 0
            have hcz75_1 : w73.cell? ⟨gb179, 1, none⟩ = some (.int .i64 ((rd_T63 l1_3 x6_2).f0.f1)) := cz_ BK179 1
            have hcz75_2 : w73.cell? ⟨gb179, 2, none⟩ = some (.int .i64 ((rd_T63 l1_3 x6_2).f0.f2)) := cz_ BK179 2
            have hcz75_3 : w73.cell? ⟨gb179, 3, none⟩ = some (.int .i64 ((rd_T63 l1_3 x6_2).f1)) := cz_ BK179 3
            have hfz75_0 := fz_ BK179 0
            have hfz75_1 := fz_ BK179 1
            have hfz75_2 := fz_ BK179 2
            have hfz75_3 := fz_ BK179 3
            try go_wp2
            go_roundg kj28
            case measure => have := HJ2.out; have := HK2.out; have := HJ28.out; omega
            case rel => exact ⟨(ji72), (wrap64 (x6_2 + 1)), (by first | rfl | (simp; done) | (simp only [← hji72] <;> (first | rfl | simp)) | (simp [*]; done)), (by first | rfl | (simp; done) | (simp [*]; done) | (simp [wrap64]; done)), H', ⟨by have := HJ2.out; have := HK2.out; have := HJ28.out; omega⟩, bl_ BK173, bw_ HB⟩
       ·rw [if_neg c28] at H
        exact absurd H (by simp)
      ·rw [if_neg c27] at H
       have c27b0 : decide (x6_2 < (l1_3.length : Int)) = false := decide_eq_false c27
       clear c27
       have H' := Aside0.mk H
       clear H
       have hcz76_0 : wr.cell? ⟨gb173, 0, none⟩ = some (.int .i64 a1_0) := cz_ BK173 0
       have hcz76_1 : wr.cell? ⟨gb173, 1, none⟩ = some (.int .i64 a1_1) := cz_ BK173 1
       have hcz76_2 : wr.cell? ⟨gb173, 2, none⟩ = some (.int .i64 a1_2) := cz_ BK173 2
       have hcz76_3 : wr.cell? ⟨gb173, 3, none⟩ = some (.slice A1_3 l1_3.length c1_3) := cz_ BK173 3
       have hfz76_0 := fz_ BK173 0
       have hfz76_1 := fz_ BK173 1
       have hfz76_2 := fz_ BK173 2
       have hfz76_3 := fz_ BK173 3
       go_wp2
       go_loopg [8, 9] k2 (fun kq v8 v9 w' => ∃ (x8_3 : Int) (x9_3 : Int), v8 = .int .i64 x8_3 ∧ v9 = .int .i64 x9_3 ∧ Aside0 (spec_l08Is.l1 kq a0 x5_2 x8_3 x9_3 a1_0 a1_1 a1_2 l1_3 = some r) ∧ Aside0 (kq ≤ k2) ∧ Aside0 (w'.heap[gb173]? = some (.cells #[.int .i64 a1_0, .int .i64 a1_1, .int .i64 a1_2, (.slice A1_3 l1_3.length c1_3)] 33 (0, 0))) ∧ Aside0 (Below w.heap.size w w'))
       case atStart => exact ⟨(0), (0), (by first | rfl | (simp; done) | (simp [*]; done) | (simp [wrap64]; done)), (by first | rfl | (simp; done) | (simp [*]; done) | (simp [wrap64]; done)), H', ⟨Nat.le_refl _⟩, bl_ BK173, bw_ HB⟩
       case round =>
        clear H'
        try clear c1
        try clear p1
        try clear q1
        try clear hx1
        try clear c2
        try clear p2
        try clear c5
        try clear c6
        try clear p6
        try clear c7
        try clear p18
        try clear q18
        try clear hx18
        try clear c27
        try clear c27b0
        try clear c28
        try clear c56
        try clear c56b0
        try clear c58
        try clear c59
        try clear c62
        try clear c62b0
        try clear c63
        try clear p64
        try clear c70
        try clear c74
        try clear hcz71_0
        try clear hcz71_1
        try clear hcz71_2
        try clear hcz71_3
        try clear hcz75_0
        try clear hcz75_1
        try clear hcz75_2
        try clear hcz75_3
        try clear hcz76_0
        try clear hcz76_1
        try clear hcz76_2
        try clear hcz76_3
        try clear hfz71_0
        try clear hfz71_1
        try clear hfz71_2
        try clear hfz71_3
        try clear hfz75_0
        try clear hfz75_1
        try clear hfz75_2
        try clear hfz75_3
        try clear hfz76_0
        try clear hfz76_1
        try clear hfz76_2
        try clear hfz76_3
        try clear hx183_0
        try clear hx183_1
        try clear hx183_2
        try clear hx183_3
        try clear p183
        try clear q183
        obtain ⟨x8_3, x9_3, rfl, rfl, HA, HK3, BK173, HB⟩ := hrel
        cases gk with
        | zero => exact absurd HA.out (by simp [spec_l08Is.l1])
        | succ k3 =>
         have H := HA.out
         clear HA
         simp only [spec_l08Is.l1] at H
         by_cases c77 : x9_3 < (l1_3.length : Int)
         ·rw [if_pos c77] at H
          have c77b0 : decide (x9_3 < (l1_3.length : Int)) = true := decide_eq_true c77
          clear c77
          have H' := Aside0.mk H
          clear H
          have hcz78_0 : wr.cell? ⟨gb173, 0, none⟩ = some (.int .i64 a1_0) := cz_ BK173 0
          have hcz78_1 : wr.cell? ⟨gb173, 1, none⟩ = some (.int .i64 a1_1) := cz_ BK173 1
          have hcz78_2 : wr.cell? ⟨gb173, 2, none⟩ = some (.int .i64 a1_2) := cz_ BK173 2
          have hcz78_3 : wr.cell? ⟨gb173, 3, none⟩ = some (.slice A1_3 l1_3.length c1_3) := cz_ BK173 3
          have hfz78_0 := fz_ BK173 0
          have hfz78_1 := fz_ BK173 1
          have hfz78_2 := fz_ BK173 2
          have hfz78_3 := fz_ BK173 3
          go_wp2
          go_loopg [10] k3 (fun kq v10 w' => ∃ (x10_4 : Int), v10 = .int .i64 x10_4 ∧ Aside0 (spec_l08Is.l2 kq a0 x5_2 x8_3 x9_3 x10_4 a1_0 a1_1 a1_2 l1_3 = some r) ∧ Aside0 (kq ≤ k3) ∧ Aside0 (w'.heap[gb173]? = some (.cells #[.int .i64 a1_0, .int .i64 a1_1, .int .i64 a1_2, (.slice A1_3 l1_3.length c1_3)] 33 (0, 0))) ∧ Aside0 (Below w.heap.size w w'))
          case atStart => exact ⟨(0), (by first | rfl | (simp; done) | (simp [*]; done) | (simp [wrap64]; done)), H', ⟨Nat.le_refl _⟩, bl_ BK173, bw_ HB⟩
          case round =>
           clear H'
           try clear c1
           try clear p1
           try clear q1
           try clear hx1
           try clear c2
           try clear p2
           try clear c5
           try clear c6
           try clear p6
           try clear c7
           try clear p18
           try clear q18
           try clear hx18
           try clear c27
           try clear c27b0
           try clear c28
           try clear c56
           try clear c56b0
           try clear c58
           try clear c59
           try clear c62
           try clear c62b0
           try clear c63
           try clear p64
           try clear c70
           try clear c74
           try clear c77
           try clear c77b0
           try clear hcz71_0
           try clear hcz71_1
           try clear hcz71_2
           try clear hcz71_3
           try clear hcz75_0
           try clear hcz75_1
           try clear hcz75_2
           try clear hcz75_3
           try clear hcz76_0
           try clear hcz76_1
           try clear hcz76_2
           try clear hcz76_3
           try clear hcz78_0
           try clear hcz78_1
           try clear hcz78_2
           try clear hcz78_3
           try clear hfz71_0
           try clear hfz71_1
           try clear hfz71_2
           try clear hfz71_3
           try clear hfz75_0
           try clear hfz75_1
           try clear hfz75_2
           try clear hfz75_3
           try clear hfz76_0
           try clear hfz76_1
           try clear hfz76_2
           try clear hfz76_3
           try clear hfz78_0
           try clear hfz78_1
           try clear hfz78_2
           try clear hfz78_3
           try clear hx183_0
           try clear hx183_1
           try clear hx183_2
           try clear hx183_3
           try clear p1
           try clear p18
           try clear p183
           try clear p2
           try clear p6
           try clear p64
           try clear q1
           try clear q18
           try clear q183
           obtain ⟨x10_4, rfl, HA, HK4, BK173, HB⟩ := hrel
           cases gk with
           | zero => exact absurd HA.out (by simp [spec_l08Is.l2])
           | succ k4 =>
            have H := HA.out
            clear HA
            simp only [spec_l08Is.l2] at H
            by_cases c79 : x10_4 < (l1_3.length : Int)
            ·rw [if_pos c79] at H
             have c79b0 : decide (x10_4 < (l1_3.length : Int)) = true := decide_eq_true c79
             clear c79
             by_cases c80 : x9_3 = x10_4
             ·rw [if_pos c80] at H
              have c80b0 : (x9_3 == x10_4) = true := beq_iff_eq.mpr c80
              have c80b1 : (x9_3 != x10_4) = false := bne_eq_false_iff_eq.mpr c80
              clear c80
              have H' := Aside0.mk H
              clear H
              have hcz81_0 : wr.cell? ⟨gb173, 0, none⟩ = some (.int .i64 a1_0) := cz_ BK173 0
              have hcz81_1 : wr.cell? ⟨gb173, 1, none⟩ = some (.int .i64 a1_1) := cz_ BK173 1
              have hcz81_2 : wr.cell? ⟨gb173, 2, none⟩ = some (.int .i64 a1_2) := cz_ BK173 2
              have hcz81_3 : wr.cell? ⟨gb173, 3, none⟩ = some (.slice A1_3 l1_3.length c1_3) := cz_ BK173 3
              have hfz81_0 := fz_ BK173 0
              have hfz81_1 := fz_ BK173 1
              have hfz81_2 := fz_ BK173 2
              have hfz81_3 := fz_ BK173 3
              try go_wp2
              replace BK173 := Aside0.mk (blk_drew BK173.out)
              replace HB := Aside0.mk (below_drew1 HB.out)
              refine start_ (n := 19) (S := fun w' => True) (ds := []) (bv_ 19 0) (by kernel_rfl) rfl rfl trivial (fun hHeld => ?_); refine with_tabW spec_l08Is.tab20 spec_l08Is.bits20 (fun HT_ HW_ => ?_)
              generalize wr.drew = w82 at BK173 HB hHeld ⊢
              refine pu_ HT_ 0 (some 101) (bv_ 19 1) ?_
              refine pu_ HT_ 1 (some 102) (bv_ 19 3) ?_
              refine pu_ HT_ 2 (some 103) (bv_ 19 7) ?_
              refine pu_ HT_ 3 (some 104) (bv_ 19 15) ?_
              refine pv_ HT_ 4 (some 105) (bv_ 19 31) ?_
              refine pv_ HT_ 5 (some 106) (bv_ 19 63) ?_
              refine pv_ HT_ 6 (some 107) (bv_ 19 127) ?_
              refine pv_ HT_ 7 (some 108) (bv_ 19 255) ?_
              refine pv_ HT_ 8 (some 109) (bv_ 19 511) ?_
              refine pv_ HT_ 9 (some 110) (bv_ 19 1023) ?_
              refine pv_ HT_ 10 (some 111) (bv_ 19 2047) ?_
              refine pv_ HT_ 11 (some 112) (bv_ 19 4095) ?_
              refine pv_ HT_ 12 (some 113) (bv_ 19 8191) ?_
              refine pv_ HT_ 13 (some 114) (bv_ 19 16383) ?_
              refine pv_ HT_ 14 (some 115) (bv_ 19 32767) ?_
              refine pv_ HT_ 15 (some 116) (bv_ 19 65535) ?_
              refine pv_ HT_ 16 (some 117) (bv_ 19 131071) ?_
              refine pv_ HT_ 17 (some 118) (bv_ 19 262143) ?_
              refine pu_ HT_ 18 (some 119) (bv_ 19 524287) ?_
              refine done_ (done_of HT_.out (by kernel_rfl)) ?_
              try go_wp2
              go_roundg k4
              case measure => have := HJ2.out; have := HK2.out; have := HK3.out; have := HK4.out; omega
              case rel => exact ⟨(wrap64 (x10_4 + 1)), (by first | rfl | (simp; done) | (simp [*]; done) | (simp [wrap64]; done)), H', ⟨by have := HJ2.out; have := HK2.out; have := HK3.out; have := HK4.out; omega⟩, bl_ BK173, bw_ HB⟩
             ·rw [if_neg c80] at H
              have c80b0 : (x9_3 == x10_4) = false := beq_eq_false_iff_ne.mpr c80
              have c80b1 : (x9_3 != x10_4) = true := bne_iff_ne.mpr c80
              by_cases c83 : 0 ≤ x9_3
              ·rw [if_pos c83] at H
               have c83b0 : decide (0 ≤ x9_3) = true := decide_eq_true c83
               clear c83
               by_cases c84 : x9_3 < (l1_3.length : Int)
               ·rw [if_pos c84] at H
                have c84b0 : decide (x9_3 < (l1_3.length : Int)) = true := decide_eq_true c84
                clear c84
                by_cases c85 : 0 ≤ x10_4
                ·rw [if_pos c85] at H
                 have c85b0 : decide (0 ≤ x10_4) = true := decide_eq_true c85
                 clear c85
                 replace H := Option.bind_eq_some_iff.mp H
                 obtain ⟨t189, A860, H⟩ := H
                 have A86 := Aside0.mk A860
                 clear A860
                 by_cases c87 : t189 = true
                 ·subst c87
                  have H1 : (some false) = some r := by rw [if_pos rfl] at H; exact H
                  clear H
                  have H := H1
                  clear H1
                  obtain rfl := Option.some.inj H
                  have hcz88_0 : wr.cell? ⟨gb173, 0, none⟩ = some (.int .i64 a1_0) := cz_ BK173 0
                  have hcz88_1 : wr.cell? ⟨gb173, 1, none⟩ = some (.int .i64 a1_1) := cz_ BK173 1
                  have hcz88_2 : wr.cell? ⟨gb173, 2, none⟩ = some (.int .i64 a1_2) := cz_ BK173 2
                  have hcz88_3 : wr.cell? ⟨gb173, 3, none⟩ = some (.slice A1_3 l1_3.length c1_3) := cz_ BK173 3
                  have hfz88_0 := fz_ BK173 0
                  have hfz88_1 := fz_ BK173 1
                  have hfz88_2 := fz_ BK173 2
                  have hfz88_3 := fz_ BK173 3
                  try go_wp2
                  replace BK173 := Aside0.mk (blk_drew BK173.out)
                  replace HB := Aside0.mk (below_drew1 HB.out)
                  have p187 : 0 ≤ (x9_3 : Int) := of_decide_eq_true (by first | (with_reducible assumption) | assumption)
                  have q187 : x9_3 < (l1_3.length : Int) := of_decide_eq_true (by first | (with_reducible assumption) | assumption)
                  obtain ⟨ad187, e187, hx187_0, hx187_1, hx187_2, hx187_3⟩ := at_T63 HR1_3.out x9_3 p187 q187
                  have hw187_3 := hx187_3
                  have hw187_2 := hx187_2
                  have hw187_1 := hx187_1
                  have hw187_0 := hx187_0
                  cases e187
                  replace hx187_0 := clTr HB.out hx187_0
                  replace hx187_1 := clTr HB.out hx187_1
                  replace hx187_2 := clTr HB.out hx187_2
                  replace hx187_3 := clTr HB.out hx187_3
                  replace p187 := eq_true p187
                  replace q187 := eq_true q187
                  have p188 : 0 ≤ (x10_4 : Int) := of_decide_eq_true (by first | (with_reducible assumption) | assumption)
                  have q188 : x10_4 < (l1_3.length : Int) := of_decide_eq_true (by first | (with_reducible assumption) | assumption)
                  obtain ⟨ad188, e188, hx188_0, hx188_1, hx188_2, hx188_3⟩ := at_T63 HR1_3.out x10_4 p188 q188
                  have hw188_3 := hx188_3
                  have hw188_2 := hx188_2
                  have hw188_1 := hx188_1
                  have hw188_0 := hx188_0
                  obtain rfl : ad187 = ad188 := (by injection e188)
                  replace hx188_0 := clTr HB.out hx188_0
                  replace hx188_1 := clTr HB.out hx188_1
                  replace hx188_2 := clTr HB.out hx188_2
                  replace hx188_3 := clTr HB.out hx188_3
                  replace p188 := eq_true p188
                  replace q188 := eq_true q188
                  refine start_ (n := 19) (S := fun w' => w'.cell? ⟨gb173, 0, none⟩ = some (.int .i64 a1_0) ∧ w'.cell? ⟨gb173, 1, none⟩ = some (.int .i64 a1_1) ∧ w'.cell? ⟨gb173, 2, none⟩ = some (.int .i64 a1_2) ∧ w'.cell? ⟨gb173, 3, none⟩ = some (.slice (some ad187) l1_3.length c1_3) ∧ w'.cell? (ad187.add ((x9_3).toNat * 4)) = some (.int .i64 ((rd_T63 l1_3 x9_3).f0.f0)) ∧ w'.cell? ⟨(ad187.add ((x9_3).toNat * 4)).block, (ad187.add ((x9_3).toNat * 4)).off + 1, none⟩ = some (.int .i64 ((rd_T63 l1_3 x9_3).f0.f1)) ∧ w'.cell? ⟨(ad187.add ((x9_3).toNat * 4)).block, (ad187.add ((x9_3).toNat * 4)).off + 2, none⟩ = some (.int .i64 ((rd_T63 l1_3 x9_3).f0.f2)) ∧ w'.cell? ⟨(ad187.add ((x9_3).toNat * 4)).block, (ad187.add ((x9_3).toNat * 4)).off + 3, none⟩ = some (.int .i64 ((rd_T63 l1_3 x9_3).f1)) ∧ w'.cell? (ad187.add ((x10_4).toNat * 4)) = some (.int .i64 ((rd_T63 l1_3 x10_4).f0.f0)) ∧ w'.cell? ⟨(ad187.add ((x10_4).toNat * 4)).block, (ad187.add ((x10_4).toNat * 4)).off + 1, none⟩ = some (.int .i64 ((rd_T63 l1_3 x10_4).f0.f1)) ∧ w'.cell? ⟨(ad187.add ((x10_4).toNat * 4)).block, (ad187.add ((x10_4).toNat * 4)).off + 2, none⟩ = some (.int .i64 ((rd_T63 l1_3 x10_4).f0.f2)) ∧ w'.cell? ⟨(ad187.add ((x10_4).toNat * 4)).block, (ad187.add ((x10_4).toNat * 4)).off + 3, none⟩ = some (.int .i64 ((rd_T63 l1_3 x10_4).f1))) (ds := []) (bv_ 19 0) (by kernel_rfl) rfl rfl ⟨(blk_cell BK173.out 0).trans rfl, (blk_cell BK173.out 1).trans rfl, (blk_cell BK173.out 2).trans rfl, (blk_cell BK173.out 3).trans rfl, (clTr HB.out hw187_0 :), (clTr HB.out hw187_1 :), (clTr HB.out hw187_2 :), (clTr HB.out hw187_3 :), (clTr HB.out hw188_0 :), (clTr HB.out hw188_1 :), (clTr HB.out hw188_2 :), (clTr HB.out hw188_3 :)⟩ (fun hHeld => ?_); refine with_tabW spec_l08Is.tab20 spec_l08Is.bits20 (fun HT_ HW_ => ?_)
                  generalize wr.drew = w89 at BK173 HB hx187_0 hx187_1 hx187_2 hx187_3 hx188_0 hx188_1 hx188_2 hx188_3 hHeld ⊢
                  refine pu_ HT_ 0 (some 101) (bv_ 19 1) ?_
                  refine pu_ HT_ 1 (some 102) (bv_ 19 3) ?_
                  refine pu_ HT_ 2 (some 103) (bv_ 19 7) ?_
                  refine pu_ HT_ 3 (some 104) (bv_ 19 15) ?_
                  refine pu_ HT_ 4 (some 105) (bv_ 19 31) ?_
                  refine pu_ HT_ 5 (some 106) (bv_ 19 63) ?_
                  refine pu_ HT_ 7 (some 108) (bv_ 19 191) ?_
                  refine pu_ HT_ 11 (some 112) (bv_ 19 2239) ?_
                  refine pu_ HT_ 13 (some 114) (bv_ 19 10431) ?_
                  refine ta_ HT_ HW_ 6 (some 107) (bv_ 19 10495) hHeld ?_ (hy := by rintro w' ⟨s0, s1, s2, s3, s4, s5, s6, s7, s8, s9, s10, s11⟩; go_simp; with_reducible rfl)
                  refine pu_ HT_ 8 (some 109) (bv_ 19 10751) ?_
                  refine pu_ HT_ 9 (some 110) (bv_ 19 11263) ?_
                  refine ta_ HT_ HW_ 10 (some 111) (bv_ 19 12287) hHeld ?_ (hy := by rintro w' ⟨s0, s1, s2, s3, s4, s5, s6, s7, s8, s9, s10, s11⟩; go_simp; with_reducible rfl)
                  refine ta_ HT_ HW_ 12 (some 113) (bv_ 19 16383) hHeld ?_ (hy := by rintro w' ⟨s0, s1, s2, s3, s4, s5, s6, s7, s8, s9, s10, s11⟩; go_simp; with_reducible rfl)
                  refine pu_ HT_ 14 (some 115) (bv_ 19 32767) ?_
                  refine pu_ HT_ 15 (some 116) (bv_ 19 65535) ?_
                  refine ta_ HT_ HW_ 16 (some 117) (bv_ 19 131071) hHeld ?_ (hy := by rintro w' ⟨s0, s1, s2, s3, s4, s5, s6, s7, s8, s9, s10, s11⟩; go_simp; with_reducible rfl)
                  refine one_ (i := 17) (N := some 118) (bv_ 19 262143) rfl rfl (one_of HT_.out (by kernel_rfl)) (by decide) (fun K hK => ?_)
                  refine goes_ Try.func54 (by kernel_rfl) rfl #[.int .i64 a0, .agg #[.int .i64 ((rd_T63 l1_3 x9_3).f0.f0), .int .i64 ((rd_T63 l1_3 x9_3).f0.f1), .int .i64 ((rd_T63 l1_3 x9_3).f0.f2)], .agg #[.int .i64 ((rd_T63 l1_3 x10_4).f0.f0), .int .i64 ((rd_T63 l1_3 x10_4).f0.f1), .int .i64 ((rd_T63 l1_3 x10_4).f0.f2)]] (by rfl) rfl rfl (by (try simp only [List.map_toArray, List.map_cons, List.map_nil]); first | done | rfl | (simp only [List.length_drop, List.length_take]; rfl)) ?_
                  with_reducible refine (spec_l01Holds.calls k4 a0 ((rd_T63 l1_3 x9_3).f0.f0) ((rd_T63 l1_3 x9_3).f0.f1) ((rd_T63 l1_3 x9_3).f0.f2) ((rd_T63 l1_3 x10_4).f0.f0) ((rd_T63 l1_3 x10_4).f0.f1) ((rd_T63 l1_3 x10_4).f0.f2) true _ A86.out).mono ?_
                  rintro e w90 ⟨rfl, hb⟩
                  refine ⟨_, rfl, ?_⟩
                  replace BK173 := bb_ BK173 hb
                  replace HB := bt_ HB hb
                  (try clear hb)
                  (try clear hb2)
                  (try clear hk)
                  (try clear hi)
                  refine hK.out _ _ ⟨(blk_cell BK173.out 0).trans rfl, (blk_cell BK173.out 1).trans rfl, (blk_cell BK173.out 2).trans rfl, (blk_cell BK173.out 3).trans rfl, (clTr HB.out hw187_0 :), (clTr HB.out hw187_1 :), (clTr HB.out hw187_2 :), (clTr HB.out hw187_3 :), (clTr HB.out hw188_0 :), (clTr HB.out hw188_1 :), (clTr HB.out hw188_2 :), (clTr HB.out hw188_3 :)⟩ (fun hHeld => ?_)
                  clear hK K
                  refine norm_ (a' := ?_) ?_ ?_
                  rotate_left
                  ·show Act.put _ (some 118) _ = _
                   simp only [Act.put, lstS, lstZ, lstC, i64_w, i32_w]
                   rfl
                  refine pu_ HT_ 18 (some 119) (bv_ 19 524287) ?_
                  refine done_ (done_of HT_.out (by kernel_rfl)) ?_
                  try go_wp2
                  go_ret
                  exact ⟨by first | rfl | (simp [errW_none, errW_some] <;> rfl) | (simp [*, errW_none, errW_some] <;> rfl), by repeat (first | (with_reducible first | exact HB.out | apply below_alloc | apply pw_below_drewN | apply below_drew1 | refine below_set ?_ GE173.out) | exact HB.out)⟩
                 ·replace c87 := Bool.eq_false_iff.mpr c87
                  subst c87
                  have H1 : (spec_l08Is.l2 k4 a0 x5_2 x8_3 x9_3 (wrap64 (x10_4 + 1)) a1_0 a1_1 a1_2 l1_3) = some r := by rw [if_neg (show ¬ (false = true) by decide)] at H; exact H
                  clear H
                  have H := H1
                  clear H1
                  have H' := Aside0.mk H
                  clear H
                  have hcz91_0 : wr.cell? ⟨gb173, 0, none⟩ = some (.int .i64 a1_0) := cz_ BK173 0
                  have hcz91_1 : wr.cell? ⟨gb173, 1, none⟩ = some (.int .i64 a1_1) := cz_ BK173 1
                  have hcz91_2 : wr.cell? ⟨gb173, 2, none⟩ = some (.int .i64 a1_2) := cz_ BK173 2
                  have hcz91_3 : wr.cell? ⟨gb173, 3, none⟩ = some (.slice A1_3 l1_3.length c1_3) := cz_ BK173 3
                  have hfz91_0 := fz_ BK173 0
                  have hfz91_1 := fz_ BK173 1
                  have hfz91_2 := fz_ BK173 2
                  have hfz91_3 := fz_ BK173 3
                  try go_wp2
                  replace BK173 := Aside0.mk (blk_drew BK173.out)
                  replace HB := Aside0.mk (below_drew1 HB.out)
                  have p187 : 0 ≤ (x9_3 : Int) := of_decide_eq_true (by first | (with_reducible assumption) | assumption)
                  have q187 : x9_3 < (l1_3.length : Int) := of_decide_eq_true (by first | (with_reducible assumption) | assumption)
                  obtain ⟨ad187, e187, hx187_0, hx187_1, hx187_2, hx187_3⟩ := at_T63 HR1_3.out x9_3 p187 q187
                  have hw187_3 := hx187_3
                  have hw187_2 := hx187_2
                  have hw187_1 := hx187_1
                  have hw187_0 := hx187_0
                  cases e187
                  replace hx187_0 := clTr HB.out hx187_0
                  replace hx187_1 := clTr HB.out hx187_1
                  replace hx187_2 := clTr HB.out hx187_2
                  replace hx187_3 := clTr HB.out hx187_3
                  replace p187 := eq_true p187
                  replace q187 := eq_true q187
                  have p188 : 0 ≤ (x10_4 : Int) := of_decide_eq_true (by first | (with_reducible assumption) | assumption)
                  have q188 : x10_4 < (l1_3.length : Int) := of_decide_eq_true (by first | (with_reducible assumption) | assumption)
                  obtain ⟨ad188, e188, hx188_0, hx188_1, hx188_2, hx188_3⟩ := at_T63 HR1_3.out x10_4 p188 q188
                  have hw188_3 := hx188_3
                  have hw188_2 := hx188_2
                  have hw188_1 := hx188_1
                  have hw188_0 := hx188_0
                  obtain rfl : ad187 = ad188 := (by injection e188)
                  replace hx188_0 := clTr HB.out hx188_0
                  replace hx188_1 := clTr HB.out hx188_1
                  replace hx188_2 := clTr HB.out hx188_2
                  replace hx188_3 := clTr HB.out hx188_3
                  replace p188 := eq_true p188
                  replace q188 := eq_true q188
                  refine start_ (n := 19) (S := fun w' => w'.cell? ⟨gb173, 0, none⟩ = some (.int .i64 a1_0) ∧ w'.cell? ⟨gb173, 1, none⟩ = some (.int .i64 a1_1) ∧ w'.cell? ⟨gb173, 2, none⟩ = some (.int .i64 a1_2) ∧ w'.cell? ⟨gb173, 3, none⟩ = some (.slice (some ad187) l1_3.length c1_3) ∧ w'.cell? (ad187.add ((x9_3).toNat * 4)) = some (.int .i64 ((rd_T63 l1_3 x9_3).f0.f0)) ∧ w'.cell? ⟨(ad187.add ((x9_3).toNat * 4)).block, (ad187.add ((x9_3).toNat * 4)).off + 1, none⟩ = some (.int .i64 ((rd_T63 l1_3 x9_3).f0.f1)) ∧ w'.cell? ⟨(ad187.add ((x9_3).toNat * 4)).block, (ad187.add ((x9_3).toNat * 4)).off + 2, none⟩ = some (.int .i64 ((rd_T63 l1_3 x9_3).f0.f2)) ∧ w'.cell? ⟨(ad187.add ((x9_3).toNat * 4)).block, (ad187.add ((x9_3).toNat * 4)).off + 3, none⟩ = some (.int .i64 ((rd_T63 l1_3 x9_3).f1)) ∧ w'.cell? (ad187.add ((x10_4).toNat * 4)) = some (.int .i64 ((rd_T63 l1_3 x10_4).f0.f0)) ∧ w'.cell? ⟨(ad187.add ((x10_4).toNat * 4)).block, (ad187.add ((x10_4).toNat * 4)).off + 1, none⟩ = some (.int .i64 ((rd_T63 l1_3 x10_4).f0.f1)) ∧ w'.cell? ⟨(ad187.add ((x10_4).toNat * 4)).block, (ad187.add ((x10_4).toNat * 4)).off + 2, none⟩ = some (.int .i64 ((rd_T63 l1_3 x10_4).f0.f2)) ∧ w'.cell? ⟨(ad187.add ((x10_4).toNat * 4)).block, (ad187.add ((x10_4).toNat * 4)).off + 3, none⟩ = some (.int .i64 ((rd_T63 l1_3 x10_4).f1))) (ds := []) (bv_ 19 0) (by kernel_rfl) rfl rfl ⟨(blk_cell BK173.out 0).trans rfl, (blk_cell BK173.out 1).trans rfl, (blk_cell BK173.out 2).trans rfl, (blk_cell BK173.out 3).trans rfl, (clTr HB.out hw187_0 :), (clTr HB.out hw187_1 :), (clTr HB.out hw187_2 :), (clTr HB.out hw187_3 :), (clTr HB.out hw188_0 :), (clTr HB.out hw188_1 :), (clTr HB.out hw188_2 :), (clTr HB.out hw188_3 :)⟩ (fun hHeld => ?_); refine with_tabW spec_l08Is.tab20 spec_l08Is.bits20 (fun HT_ HW_ => ?_)
                  generalize wr.drew = w92 at BK173 HB hx187_0 hx187_1 hx187_2 hx187_3 hx188_0 hx188_1 hx188_2 hx188_3 hHeld ⊢
                  refine pu_ HT_ 0 (some 101) (bv_ 19 1) ?_
                  refine pu_ HT_ 1 (some 102) (bv_ 19 3) ?_
                  refine pu_ HT_ 2 (some 103) (bv_ 19 7) ?_
                  refine pu_ HT_ 3 (some 104) (bv_ 19 15) ?_
                  refine pu_ HT_ 4 (some 105) (bv_ 19 31) ?_
                  refine pu_ HT_ 5 (some 106) (bv_ 19 63) ?_
                  refine pu_ HT_ 7 (some 108) (bv_ 19 191) ?_
                  refine pu_ HT_ 11 (some 112) (bv_ 19 2239) ?_
                  refine pu_ HT_ 13 (some 114) (bv_ 19 10431) ?_
                  refine ta_ HT_ HW_ 6 (some 107) (bv_ 19 10495) hHeld ?_ (hy := by rintro w' ⟨s0, s1, s2, s3, s4, s5, s6, s7, s8, s9, s10, s11⟩; go_simp; with_reducible rfl)
                  refine pu_ HT_ 8 (some 109) (bv_ 19 10751) ?_
                  refine pu_ HT_ 9 (some 110) (bv_ 19 11263) ?_
                  refine ta_ HT_ HW_ 10 (some 111) (bv_ 19 12287) hHeld ?_ (hy := by rintro w' ⟨s0, s1, s2, s3, s4, s5, s6, s7, s8, s9, s10, s11⟩; go_simp; with_reducible rfl)
                  refine ta_ HT_ HW_ 12 (some 113) (bv_ 19 16383) hHeld ?_ (hy := by rintro w' ⟨s0, s1, s2, s3, s4, s5, s6, s7, s8, s9, s10, s11⟩; go_simp; with_reducible rfl)
                  refine pu_ HT_ 14 (some 115) (bv_ 19 32767) ?_
                  refine pu_ HT_ 15 (some 116) (bv_ 19 65535) ?_
                  refine ta_ HT_ HW_ 16 (some 117) (bv_ 19 131071) hHeld ?_ (hy := by rintro w' ⟨s0, s1, s2, s3, s4, s5, s6, s7, s8, s9, s10, s11⟩; go_simp; with_reducible rfl)
                  refine one_ (i := 17) (N := some 118) (bv_ 19 262143) rfl rfl (one_of HT_.out (by kernel_rfl)) (by decide) (fun K hK => ?_)
                  refine goes_ Try.func54 (by kernel_rfl) rfl #[.int .i64 a0, .agg #[.int .i64 ((rd_T63 l1_3 x9_3).f0.f0), .int .i64 ((rd_T63 l1_3 x9_3).f0.f1), .int .i64 ((rd_T63 l1_3 x9_3).f0.f2)], .agg #[.int .i64 ((rd_T63 l1_3 x10_4).f0.f0), .int .i64 ((rd_T63 l1_3 x10_4).f0.f1), .int .i64 ((rd_T63 l1_3 x10_4).f0.f2)]] (by rfl) rfl rfl (by (try simp only [List.map_toArray, List.map_cons, List.map_nil]); first | done | rfl | (simp only [List.length_drop, List.length_take]; rfl)) ?_
                  with_reducible refine (spec_l01Holds.calls k4 a0 ((rd_T63 l1_3 x9_3).f0.f0) ((rd_T63 l1_3 x9_3).f0.f1) ((rd_T63 l1_3 x9_3).f0.f2) ((rd_T63 l1_3 x10_4).f0.f0) ((rd_T63 l1_3 x10_4).f0.f1) ((rd_T63 l1_3 x10_4).f0.f2) false _ A86.out).mono ?_
                  rintro e w93 ⟨rfl, hb⟩
                  refine ⟨_, rfl, ?_⟩
                  replace BK173 := bb_ BK173 hb
                  replace HB := bt_ HB hb
                  (try clear hb)
                  (try clear hb2)
                  (try clear hk)
                  (try clear hi)
                  refine hK.out _ _ ⟨(blk_cell BK173.out 0).trans rfl, (blk_cell BK173.out 1).trans rfl, (blk_cell BK173.out 2).trans rfl, (blk_cell BK173.out 3).trans rfl, (clTr HB.out hw187_0 :), (clTr HB.out hw187_1 :), (clTr HB.out hw187_2 :), (clTr HB.out hw187_3 :), (clTr HB.out hw188_0 :), (clTr HB.out hw188_1 :), (clTr HB.out hw188_2 :), (clTr HB.out hw188_3 :)⟩ (fun hHeld => ?_)
                  clear hK K
                  refine norm_ (a' := ?_) ?_ ?_
                  rotate_left
                  ·show Act.put _ (some 118) _ = _
                   simp only [Act.put, lstS, lstZ, lstC, i64_w, i32_w]
                   rfl
                  refine pu_ HT_ 18 (some 119) (bv_ 19 524287) ?_
                  refine done_ (done_of HT_.out (by kernel_rfl)) ?_
                  try go_wp2
                  go_roundg k4
                  case measure => have := HJ2.out; have := HK2.out; have := HK3.out; have := HK4.out; omega
                  case rel => exact ⟨(wrap64 (x10_4 + 1)), (by first | rfl | (simp; done) | (simp [*]; done) | (simp [wrap64]; done)), H', ⟨by have := HJ2.out; have := HK2.out; have := HK3.out; have := HK4.out; omega⟩, bl_ BK173, bw_ HB⟩
                ·rw [if_neg c85] at H
                 exact absurd H (by simp)
               ·rw [if_neg c84] at H
                exact absurd H (by simp)
              ·rw [if_neg c83] at H
               exact absurd H (by simp)
            ·rw [if_neg c79] at H
             have c79b0 : decide (x10_4 < (l1_3.length : Int)) = false := decide_eq_false c79
             clear c79
             by_cases c94 : 0 ≤ x9_3
             ·rw [if_pos c94] at H
              have c94b0 : decide (0 ≤ x9_3) = true := decide_eq_true c94
              clear c94
              by_cases c95 : x9_3 < (l1_3.length : Int)
              ·rw [if_pos c95] at H
               have c95b0 : decide (x9_3 < (l1_3.length : Int)) = true := decide_eq_true c95
               clear c95
               replace H := Option.bind_eq_some_iff.mp H
               obtain ⟨t191, A960, H⟩ := H
               have A96 := Aside0.mk A960
               clear A960
               have H' := Aside0.mk H
               clear H
               have hcz97_0 : wr.cell? ⟨gb173, 0, none⟩ = some (.int .i64 a1_0) := cz_ BK173 0
               have hcz97_1 : wr.cell? ⟨gb173, 1, none⟩ = some (.int .i64 a1_1) := cz_ BK173 1
               have hcz97_2 : wr.cell? ⟨gb173, 2, none⟩ = some (.int .i64 a1_2) := cz_ BK173 2
               have hcz97_3 : wr.cell? ⟨gb173, 3, none⟩ = some (.slice A1_3 l1_3.length c1_3) := cz_ BK173 3
               have hfz97_0 := fz_ BK173 0
               have hfz97_1 := fz_ BK173 1
               have hfz97_2 := fz_ BK173 2
               have hfz97_3 := fz_ BK173 3
               have p190 : 0 ≤ (x9_3 : Int) := of_decide_eq_true (by first | (with_reducible assumption) | assumption)
               have q190 : x9_3 < (l1_3.length : Int) := of_decide_eq_true (by first | (with_reducible assumption) | assumption)
               obtain ⟨ad190, e190, hx190_0, hx190_1, hx190_2, hx190_3⟩ := at_T63 HR1_3.out x9_3 p190 q190
               cases e190
               replace hx190_0 := clTr HB.out hx190_0
               replace hx190_1 := clTr HB.out hx190_1
               replace hx190_2 := clTr HB.out hx190_2
               replace hx190_3 := clTr HB.out hx190_3
               replace p190 := eq_true p190
               replace q190 := eq_true q190
               go_wp2_with (first | ((with_reducible refine gate_callee (f := 64) rfl ?_); refine ge_ 131 Try.func64 #[.int .i64 a0, .int .i64 (wrap64 (x5_2 - ((rd_T63 l1_3 x9_3).f0.f0)))] ?_; (with_reducible refine (spec_l01Power.calls k4 a0 (wrap64 (x5_2 - ((rd_T63 l1_3 x9_3).f0.f0))) t191 _ A96.out).mono ?_); rintro e w' ⟨rfl, ⟨nd, rfl⟩⟩; refine ⟨_, rfl, ?_⟩))
               go_roundg k4
               case measure => have := HJ2.out; have := HK2.out; have := HK3.out; have := HK4.out; omega
               case rel => exact ⟨(wrap64 (x8_3 + t191)), (wrap64 (x9_3 + 1)), (by first | rfl | (simp; done) | (simp [*]; done) | (simp [wrap64]; done)), (by first | rfl | (simp; done) | (simp [*]; done) | (simp [wrap64]; done)), H', ⟨by have := HJ2.out; have := HK2.out; have := HK3.out; have := HK4.out; omega⟩, bl_ BK173, bw_ HB⟩
              ·rw [if_neg c95] at H
               exact absurd H (by simp)
             ·rw [if_neg c94] at H
              exact absurd H (by simp)
         ·rw [if_neg c77] at H
          have c77b0 : decide (x9_3 < (l1_3.length : Int)) = false := decide_eq_false c77
          clear c77
          replace H := Option.bind_eq_some_iff.mp H
          obtain ⟨t186, A980, H⟩ := H
          have A98 := Aside0.mk A980
          clear A980
          obtain rfl := Option.some.inj H
          have hcz99_0 : wr.cell? ⟨gb173, 0, none⟩ = some (.int .i64 a1_0) := cz_ BK173 0
          have hcz99_1 : wr.cell? ⟨gb173, 1, none⟩ = some (.int .i64 a1_1) := cz_ BK173 1
          have hcz99_2 : wr.cell? ⟨gb173, 2, none⟩ = some (.int .i64 a1_2) := cz_ BK173 2
          have hcz99_3 : wr.cell? ⟨gb173, 3, none⟩ = some (.slice A1_3 l1_3.length c1_3) := cz_ BK173 3
          have hfz99_0 := fz_ BK173 0
          have hfz99_1 := fz_ BK173 1
          have hfz99_2 := fz_ BK173 2
          have hfz99_3 := fz_ BK173 3
          go_wp2_with (first | ((with_reducible refine gate_callee (f := 64) rfl ?_); refine ge_ 140 Try.func64 #[.int .i64 a0, .int .i64 (wrap64 (x5_2 - a1_0))] ?_; (with_reducible refine (spec_l01Power.calls k3 a0 (wrap64 (x5_2 - a1_0)) t186 _ A98.out).mono ?_); rintro e w' ⟨rfl, ⟨nd, rfl⟩⟩; refine ⟨_, rfl, ?_⟩))
          go_ret
          exact ⟨by first | rfl | (simp [errW_none, errW_some] <;> rfl) | (simp [*, errW_none, errW_some] <;> rfl), by repeat (first | (with_reducible first | exact HB.out | apply below_alloc | apply pw_below_drewN | apply below_drew1 | refine below_set ?_ GE173.out) | exact HB.out)⟩
end Go.Proofs.Ytoiailmmgfokjaa.QC
