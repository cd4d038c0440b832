-- Written by a program of this session out of Lean's own print of the loaded program; Lean checks it.
import Derived.Test.YtbldceikdajdlaaQCx5
import Derived.Test.YtbldceikdajdlaaQCx9
import Derived.Test.YtbldceikdajdlaaQCx13
import Derived.Test.YtbldceikdajdlaaQCx22
namespace Go.Proofs.Ytbldceikdajdlaa.QC
open Go.RowKit Go.Proofs.YtbldceikdajdlaaW.PrintWords Go.Proofs.YtbldceikdajdlaaW.PrintLast Go.Proofs.YtbldceikdajdlaaW.PrintMore
attribute [local go_sem] isSome_setCell max2_int min2_int max_two min_two max_three min_three max_four min_four   -- for this text's walks alone
set_option linter.unusedVariables false
set_option linter.unusedSimpArgs false

/-! ### spec_DigitMeasure: function 7 -/
mutual
def spec_DigitMeasure.l0 : Nat → Int → Int → List Int → Int → Int → Int → Int → Option (Int × Int × Int × (List (S52)) × Int)
 | 0, _, _, _, _, _, _, _ => none
 | k + 1, x0, x2, x3, x10, x214000, x214001, x214002 => if x10 < (x3.length : Int) then (if 0 ≤ x10 then ((spec_l01In.f (rd x3 x10) (-1000000) 1000000).bind fun t221 => (if t221 = true then (spec_DigitMeasure.l0 k x0 x2 x3 (wrap64 (x10 + 1)) x214000 x214001 x214002) else (some (0, 0, 0, ([] : List (S52)), 2)))) else (none)) else (spec_DigitMeasure.l1 k x0 x2 x3 (([(⟨(⟨x214000, x214001, x214002⟩ : S25), 1⟩ : S52)] : List (S52))) x214000 x214001 x214002)
def spec_DigitMeasure.l1 : Nat → Int → Int → List Int → List (S52) → Int → Int → Int → Option (Int × Int × Int × (List (S52)) × Int)
 | 0, _, _, _, _, _, _, _ => none
 | k + 1, x0, x2, x3, x11, x214000, x214001, x214002 => if x2 > 0 then (spec_DigitMeasure.l2 k x0 x2 x3 x11 (([] : List (S52))) 0 x214000 x214001 x214002) else ((spec_l08Told.f k x0 x214000 x214001 x214002 x11).bind fun bt225 => (some (bt225.1, bt225.2.1, bt225.2.2.1, bt225.2.2.2.1, bt225.2.2.2.2)))
def spec_DigitMeasure.l2 : Nat → Int → Int → List Int → List (S52) → List (S52) → Int → Int → Int → Int → Option (Int × Int × Int × (List (S52)) × Int)
 | 0, _, _, _, _, _, _, _, _, _ => none
 | k + 1, x0, x2, x3, x11, x12, x13, x214000, x214001, x214002 => if x13 < (x11.length : Int) then (if 0 ≤ x13 then ((spec_l02Children.f k x0 ((rd_T52 x11 x13).f0.f0) ((rd_T52 x11 x13).f0.f1) ((rd_T52 x11 x13).f0.f2)).bind fun bt237 => (if bt237.2 = true then (spec_DigitMeasure.j3 k x0 x2 x3 x11 x12 x13 bt237.1 (decide ((wrap64 ((x12.length : Int) + (bt237.1.length : Int))) > 64)) x214000 x214001 x214002) else (spec_DigitMeasure.j3 k x0 x2 x3 x11 x12 x13 bt237.1 true x214000 x214001 x214002))) else (none)) else (spec_DigitMeasure.l1 k x0 (wrap64 (x2 - 1)) x3 x12 x214000 x214001 x214002)
def spec_DigitMeasure.j3 : Nat → Int → Int → List Int → List (S52) → List (S52) → Int → List (S25) → Bool → Int → Int → Int → Option (Int × Int × Int × (List (S52)) × Int)
 | 0, _, _, _, _, _, _, _, _, _, _, _ => none
 | k + 1, x0, x2, x3, x11, x12, x13, x14, x84, x214000, x214001, x214002 => if x84 = true then (some (0, 0, 0, ([] : List (S52)), 3)) else (spec_DigitMeasure.l3 k x0 x2 x3 x11 x12 x13 x14 0 x214000 x214001 x214002)
def spec_DigitMeasure.l3 : Nat → Int → Int → List Int → List (S52) → List (S52) → Int → List (S25) → Int → Int → Int → Int → Option (Int × Int × Int × (List (S52)) × Int)
 | 0, _, _, _, _, _, _, _, _, _, _, _ => none
 | k + 1, x0, x2, x3, x11, x12, x13, x14, x16, x214000, x214001, x214002 => if x16 < (x14.length : Int) then (if 0 ≤ x13 then (if x13 < (x11.length : Int) then (if 0 ≤ x16 then (if x16 < (x3.length : Int) then ((spec_l01In.f (wrap64 (((rd_T52 x11 x13).f1) * (rd x3 x16))) (-1000000) 1000000).bind fun t243 => (if t243 = true then (if x12.length < 4398046511104 then (spec_DigitMeasure.l3 k x0 x2 x3 x11 (x12 ++ [(⟨(⟨(rd_T25 x14 x16).f0, (rd_T25 x14 x16).f1, (rd_T25 x14 x16).f2⟩ : S25), wrap64 (((rd_T52 x11 x13).f1) * (rd x3 x16))⟩ : S52)]) x13 x14 (wrap64 (x16 + 1)) x214000 x214001 x214002) else (none)) else (some (0, 0, 0, ([] : List (S52)), 3)))) else (none)) else (none)) else (none)) else (none)) else (spec_DigitMeasure.l2 k x0 x2 x3 x11 x12 (wrap64 (x13 + 1)) x214000 x214001 x214002)
end
def spec_DigitMeasure.f (k : Nat) (a0 : Int) (a1_0 : Int) (a1_1 : Int) (a1_2 : Int) (a2 : Int) (l3 : List Int) : Option (Int × Int × Int × (List (S52)) × Int) := (spec_l01Code.f k a0 (([(⟨a1_0, a1_1, a1_2⟩ : S25)] : List (S25)))).bind fun t218 => (if t218 = 0 then ((spec_l01In.f a2 0 6).bind fun t219 => (if t219 = true then (if (l3.length : Int) = a0 then (spec_DigitMeasure.l0 k a0 a2 l3 0 a1_0 a1_1 a1_2) else (some (0, 0, 0, ([] : List (S52)), 2))) else (some (0, 0, 0, ([] : List (S52)), 2)))) else (some (0, 0, 0, ([] : List (S52)), 1)))
set_option maxHeartbeats 8000000 in
set_option maxRecDepth 100000 in
theorem spec_DigitMeasure.calls (k : Nat) (a0 : Int) (a1_0 : Int) (a1_1 : Int) (a1_2 : Int) (a2 : Int) (A3 : Option Addr) (c3 : Nat) (l3 : List Int) (r1 : Int) (r2 : Int) (r3 : Int) (r4 : List (S52)) (r5 : Int) (w : World) (hr3 : Kd.C (Kd.int .i64) w A3 l3.length l3) (hc3 : l3.length ≤ c3) (h : spec_DigitMeasure.f k a0 a1_0 a1_1 a1_2 a2 l3 = some (r1, r2, r3, r4, r5)) :
  Calls Try.prog 7 #[.int .i64 a0, .agg #[.int .i64 a1_0, .int .i64 a1_1, .int .i64 a1_2], .int .i64 a2, .slice A3 l3.length c3] w fun e w' => ∃ v3_ : Value, e = .returned (.tuple #[.agg #[.int .i64 r1, .int .i64 r2, .int .i64 r3, v3_], .int .i64 r5]) ∧ Kd.R k52 52 w' w.heap.size (fun _ => True) v3_ r4 ∧ Below w.heap.size w w' := by
 have hu25 := Try.underlying25
 have hu28 := Try.underlying28
 have hu52 := Try.underlying52
 have HR3 := Aside0.mk hr3
 have HC3 := Aside0.mk hc3
 clear hr3 hc3
 have HB := Aside0.mk (Below.refl w.heap.size w)
 have H : ((spec_l01Code.f k a0 (([(⟨a1_0, a1_1, a1_2⟩ : S25)] : List (S25)))).bind fun t218 => (if t218 = 0 then ((spec_l01In.f a2 0 6).bind fun t219 => (if t219 = true then (if (l3.length : Int) = a0 then (spec_DigitMeasure.l0 k a0 a2 l3 0 a1_0 a1_1 a1_2) else (some (0, 0, 0, ([] : List (S52)), 2))) else (some (0, 0, 0, ([] : List (S52)), 2)))) else (some (0, 0, 0, ([] : List (S52)), 1)))) = some (r1, r2, r3, r4, r5) := h
 clear h
 obtain ⟨y215, hy215⟩ : ∃ y_ : List (S25), y_ = (([(⟨a1_0, a1_1, a1_2⟩ : S25)] : List (S25))) := ⟨_, rfl⟩
 replace H : ((spec_l01Code.f k a0 y215).bind fun t218 => (if t218 = 0 then ((spec_l01In.f a2 0 6).bind fun t219 => (if t219 = true then (if (l3.length : Int) = a0 then (spec_DigitMeasure.l0 k a0 a2 l3 0 a1_0 a1_1 a1_2) else (some (0, 0, 0, ([] : List (S52)), 2))) else (some (0, 0, 0, ([] : List (S52)), 2)))) else (some (0, 0, 0, ([] : List (S52)), 1)))) = some (r1, r2, r3, r4, r5) := by first | (rw [hy215]; with_reducible exact H) | (have H2_ := (Option.bind_some _ _).symm.trans H; rw [hy215]; with_reducible exact H2_) | (have H2_ := (Option.bind_some _ _).symm.trans H; with_reducible exact H2_) | with_reducible exact H | (rw [hy215]; exact H) | exact H
 have Ny215 := Aside0.mk hy215
 clear hy215
 replace H := Option.bind_eq_some_iff.mp H
 obtain ⟨t218, A50, H⟩ := H
 have A5 := Aside0.mk A50
 clear A50
 by_cases c6 : t218 = 0
 ·rw [if_pos c6] at H
  have c6b0 : (t218 == 0) = true := beq_iff_eq.mpr c6
  have c6b1 : (t218 != 0) = false := bne_eq_false_iff_eq.mpr c6
  clear c6
  replace H := Option.bind_eq_some_iff.mp H
  obtain ⟨t219, A70, H⟩ := H
  have A7 := Aside0.mk A70
  clear A70
  by_cases c8 : t219 = true
  ·subst c8
   have H1 : (if (l3.length : Int) = a0 then (spec_DigitMeasure.l0 k a0 a2 l3 0 a1_0 a1_1 a1_2) else (some (0, 0, 0, ([] : List (S52)), 2))) = some (r1, r2, r3, r4, r5) := by rw [if_pos rfl] at H; exact H
   clear H
   have H := H1
   clear H1
   by_cases c9 : (l3.length : Int) = a0
   ·rw [if_pos c9] at H
    have c9b0 : ((l3.length : Int) == a0) = true := beq_iff_eq.mpr c9
    have c9b1 : ((l3.length : Int) != a0) = false := bne_eq_false_iff_eq.mpr c9
    clear c9
    have H' := Aside0.mk H
    clear H
    go_enter Try.func7, Try.ntmps7
    go_wp2_with (first | ((with_reducible refine gate_dst (N := 5) rfl ?_); (try (refine gate_guard (by rfl) ?_; dsimp only)); refine bx_ 5 #[.int .i64 a1_0, .int .i64 a1_1, .int .i64 a1_2] 25 ?_; intro gb213 hg w10 hbox hb; have BK213 := Aside0.mk (hbox); have GW213 := bs_ HB hg; have GE213 := bs_ HB hg; replace HB := bt_ HB hb; clear hb hbox hg) | ((with_reducible refine gate_dst (N := 8) rfl ?_); (try (refine gate_guard (by rfl) ?_; dsimp only)); refine bx_ 8 #[.int .i64 0, .int .i64 0, .int .i64 0, .slice none 0 0] 28 ?_; intro gb214 hg w11 hbox hb; have BK214 := Aside0.mk (hbox); have GW214 := bs_ HB hg; have GE214 := bs_ HB hg; have NB213_214 := bm_ BK213 hg; have NB214_213 := bn_ BK213 hg; replace BK213 := bb_ BK213 hb; replace HB := bt_ HB hb; clear hb hbox hg; have hnb12 := NB213_214.out; have hnc12 := NB214_213.out; have hcz13_0 : w11.cell? ⟨gb213, 0, none⟩ = some (.int .i64 a1_0) := cz_ BK213 0; have hcz13_1 : w11.cell? ⟨gb213, 1, none⟩ = some (.int .i64 a1_1) := cz_ BK213 1; have hcz13_2 : w11.cell? ⟨gb213, 2, none⟩ = some (.int .i64 a1_2) := cz_ BK213 2; have hfz13_0 := fz_ BK213 0; have hfz13_1 := fz_ BK213 1; have hfz13_2 := fz_ BK213 2) | ((with_reducible refine gate_dst (N := 23) rfl ?_); (try (refine gate_guard (by rfl) ?_; dsimp only)); refine Kd.R_lit k25 _ 25 ?hg (N := 23) ?hd (xs := ([(⟨a1_0, a1_1, a1_2⟩ : S25)] : List (S25))) (inner := [.int .i64 a1_0, .int .i64 a1_1, .int .i64 a1_2]) (ok := fun _ => True) (okp := fun _ => True) ?hr ?hp (fun _ hk => hk) trivial (Below.refl _ _) (Nat.le_refl _) (by simp) ?_; (case hd => rfl); (case hg => rfl); (case hr => first | (go_simp; done) | (go_simp; rfl)); (case hp => exact (Reps.c3 (show Kd.M k25 _ _ _ (⟨a1_0, a1_1, a1_2⟩ : S25) [.int .i64 a1_0, .int .i64 a1_1, .int .i64 a1_2] from (k25_mkM _ _ _ (⟨a1_0, a1_1, a1_2⟩ : S25) )) (Reps.none _ _))); intro v216 w14 ho15 hb hg_ hnew_; clear hg_ hnew_; (first | rw [← Ny215.out] at ho15 | (simp only [Int.reduceToNat] at ho15; rw [← Ny215.out] at ho15)); have HO217 := Aside0.mk (Kd.R_lower (Kd.R_newB ho15 (g := gb213) (o := .cells #[.int .i64 a1_0, .int .i64 a1_1, .int .i64 a1_2] 25 (0, 0)) (bl_ BK213).out) (below_size (bw_ HB).out)); replace BK213 := bb_ BK213 hb; replace BK214 := bb_ BK214 hb; replace HB := bt_ HB hb; clear hb ho15; obtain ⟨Ao16, co16, eo16⟩ := Kd.R_slice HO217.out; subst eo16) | (go_at_call 24; (with_reducible refine (spec_l01Code.calls k a0 _ _ y215 t218 _ ?side1 ?side2 A5.out).mono ?_); (case side1 => repeat (first | exact (Kd.R_reads' HO217.out).2.2 | (with_reducible refine Kd.C_alloc ?_ _) | (with_reducible refine Kd.C_drewN ?_ _) | (with_reducible refine Kd.C_drew ?_))); (case side2 => exact (Kd.R_reads' HO217.out).2.1); rintro e w17 ⟨rfl, hb⟩; replace HO217 := Aside0.mk (Kd.R_below (ra_ HO217.out) hb); replace BK213 := bb_ BK213 hb; replace BK214 := bb_ BK214 hb; replace HB := bt_ HB hb; (try clear hb); (try clear hb2); (try clear hk); (try clear hi)) | (go_at_call 25; (with_reducible refine (spec_l01In.calls a2 0 6 true _ A7.out).mono ?_); rintro e w' ⟨rfl, ⟨nd, rfl⟩⟩; (try first | exact ⟨rfl, _, World.drewN_drewN _ _ _⟩ | exact ⟨rfl, _, Eq.trans (World.drewN_drewN _ _ _) (congrArg (World.drewN _) (Nat.add_assoc _ _ _))⟩)))
    repeat (go_quiet (first | ((with_reducible refine gate_dst (N := 5) rfl ?_); (try (refine gate_guard (by rfl) ?_; dsimp only)); refine bx_ 5 #[.int .i64 a1_0, .int .i64 a1_1, .int .i64 a1_2] 25 ?_; intro gb213 hg w10 hbox hb; have BK213 := Aside0.mk (hbox); have GW213 := bs_ HB hg; have GE213 := bs_ HB hg; replace HB := bt_ HB hb; clear hb hbox hg) | ((with_reducible refine gate_dst (N := 8) rfl ?_); (try (refine gate_guard (by rfl) ?_; dsimp only)); refine bx_ 8 #[.int .i64 0, .int .i64 0, .int .i64 0, .slice none 0 0] 28 ?_; intro gb214 hg w11 hbox hb; have BK214 := Aside0.mk (hbox); have GW214 := bs_ HB hg; have GE214 := bs_ HB hg; have NB213_214 := bm_ BK213 hg; have NB214_213 := bn_ BK213 hg; replace BK213 := bb_ BK213 hb; replace HB := bt_ HB hb; clear hb hbox hg; have hnb12 := NB213_214.out; have hnc12 := NB214_213.out; have hcz13_0 : w11.cell? ⟨gb213, 0, none⟩ = some (.int .i64 a1_0) := cz_ BK213 0; have hcz13_1 : w11.cell? ⟨gb213, 1, none⟩ = some (.int .i64 a1_1) := cz_ BK213 1; have hcz13_2 : w11.cell? ⟨gb213, 2, none⟩ = some (.int .i64 a1_2) := cz_ BK213 2; have hfz13_0 := fz_ BK213 0; have hfz13_1 := fz_ BK213 1; have hfz13_2 := fz_ BK213 2) | ((with_reducible refine gate_dst (N := 23) rfl ?_); (try (refine gate_guard (by rfl) ?_; dsimp only)); refine Kd.R_lit k25 _ 25 ?hg (N := 23) ?hd (xs := ([(⟨a1_0, a1_1, a1_2⟩ : S25)] : List (S25))) (inner := [.int .i64 a1_0, .int .i64 a1_1, .int .i64 a1_2]) (ok := fun _ => True) (okp := fun _ => True) ?hr ?hp (fun _ hk => hk) trivial (Below.refl _ _) (Nat.le_refl _) (by simp) ?_; (case hd => rfl); (case hg => rfl); (case hr => first | (go_simp; done) | (go_simp; rfl)); (case hp => exact (Reps.c3 (show Kd.M k25 _ _ _ (⟨a1_0, a1_1, a1_2⟩ : S25) [.int .i64 a1_0, .int .i64 a1_1, .int .i64 a1_2] from (k25_mkM _ _ _ (⟨a1_0, a1_1, a1_2⟩ : S25) )) (Reps.none _ _))); intro v216 w14 ho15 hb hg_ hnew_; clear hg_ hnew_; (first | rw [← Ny215.out] at ho15 | (simp only [Int.reduceToNat] at ho15; rw [← Ny215.out] at ho15)); have HO217 := Aside0.mk (Kd.R_lower (Kd.R_newB ho15 (g := gb213) (o := .cells #[.int .i64 a1_0, .int .i64 a1_1, .int .i64 a1_2] 25 (0, 0)) (bl_ BK213).out) (below_size (bw_ HB).out)); replace BK213 := bb_ BK213 hb; replace BK214 := bb_ BK214 hb; replace HB := bt_ HB hb; clear hb ho15; obtain ⟨Ao16, co16, eo16⟩ := Kd.R_slice HO217.out; subst eo16) | (go_at_call 24; (with_reducible refine (spec_l01Code.calls k a0 _ _ y215 t218 _ ?side1 ?side2 A5.out).mono ?_); (case side1 => repeat (first | exact (Kd.R_reads' HO217.out).2.2 | (with_reducible refine Kd.C_alloc ?_ _) | (with_reducible refine Kd.C_drewN ?_ _) | (with_reducible refine Kd.C_drew ?_))); (case side2 => exact (Kd.R_reads' HO217.out).2.1); rintro e w17 ⟨rfl, hb⟩; replace HO217 := Aside0.mk (Kd.R_below (ra_ HO217.out) hb); replace BK213 := bb_ BK213 hb; replace BK214 := bb_ BK214 hb; replace HB := bt_ HB hb; (try clear hb); (try clear hb2); (try clear hk); (try clear hi)) | (go_at_call 25; (with_reducible refine (spec_l01In.calls a2 0 6 true _ A7.out).mono ?_); rintro e w' ⟨rfl, ⟨nd, rfl⟩⟩; (try first | exact ⟨rfl, _, World.drewN_drewN _ _ _⟩ | exact ⟨rfl, _, Eq.trans (World.drewN_drewN _ _ _) (congrArg (World.drewN _) (Nat.add_assoc _ _ _))⟩))); try go_wp2_with (first | ((with_reducible refine gate_dst (N := 5) rfl ?_); (try (refine gate_guard (by rfl) ?_; dsimp only)); refine bx_ 5 #[.int .i64 a1_0, .int .i64 a1_1, .int .i64 a1_2] 25 ?_; intro gb213 hg w10 hbox hb; have BK213 := Aside0.mk (hbox); have GW213 := bs_ HB hg; have GE213 := bs_ HB hg; replace HB := bt_ HB hb; clear hb hbox hg) | ((with_reducible refine gate_dst (N := 8) rfl ?_); (try (refine gate_guard (by rfl) ?_; dsimp only)); refine bx_ 8 #[.int .i64 0, .int .i64 0, .int .i64 0, .slice none 0 0] 28 ?_; intro gb214 hg w11 hbox hb; have BK214 := Aside0.mk (hbox); have GW214 := bs_ HB hg; have GE214 := bs_ HB hg; have NB213_214 := bm_ BK213 hg; have NB214_213 := bn_ BK213 hg; replace BK213 := bb_ BK213 hb; replace HB := bt_ HB hb; clear hb hbox hg; have hnb12 := NB213_214.out; have hnc12 := NB214_213.out; have hcz13_0 : w11.cell? ⟨gb213, 0, none⟩ = some (.int .i64 a1_0) := cz_ BK213 0; have hcz13_1 : w11.cell? ⟨gb213, 1, none⟩ = some (.int .i64 a1_1) := cz_ BK213 1; have hcz13_2 : w11.cell? ⟨gb213, 2, none⟩ = some (.int .i64 a1_2) := cz_ BK213 2; have hfz13_0 := fz_ BK213 0; have hfz13_1 := fz_ BK213 1; have hfz13_2 := fz_ BK213 2) | ((with_reducible refine gate_dst (N := 23) rfl ?_); (try (refine gate_guard (by rfl) ?_; dsimp only)); refine Kd.R_lit k25 _ 25 ?hg (N := 23) ?hd (xs := ([(⟨a1_0, a1_1, a1_2⟩ : S25)] : List (S25))) (inner := [.int .i64 a1_0, .int .i64 a1_1, .int .i64 a1_2]) (ok := fun _ => True) (okp := fun _ => True) ?hr ?hp (fun _ hk => hk) trivial (Below.refl _ _) (Nat.le_refl _) (by simp) ?_; (case hd => rfl); (case hg => rfl); (case hr => first | (go_simp; done) | (go_simp; rfl)); (case hp => exact (Reps.c3 (show Kd.M k25 _ _ _ (⟨a1_0, a1_1, a1_2⟩ : S25) [.int .i64 a1_0, .int .i64 a1_1, .int .i64 a1_2] from (k25_mkM _ _ _ (⟨a1_0, a1_1, a1_2⟩ : S25) )) (Reps.none _ _))); intro v216 w14 ho15 hb hg_ hnew_; clear hg_ hnew_; (first | rw [← Ny215.out] at ho15 | (simp only [Int.reduceToNat] at ho15; rw [← Ny215.out] at ho15)); have HO217 := Aside0.mk (Kd.R_lower (Kd.R_newB ho15 (g := gb213) (o := .cells #[.int .i64 a1_0, .int .i64 a1_1, .int .i64 a1_2] 25 (0, 0)) (bl_ BK213).out) (below_size (bw_ HB).out)); replace BK213 := bb_ BK213 hb; replace BK214 := bb_ BK214 hb; replace HB := bt_ HB hb; clear hb ho15; obtain ⟨Ao16, co16, eo16⟩ := Kd.R_slice HO217.out; subst eo16) | (go_at_call 24; (with_reducible refine (spec_l01Code.calls k a0 _ _ y215 t218 _ ?side1 ?side2 A5.out).mono ?_); (case side1 => repeat (first | exact (Kd.R_reads' HO217.out).2.2 | (with_reducible refine Kd.C_alloc ?_ _) | (with_reducible refine Kd.C_drewN ?_ _) | (with_reducible refine Kd.C_drew ?_))); (case side2 => exact (Kd.R_reads' HO217.out).2.1); rintro e w17 ⟨rfl, hb⟩; replace HO217 := Aside0.mk (Kd.R_below (ra_ HO217.out) hb); replace BK213 := bb_ BK213 hb; replace BK214 := bb_ BK214 hb; replace HB := bt_ HB hb; (try clear hb); (try clear hb2); (try clear hk); (try clear hi)) | (go_at_call 25; (with_reducible refine (spec_l01In.calls a2 0 6 true _ A7.out).mono ?_); rintro e w' ⟨rfl, ⟨nd, rfl⟩⟩; (try first | exact ⟨rfl, _, World.drewN_drewN _ _ _⟩ | exact ⟨rfl, _, Eq.trans (World.drewN_drewN _ _ _) (congrArg (World.drewN _) (Nat.add_assoc _ _ _))⟩))))
    go_loopg [10] k (fun kq v10 w' => ∃ (x10_1 : Int) (x215000_1 : Int) (x215001_1 : Int) (x215002_1 : Int), v10 = .int .i64 x10_1 ∧ Aside0 (spec_DigitMeasure.l0 kq a0 a2 l3 x10_1 a1_0 a1_1 a1_2 = some (r1, r2, r3, r4, r5)) ∧ Aside0 (kq ≤ k) ∧ Aside0 (w'.heap[gb213]? = some (.cells #[.int .i64 a1_0, .int .i64 a1_1, .int .i64 a1_2] 25 (0, 0))) ∧ Aside0 (w'.heap[gb214]? = some (.cells #[.int .i64 x215000_1, .int .i64 x215001_1, .int .i64 x215002_1, (.slice none 0 0)] 28 (0, 0))) ∧ Aside0 (Below w.heap.size w w'))
    case atStart => exact ⟨(0), (0), (0), (0), (by first | rfl | (simp; done) | (simp [*]; done) | (simp [wrap64]; done)), H', ⟨Nat.le_refl _⟩, bl_ BK213, bl_ BK214, bw_ HB⟩
    case round =>
     clear H'
     try clear c1
     try clear p2
     try clear c3
     try clear c6
     try clear c6b0
     try clear c6b1
     try clear c7
     try clear c8
     try clear c9
     try clear c9b0
     try clear c9b1
     try clear c12
     try clear hcz13_0
     try clear hcz13_1
     try clear hcz13_2
     try clear hfz13_0
     try clear hfz13_1
     try clear hfz13_2
     obtain ⟨x10_1, x215000_1, x215001_1, x215002_1, rfl, HA, HK1, BK213, BK214, HB⟩ := hrel
     cases gk with
     | zero => exact absurd HA.out (by simp [spec_DigitMeasure.l0])
     | succ k1 =>
      have H := HA.out
      clear HA
      simp only [spec_DigitMeasure.l0] at H
      by_cases c18 : x10_1 < (l3.length : Int)
      ·rw [if_pos c18] at H
       have c18b0 : decide (x10_1 < (l3.length : Int)) = true := decide_eq_true c18
       clear c18
       by_cases c19 : 0 ≤ x10_1
       ·rw [if_pos c19] at H
        have c19b0 : decide (0 ≤ x10_1) = true := decide_eq_true c19
        clear c19
        replace H := Option.bind_eq_some_iff.mp H
        obtain ⟨t221, A200, H⟩ := H
        have A20 := Aside0.mk A200
        clear A200
        by_cases c21 : t221 = true
        ·subst c21
         have H1 : (spec_DigitMeasure.l0 k1 a0 a2 l3 (wrap64 (x10_1 + 1)) a1_0 a1_1 a1_2) = some (r1, r2, r3, r4, r5) := by rw [if_pos rfl] at H; exact H
         clear H
         have H := H1
         clear H1
         have H' := Aside0.mk H
         clear H
         have p220 : 0 ≤ (x10_1 : Int) := of_decide_eq_true (by first | (with_reducible assumption) | assumption)
         have q220 : x10_1 < (l3.length : Int) := of_decide_eq_true (by first | (with_reducible assumption) | assumption)
         obtain ⟨ad220, e220, hx220_0⟩ := Kd.at_int HR3.out x10_1 p220 q220
         cases e220
         replace hx220_0 := clTr HB.out hx220_0
         replace p220 := eq_true p220
         replace q220 := eq_true q220
         go_wp2_with (first | (go_at_call 25; (with_reducible refine (spec_l01In.calls (rd l3 x10_1) (-1000000) 1000000 true _ A20.out).mono ?_); rintro e w' ⟨rfl, ⟨nd, rfl⟩⟩; (try first | exact ⟨rfl, _, World.drewN_drewN _ _ _⟩ | exact ⟨rfl, _, Eq.trans (World.drewN_drewN _ _ _) (congrArg (World.drewN _) (Nat.add_assoc _ _ _))⟩)))
         repeat (go_quiet (first | (go_at_call 25; (with_reducible refine (spec_l01In.calls (rd l3 x10_1) (-1000000) 1000000 true _ A20.out).mono ?_); rintro e w' ⟨rfl, ⟨nd, rfl⟩⟩; (try first | exact ⟨rfl, _, World.drewN_drewN _ _ _⟩ | exact ⟨rfl, _, Eq.trans (World.drewN_drewN _ _ _) (congrArg (World.drewN _) (Nat.add_assoc _ _ _))⟩))); try go_wp2_with (first | (go_at_call 25; (with_reducible refine (spec_l01In.calls (rd l3 x10_1) (-1000000) 1000000 true _ A20.out).mono ?_); rintro e w' ⟨rfl, ⟨nd, rfl⟩⟩; (try first | exact ⟨rfl, _, World.drewN_drewN _ _ _⟩ | exact ⟨rfl, _, Eq.trans (World.drewN_drewN _ _ _) (congrArg (World.drewN _) (Nat.add_assoc _ _ _))⟩))))
         go_roundg k1
         case measure => have := HK1.out; omega
         case rel => exact ⟨(wrap64 (x10_1 + 1)), (x215000_1), (x215001_1), (x215002_1), (by first | rfl | (simp; done) | (simp [*]; done) | (simp [wrap64]; done)), H', ⟨by have := HK1.out; omega⟩, bl_ BK213, bl_ BK214, bw_ HB⟩
        ·replace c21 := Bool.eq_false_iff.mpr c21
         subst c21
         have H1 : (some (0, 0, 0, ([] : List (S52)), 2)) = some (r1, r2, r3, r4, r5) := by rw [if_neg (show ¬ (false = true) by decide)] at H; exact H
         clear H
         have H := H1
         clear H1
         simp only [Option.some.injEq, Prod.mk.injEq] at H
         obtain ⟨rfl, rfl, rfl, rfl, rfl⟩ := H
         have p220 : 0 ≤ (x10_1 : Int) := of_decide_eq_true (by first | (with_reducible assumption) | assumption)
         have q220 : x10_1 < (l3.length : Int) := of_decide_eq_true (by first | (with_reducible assumption) | assumption)
         obtain ⟨ad220, e220, hx220_0⟩ := Kd.at_int HR3.out x10_1 p220 q220
         cases e220
         replace hx220_0 := clTr HB.out hx220_0
         replace p220 := eq_true p220
         replace q220 := eq_true q220
         go_wp2_with (first | (go_at_call 25; (with_reducible refine (spec_l01In.calls (rd l3 x10_1) (-1000000) 1000000 false _ A20.out).mono ?_); rintro e w' ⟨rfl, ⟨nd, rfl⟩⟩; (try first | exact ⟨rfl, _, World.drewN_drewN _ _ _⟩ | exact ⟨rfl, _, Eq.trans (World.drewN_drewN _ _ _) (congrArg (World.drewN _) (Nat.add_assoc _ _ _))⟩); have hnb22 := NB214_213.out; have hnc22 := NB213_214.out; have hcz23_0 : wr.cell? ⟨gb214, 0, none⟩ = some (.int .i64 x215000_1) := cz_ BK214 0; have hcz23_1 : wr.cell? ⟨gb214, 1, none⟩ = some (.int .i64 x215001_1) := cz_ BK214 1; have hcz23_2 : wr.cell? ⟨gb214, 2, none⟩ = some (.int .i64 x215002_1) := cz_ BK214 2; have hcz23_3 : wr.cell? ⟨gb214, 3, none⟩ = some (.slice none 0 0) := cz_ BK214 3; have hfz23_0 := fz_ BK214 0; have hfz23_1 := fz_ BK214 1; have hfz23_2 := fz_ BK214 2; have hfz23_3 := fz_ BK214 3))
         repeat (go_quiet (first | (go_at_call 25; (with_reducible refine (spec_l01In.calls (rd l3 x10_1) (-1000000) 1000000 false _ A20.out).mono ?_); rintro e w' ⟨rfl, ⟨nd, rfl⟩⟩; (try first | exact ⟨rfl, _, World.drewN_drewN _ _ _⟩ | exact ⟨rfl, _, Eq.trans (World.drewN_drewN _ _ _) (congrArg (World.drewN _) (Nat.add_assoc _ _ _))⟩); have hnb22 := NB214_213.out; have hnc22 := NB213_214.out; have hcz23_0 : wr.cell? ⟨gb214, 0, none⟩ = some (.int .i64 x215000_1) := cz_ BK214 0; have hcz23_1 : wr.cell? ⟨gb214, 1, none⟩ = some (.int .i64 x215001_1) := cz_ BK214 1; have hcz23_2 : wr.cell? ⟨gb214, 2, none⟩ = some (.int .i64 x215002_1) := cz_ BK214 2; have hcz23_3 : wr.cell? ⟨gb214, 3, none⟩ = some (.slice none 0 0) := cz_ BK214 3; have hfz23_0 := fz_ BK214 0; have hfz23_1 := fz_ BK214 1; have hfz23_2 := fz_ BK214 2; have hfz23_3 := fz_ BK214 3)); try go_wp2_with (first | (go_at_call 25; (with_reducible refine (spec_l01In.calls (rd l3 x10_1) (-1000000) 1000000 false _ A20.out).mono ?_); rintro e w' ⟨rfl, ⟨nd, rfl⟩⟩; (try first | exact ⟨rfl, _, World.drewN_drewN _ _ _⟩ | exact ⟨rfl, _, Eq.trans (World.drewN_drewN _ _ _) (congrArg (World.drewN _) (Nat.add_assoc _ _ _))⟩); have hnb22 := NB214_213.out; have hnc22 := NB213_214.out; have hcz23_0 : wr.cell? ⟨gb214, 0, none⟩ = some (.int .i64 x215000_1) := cz_ BK214 0; have hcz23_1 : wr.cell? ⟨gb214, 1, none⟩ = some (.int .i64 x215001_1) := cz_ BK214 1; have hcz23_2 : wr.cell? ⟨gb214, 2, none⟩ = some (.int .i64 x215002_1) := cz_ BK214 2; have hcz23_3 : wr.cell? ⟨gb214, 3, none⟩ = some (.slice none 0 0) := cz_ BK214 3; have hfz23_0 := fz_ BK214 0; have hfz23_1 := fz_ BK214 1; have hfz23_2 := fz_ BK214 2; have hfz23_3 := fz_ BK214 3)))
         refine bodyPost_ret (results_ct rfl _ _ gb214 28 #[.int .i64 0, .int .i64 0, .int .i64 0, .slice none 0 0] (0, 0) _ rfl (by (with_reducible repeat first | apply blk_drewN | apply blk_drew | apply blk_alloc); refine blk_put (cs := #[.int .i64 0, .int .i64 0, .int .i64 0, .slice none 0 0]) ?_ 3 _ rfl; (with_reducible repeat first | apply blk_drewN | apply blk_drew | apply blk_alloc); refine blk_put (cs := #[.int .i64 0, .int .i64 0, .int .i64 x215002_1, .slice none 0 0]) ?_ 2 _ rfl; (with_reducible repeat first | apply blk_drewN | apply blk_drew | apply blk_alloc); refine blk_put (cs := #[.int .i64 0, .int .i64 x215001_1, .int .i64 x215002_1, .slice none 0 0]) ?_ 1 _ rfl; (with_reducible repeat first | apply blk_drewN | apply blk_drew | apply blk_alloc); refine blk_put (cs := #[.int .i64 x215000_1, .int .i64 x215001_1, .int .i64 x215002_1, .slice none 0 0]) ?_ 0 _ rfl; (with_reducible repeat first | apply blk_drewN | apply blk_drew | apply blk_alloc); exact BK214.out) Try.underlying28 rfl (by kernel_rfl)) rfl ?_
         exact ⟨_, by first | rfl | (simp [errW_none, errW_some] <;> rfl) | (simp [*, errW_none, errW_some] <;> rfl), by first | exact Kd.R_nil _ _ _ _ _ | exact Kd.N_nil _ _ _ _ _ | exact Kd.V_nil _ _ _ _ _ | exact Kd.Q_nil _ _ _ _ _ | exact Kd.S_nil _ _ _ _ _, by repeat (first | (with_reducible first | exact HB.out | apply below_alloc | apply pw_below_drewN | apply below_drew1 | refine below_set ?_ GE213.out | refine below_set ?_ GE214.out) | exact HB.out)⟩
       ·rw [if_neg c19] at H
        exact absurd H (by simp)
      ·rw [if_neg c18] at H
       have c18b0 : decide (x10_1 < (l3.length : Int)) = false := decide_eq_false c18
       clear c18
       obtain ⟨y222, hy222⟩ : ∃ y_ : List (S52), y_ = (([(⟨(⟨a1_0, a1_1, a1_2⟩ : S25), 1⟩ : S52)] : List (S52))) := ⟨_, rfl⟩
       replace H : (spec_DigitMeasure.l1 k1 a0 a2 l3 y222 a1_0 a1_1 a1_2) = some (r1, r2, r3, r4, r5) := by first | (rw [hy222]; with_reducible exact H) | (have H2_ := (Option.bind_some _ _).symm.trans H; rw [hy222]; with_reducible exact H2_) | (have H2_ := (Option.bind_some _ _).symm.trans H; with_reducible exact H2_) | with_reducible exact H | (rw [hy222]; exact H) | exact H
       have Ny222 := Aside0.mk hy222
       clear hy222
       have H' := Aside0.mk H
       clear H
       have hnb24 := NB213_214.out
       have hnc24 := NB214_213.out
       have hcz25_0 : wr.cell? ⟨gb213, 0, none⟩ = some (.int .i64 a1_0) := cz_ BK213 0
       have hcz25_1 : wr.cell? ⟨gb213, 1, none⟩ = some (.int .i64 a1_1) := cz_ BK213 1
       have hcz25_2 : wr.cell? ⟨gb213, 2, none⟩ = some (.int .i64 a1_2) := cz_ BK213 2
       have hfz25_0 := fz_ BK213 0
       have hfz25_1 := fz_ BK213 1
       have hfz25_2 := fz_ BK213 2
       go_wp2_with (first | ((with_reducible refine gate_dst (N := 53) rfl ?_); (try (refine gate_guard (by rfl) ?_; dsimp only)); refine Kd.R_lit k52 _ 52 ?hg (N := 53) ?hd (xs := ([(⟨(⟨a1_0, a1_1, a1_2⟩ : S25), 1⟩ : S52)] : List (S52))) (inner := [.int .i64 a1_0, .int .i64 a1_1, .int .i64 a1_2, .int .i64 1]) (ok := fun _ => True) (okp := fun _ => True) ?hr ?hp (fun _ hk => hk) trivial (Below.refl _ _) (Nat.le_refl _) (by simp) ?_; (case hd => rfl); (case hg => rfl); (case hr => first | (go_simp; done) | (go_simp; rfl)); (case hp => exact (Reps.c4 (show Kd.M k52 _ _ _ (⟨(⟨a1_0, a1_1, a1_2⟩ : S25), 1⟩ : S52) [.int .i64 a1_0, .int .i64 a1_1, .int .i64 a1_2, .int .i64 1] from (k52_mkM _ _ _ (⟨(⟨a1_0, a1_1, a1_2⟩ : S25), 1⟩ : S52) )) (Reps.none _ _))); intro v223 w26 ho27 hb hg_ hnew_; clear hg_ hnew_; (first | rw [← Ny222.out] at ho27 | (simp only [Int.reduceToNat] at ho27; rw [← Ny222.out] at ho27)); have HO224 := Aside0.mk (Kd.R_lower ho27 (below_size (bw_ HB).out)); replace BK213 := bb_ BK213 hb; replace BK214 := bb_ BK214 hb; replace HB := bt_ HB hb; clear hb ho27))
       repeat (go_quiet (first | ((with_reducible refine gate_dst (N := 53) rfl ?_); (try (refine gate_guard (by rfl) ?_; dsimp only)); refine Kd.R_lit k52 _ 52 ?hg (N := 53) ?hd (xs := ([(⟨(⟨a1_0, a1_1, a1_2⟩ : S25), 1⟩ : S52)] : List (S52))) (inner := [.int .i64 a1_0, .int .i64 a1_1, .int .i64 a1_2, .int .i64 1]) (ok := fun _ => True) (okp := fun _ => True) ?hr ?hp (fun _ hk => hk) trivial (Below.refl _ _) (Nat.le_refl _) (by simp) ?_; (case hd => rfl); (case hg => rfl); (case hr => first | (go_simp; done) | (go_simp; rfl)); (case hp => exact (Reps.c4 (show Kd.M k52 _ _ _ (⟨(⟨a1_0, a1_1, a1_2⟩ : S25), 1⟩ : S52) [.int .i64 a1_0, .int .i64 a1_1, .int .i64 a1_2, .int .i64 1] from (k52_mkM _ _ _ (⟨(⟨a1_0, a1_1, a1_2⟩ : S25), 1⟩ : S52) )) (Reps.none _ _))); intro v223 w26 ho27 hb hg_ hnew_; clear hg_ hnew_; (first | rw [← Ny222.out] at ho27 | (simp only [Int.reduceToNat] at ho27; rw [← Ny222.out] at ho27)); have HO224 := Aside0.mk (Kd.R_lower ho27 (below_size (bw_ HB).out)); replace BK213 := bb_ BK213 hb; replace BK214 := bb_ BK214 hb; replace HB := bt_ HB hb; clear hb ho27)); try go_wp2_with (first | ((with_reducible refine gate_dst (N := 53) rfl ?_); (try (refine gate_guard (by rfl) ?_; dsimp only)); refine Kd.R_lit k52 _ 52 ?hg (N := 53) ?hd (xs := ([(⟨(⟨a1_0, a1_1, a1_2⟩ : S25), 1⟩ : S52)] : List (S52))) (inner := [.int .i64 a1_0, .int .i64 a1_1, .int .i64 a1_2, .int .i64 1]) (ok := fun _ => True) (okp := fun _ => True) ?hr ?hp (fun _ hk => hk) trivial (Below.refl _ _) (Nat.le_refl _) (by simp) ?_; (case hd => rfl); (case hg => rfl); (case hr => first | (go_simp; done) | (go_simp; rfl)); (case hp => exact (Reps.c4 (show Kd.M k52 _ _ _ (⟨(⟨a1_0, a1_1, a1_2⟩ : S25), 1⟩ : S52) [.int .i64 a1_0, .int .i64 a1_1, .int .i64 a1_2, .int .i64 1] from (k52_mkM _ _ _ (⟨(⟨a1_0, a1_1, a1_2⟩ : S25), 1⟩ : S52) )) (Reps.none _ _))); intro v223 w26 ho27 hb hg_ hnew_; clear hg_ hnew_; (first | rw [← Ny222.out] at ho27 | (simp only [Int.reduceToNat] at ho27; rw [← Ny222.out] at ho27)); have HO224 := Aside0.mk (Kd.R_lower ho27 (below_size (bw_ HB).out)); replace BK213 := bb_ BK213 hb; replace BK214 := bb_ BK214 hb; replace HB := bt_ HB hb; clear hb ho27)))
       go_loopg [2, 11] k1 (fun kq v2 v11 w' => ∃ (x2_2 : Int) (x11_2 : List (S52)) (x215000_2 : Int) (x215001_2 : Int) (x215002_2 : Int), v2 = .int .i64 x2_2 ∧ Aside0 (spec_DigitMeasure.l1 kq a0 x2_2 l3 x11_2 a1_0 a1_1 a1_2 = some (r1, r2, r3, r4, r5)) ∧ Aside0 (kq ≤ k1) ∧ Aside0 (Kd.R k52 52 w' w.heap.size (fun _ => True) v11 x11_2) ∧ Aside0 (w'.heap[gb213]? = some (.cells #[.int .i64 a1_0, .int .i64 a1_1, .int .i64 a1_2] 25 (0, 0))) ∧ Aside0 (w'.heap[gb214]? = some (.cells #[.int .i64 x215000_2, .int .i64 x215001_2, .int .i64 x215002_2, (.slice none 0 0)] 28 (0, 0))) ∧ Aside0 (Below w.heap.size w w'))
       case atStart => exact ⟨(a2), (y222), (x215000_1), (x215001_1), (x215002_1), (by first | rfl | (simp; done) | (simp [*]; done) | (simp [wrap64]; done)), H', ⟨Nat.le_refl _⟩, ⟨by (with_reducible repeat (first | apply Kd.R_alloc | apply Kd.R_drewN | apply Kd.R_drew)); exact HO224.out⟩, bl_ BK213, bl_ BK214, bw_ HB⟩
       case round =>
        clear H'
        try clear c1
        try clear c2
        try clear p2
        try clear q2
        try clear hx2
        try clear c3
        try clear c4
        try clear c6
        try clear c6b0
        try clear c6b1
        try clear p6
        try clear c7
        try clear c8
        try clear c9
        try clear c9b0
        try clear c9b1
        try clear c12
        try clear c18
        try clear c18b0
        try clear c19
        try clear c19b0
        try clear c21
        try clear c22
        try clear p22
        try clear q22
        try clear hx22
        try clear c24
        try clear hcz13_0
        try clear hcz13_1
        try clear hcz13_2
        try clear hcz23_0
        try clear hcz23_1
        try clear hcz23_2
        try clear hcz23_3
        try clear hcz25_0
        try clear hcz25_1
        try clear hcz25_2
        try clear hfz13_0
        try clear hfz13_1
        try clear hfz13_2
        try clear hfz23_0
        try clear hfz23_1
        try clear hfz23_2
        try clear hfz23_3
        try clear hfz25_0
        try clear hfz25_1
        try clear hfz25_2
        try clear hx220_0
        try clear p2
        try clear p220
        try clear q220
        obtain ⟨x2_2, x11_2, x215000_2, x215001_2, x215002_2, rfl, HA, HK2, HO_11, BK213, BK214, HB⟩ := hrel
        cases gk with
        | zero => exact absurd HA.out (by simp [spec_DigitMeasure.l1])
        | succ k2 =>
         have H := HA.out
         clear HA
         simp only [spec_DigitMeasure.l1] at H
         by_cases c28 : x2_2 > 0
         ·rw [if_pos c28] at H
          have c28b0 : decide (0 < x2_2) = true := decide_eq_true c28
          clear c28
          obtain ⟨y233, hy233⟩ : ∃ y_ : List (S52), y_ = (([] : List (S52))) := ⟨_, rfl⟩
          replace H : (spec_DigitMeasure.l2 k2 a0 x2_2 l3 x11_2 y233 0 a1_0 a1_1 a1_2) = some (r1, r2, r3, r4, r5) := by first | (rw [hy233]; with_reducible exact H) | (have H2_ := (Option.bind_some _ _).symm.trans H; rw [hy233]; with_reducible exact H2_) | (have H2_ := (Option.bind_some _ _).symm.trans H; with_reducible exact H2_) | with_reducible exact H | (rw [hy233]; exact H) | exact H
          have Ny233 := Aside0.mk hy233
          clear hy233
          have H' := Aside0.mk H
          clear H
          go_wp2_with (first | ((with_reducible refine gate_dst (N := 58) rfl ?_); (try (refine gate_guard (by rfl) ?_; dsimp only)); refine Kd.R_lit k52 _ 52 ?hg (N := 58) ?hd (xs := ([] : List (S52))) (inner := []) (ok := fun _ => True) (okp := fun _ => True) ?hr ?hp (fun _ hk => hk) trivial (Below.refl _ _) (Nat.le_refl _) (by simp) ?_; (case hd => rfl); (case hg => rfl); (case hr => first | (go_simp; done) | (go_simp; rfl)); (case hp => exact (Reps.none _ _)); intro v234 w29 ho30 hb hg_ hnew_; clear hg_ hnew_; (first | rw [← Ny233.out] at ho30 | (simp only [Int.reduceToNat] at ho30; rw [← Ny233.out] at ho30)); have HO235 := Aside0.mk (Kd.R_lower (Kd.R_new' ho30 (Kd.R_lt (ra_ HO_11.out))) (below_size (bw_ HB).out)); replace HO_11 := Aside0.mk (Kd.R_elder' (ra_ HO_11.out) (Kd.R_base ho30) hb); replace BK213 := bb_ BK213 hb; replace BK214 := bb_ BK214 hb; replace HB := bt_ HB hb; clear hb ho30))
          repeat (go_quiet (first | ((with_reducible refine gate_dst (N := 58) rfl ?_); (try (refine gate_guard (by rfl) ?_; dsimp only)); refine Kd.R_lit k52 _ 52 ?hg (N := 58) ?hd (xs := ([] : List (S52))) (inner := []) (ok := fun _ => True) (okp := fun _ => True) ?hr ?hp (fun _ hk => hk) trivial (Below.refl _ _) (Nat.le_refl _) (by simp) ?_; (case hd => rfl); (case hg => rfl); (case hr => first | (go_simp; done) | (go_simp; rfl)); (case hp => exact (Reps.none _ _)); intro v234 w29 ho30 hb hg_ hnew_; clear hg_ hnew_; (first | rw [← Ny233.out] at ho30 | (simp only [Int.reduceToNat] at ho30; rw [← Ny233.out] at ho30)); have HO235 := Aside0.mk (Kd.R_lower (Kd.R_new' ho30 (Kd.R_lt (ra_ HO_11.out))) (below_size (bw_ HB).out)); replace HO_11 := Aside0.mk (Kd.R_elder' (ra_ HO_11.out) (Kd.R_base ho30) hb); replace BK213 := bb_ BK213 hb; replace BK214 := bb_ BK214 hb; replace HB := bt_ HB hb; clear hb ho30)); try go_wp2_with (first | ((with_reducible refine gate_dst (N := 58) rfl ?_); (try (refine gate_guard (by rfl) ?_; dsimp only)); refine Kd.R_lit k52 _ 52 ?hg (N := 58) ?hd (xs := ([] : List (S52))) (inner := []) (ok := fun _ => True) (okp := fun _ => True) ?hr ?hp (fun _ hk => hk) trivial (Below.refl _ _) (Nat.le_refl _) (by simp) ?_; (case hd => rfl); (case hg => rfl); (case hr => first | (go_simp; done) | (go_simp; rfl)); (case hp => exact (Reps.none _ _)); intro v234 w29 ho30 hb hg_ hnew_; clear hg_ hnew_; (first | rw [← Ny233.out] at ho30 | (simp only [Int.reduceToNat] at ho30; rw [← Ny233.out] at ho30)); have HO235 := Aside0.mk (Kd.R_lower (Kd.R_new' ho30 (Kd.R_lt (ra_ HO_11.out))) (below_size (bw_ HB).out)); replace HO_11 := Aside0.mk (Kd.R_elder' (ra_ HO_11.out) (Kd.R_base ho30) hb); replace BK213 := bb_ BK213 hb; replace BK214 := bb_ BK214 hb; replace HB := bt_ HB hb; clear hb ho30)))
          go_loopg [12, 13] k2 (fun kq v12 v13 w' => ∃ (x12_3 : List (S52)) (x13_3 : Int) (x215000_3 : Int) (x215001_3 : Int) (x215002_3 : Int), v13 = .int .i64 x13_3 ∧ Aside0 (spec_DigitMeasure.l2 kq a0 x2_2 l3 x11_2 x12_3 x13_3 a1_0 a1_1 a1_2 = some (r1, r2, r3, r4, r5)) ∧ Aside0 (kq ≤ k2) ∧ Aside0 (Kd.R k52 52 w' w.heap.size (fun k_ => some k_ ≠ (v12 : Value).ownBlock) u11 x11_2) ∧ Aside0 (Kd.R k52 52 w' w.heap.size (fun k_ => some k_ ≠ (u11 : Value).ownBlock) v12 x12_3) ∧ Aside0 (w'.heap[gb213]? = some (.cells #[.int .i64 a1_0, .int .i64 a1_1, .int .i64 a1_2] 25 (0, 0))) ∧ Aside0 (w'.heap[gb214]? = some (.cells #[.int .i64 x215000_3, .int .i64 x215001_3, .int .i64 x215002_3, (.slice none 0 0)] 28 (0, 0))) ∧ Aside0 (Below w.heap.size w w'))
          case atStart => exact ⟨(y233), (0), (x215000_2), (x215001_2), (x215002_2), (by first | rfl | (simp; done) | (simp [*]; done) | (simp [wrap64]; done)), H', ⟨Nat.le_refl _⟩, ⟨by (with_reducible repeat (first | apply Kd.R_alloc | apply Kd.R_drewN | apply Kd.R_drew)); exact Kd.R_mono HO_11.out (fun _ hk => hk.2)⟩, ⟨by (with_reducible repeat (first | apply Kd.R_alloc | apply Kd.R_drewN | apply Kd.R_drew)); exact Kd.R_mono HO235.out (fun _ hk => hk.2)⟩, bl_ BK213, bl_ BK214, bw_ HB⟩
          case round =>
           clear H'
           try clear c1
           try clear c2
           try clear p2
           try clear q2
           try clear hx2
           try clear c3
           try clear c4
           try clear c6
           try clear c6b0
           try clear c6b1
           try clear p6
           try clear c7
           try clear c8
           try clear c9
           try clear c9b0
           try clear c9b1
           try clear c12
           try clear c18
           try clear c18b0
           try clear c19
           try clear c19b0
           try clear c21
           try clear c22
           try clear p22
           try clear q22
           try clear hx22
           try clear c24
           try clear c28
           try clear c28b0
           try clear hcz13_0
           try clear hcz13_1
           try clear hcz13_2
           try clear hcz23_0
           try clear hcz23_1
           try clear hcz23_2
           try clear hcz23_3
           try clear hcz25_0
           try clear hcz25_1
           try clear hcz25_2
           try clear hfz13_0
           try clear hfz13_1
           try clear hfz13_2
           try clear hfz23_0
           try clear hfz23_1
           try clear hfz23_2
           try clear hfz23_3
           try clear hfz25_0
           try clear hfz25_1
           try clear hfz25_2
           try clear hx220_0
           try clear p2
           try clear p22
           try clear p220
           try clear p6
           try clear q2
           try clear q22
           try clear q220
           obtain ⟨x12_3, x13_3, x215000_3, x215001_3, x215002_3, rfl, HA, HK3, HO_11, HO_12, BK213, BK214, HB⟩ := hrel
           cases gk with
           | zero => exact absurd HA.out (by simp [spec_DigitMeasure.l2])
           | succ k3 =>
            have H := HA.out
            clear HA
            simp only [spec_DigitMeasure.l2] at H
            by_cases c31 : x13_3 < (x11_2.length : Int)
            ·rw [if_pos c31] at H
             have c31b0 : decide (x13_3 < (x11_2.length : Int)) = true := decide_eq_true c31
             clear c31
             by_cases c32 : 0 ≤ x13_3
             ·rw [if_pos c32] at H
              have c32b0 : decide (0 ≤ x13_3) = true := decide_eq_true c32
              clear c32
              replace H := Option.bind_eq_some_iff.mp H
              obtain ⟨⟨t237, t240⟩, A330, H⟩ := H
              have A33 := Aside0.mk A330
              clear A330
              have HC34 := Aside0.mk H
              clear H
              obtain ⟨Ao35, co35, eo35⟩ := Kd.R_slice HO_11.out
              subst eo35
              have p236 : 0 ≤ (x13_3 : Int) := of_decide_eq_true (by first | (with_reducible assumption) | assumption)
              have q236 : x13_3 < (x11_2.length : Int) := of_decide_eq_true (by first | (with_reducible assumption) | assumption)
              obtain ⟨ad236, e236, hx236_0, hx236_1, hx236_2, hx236_3⟩ := at_T52 (Kd.R_reads' HO_11.out).2.2 x13_3 p236 q236
              cases e236
              replace p236 := eq_true p236
              replace q236 := eq_true q236
              go_upto_region 18 with (first | (go_at_call 26; (with_reducible refine (spec_l02Children.calls k3 a0 ((rd_T52 x11_2 x13_3).f0.f0) ((rd_T52 x11_2 x13_3).f0.f1) ((rd_T52 x11_2 x13_3).f0.f2) t237 t240 _ A33.out).mono ?_); rintro e w36 ⟨v238, rfl, ho0, hb⟩; have HO239 := Aside0.mk (Kd.R_lower (Kd.R_newB ho0 (g := gb213) (o := .cells #[.int .i64 a1_0, .int .i64 a1_1, .int .i64 a1_2] 25 (0, 0)) (bl_ BK213).out) (below_size (bw_ HB).out)); replace HO_11 := Aside0.mk (Kd.R_below (ra_ HO_11.out) hb); replace HO_12 := Aside0.mk (Kd.R_below (ra_ HO_12.out) hb); replace BK213 := bb_ BK213 hb; replace BK214 := bb_ BK214 hb; replace HB := bt_ HB hb; (try clear hb); (try clear hb2); (try clear hk); (try clear hi); (try clear ho0)))
              repeat (go_quiet (first | (go_at_call 26; (with_reducible refine (spec_l02Children.calls k3 a0 ((rd_T52 x11_2 x13_3).f0.f0) ((rd_T52 x11_2 x13_3).f0.f1) ((rd_T52 x11_2 x13_3).f0.f2) t237 t240 _ A33.out).mono ?_); rintro e w36 ⟨v238, rfl, ho0, hb⟩; have HO239 := Aside0.mk (Kd.R_lower (Kd.R_newB ho0 (g := gb213) (o := .cells #[.int .i64 a1_0, .int .i64 a1_1, .int .i64 a1_2] 25 (0, 0)) (bl_ BK213).out) (below_size (bw_ HB).out)); replace HO_11 := Aside0.mk (Kd.R_below (ra_ HO_11.out) hb); replace HO_12 := Aside0.mk (Kd.R_below (ra_ HO_12.out) hb); replace BK213 := bb_ BK213 hb; replace BK214 := bb_ BK214 hb; replace HB := bt_ HB hb; (try clear hb); (try clear hb2); (try clear hk); (try clear hi); (try clear ho0))); go_upto_region 18 with (first | (go_at_call 26; (with_reducible refine (spec_l02Children.calls k3 a0 ((rd_T52 x11_2 x13_3).f0.f0) ((rd_T52 x11_2 x13_3).f0.f1) ((rd_T52 x11_2 x13_3).f0.f2) t237 t240 _ A33.out).mono ?_); rintro e w36 ⟨v238, rfl, ho0, hb⟩; have HO239 := Aside0.mk (Kd.R_lower (Kd.R_newB ho0 (g := gb213) (o := .cells #[.int .i64 a1_0, .int .i64 a1_1, .int .i64 a1_2] 25 (0, 0)) (bl_ BK213).out) (below_size (bw_ HB).out)); replace HO_11 := Aside0.mk (Kd.R_below (ra_ HO_11.out) hb); replace HO_12 := Aside0.mk (Kd.R_below (ra_ HO_12.out) hb); replace BK213 := bb_ BK213 hb; replace BK214 := bb_ BK214 hb; replace HB := bt_ HB hb; (try clear hb); (try clear hb2); (try clear hk); (try clear hi); (try clear ho0))))
              (try simp only [Act.put, lstS, lstZ, lstC])
              go_cut [84] (fun v84 wc => ∃ (kq : Nat) (x84_33 : Bool), v84 = .bool x84_33 ∧ Aside0 (spec_DigitMeasure.j3 kq a0 x2_2 l3 x11_2 x12_3 x13_3 t237 x84_33 a1_0 a1_1 a1_2 = some (r1, r2, r3, r4, r5)) ∧ Aside0 (kq ≤ k3) ∧ Aside0 (Kd.R k52 52 wc w.heap.size (fun k_ => some k_ ≠ (u12 : Value).ownBlock) (.slice (some ad236) x11_2.length co35) x11_2) ∧ Aside0 (Kd.R k52 52 wc w.heap.size (fun k_ => some k_ ≠ ((.slice (some ad236) x11_2.length co35) : Value).ownBlock) u12 x12_3) ∧ Aside0 (Kd.R k25 25 wc w.heap.size (fun k_ => k_ ≠ gb213) v238 t237) ∧ Aside0 (wc.heap[gb213]? = some (.cells #[.int .i64 a1_0, .int .i64 a1_1, .int .i64 a1_2] 25 (0, 0))) ∧ Aside0 (wc.heap[gb214]? = some (.cells #[.int .i64 x215000_3, .int .i64 x215001_3, .int .i64 x215002_3, (.slice none 0 0)] 28 (0, 0))) ∧ Aside0 (Below w.heap.size w wc))
              case first =>
               have H := HC34.out
               clear HC34
               by_cases c37 : t240 = true
               ·subst c37
                have H1 : (spec_DigitMeasure.j3 k3 a0 x2_2 l3 x11_2 x12_3 x13_3 t237 (decide ((wrap64 ((x12_3.length : Int) + (t237.length : Int))) > 64)) a1_0 a1_1 a1_2) = some (r1, r2, r3, r4, r5) := by rw [if_pos rfl] at H; exact H
                clear H
                have H := H1
                clear H1
                have H' := Aside0.mk H
                clear H
                obtain ⟨Ao38, co38, eo38⟩ := Kd.R_slice HO_12.out
                subst eo38
                obtain ⟨Ao39, co39, eo39⟩ := Kd.R_slice HO239.out
                subst eo39
                go_wp2
                repeat (go_quiet (fail); try go_wp2)
                go_meet
                case rel => exact ⟨_, (decide ((wrap64 ((x12_3.length : Int) + (t237.length : Int))) > 64)), (by first | rfl | (simp; done) | (simp [*]; done) | (simp [wrap64]; done)), H', ⟨by have := HK1.out; have := HK2.out; have := HK3.out; first | omega | exact Nat.le_refl _⟩, ⟨by (with_reducible repeat (first | apply Kd.R_alloc | apply Kd.R_drewN | apply Kd.R_drew)); exact HO_11.out⟩, ⟨by (with_reducible repeat (first | apply Kd.R_alloc | apply Kd.R_drewN | apply Kd.R_drew)); exact HO_12.out⟩, ⟨by (with_reducible repeat (first | apply Kd.R_alloc | apply Kd.R_drewN | apply Kd.R_drew)); exact Kd.R_mono HO239.out (fun _ hk => hk.2)⟩, bl_ BK213, bl_ BK214, bw_ HB⟩
               ·replace c37 := Bool.eq_false_iff.mpr c37
                subst c37
                have H1 : (spec_DigitMeasure.j3 k3 a0 x2_2 l3 x11_2 x12_3 x13_3 t237 true a1_0 a1_1 a1_2) = some (r1, r2, r3, r4, r5) := by rw [if_neg (show ¬ (false = true) by decide)] at H; exact H
                clear H
                have H := H1
                clear H1
                have H' := Aside0.mk H
                clear H
                go_wp2
                repeat (go_quiet (fail); try go_wp2)
                go_meet
                case rel => exact ⟨_, (true), (by first | rfl | (simp; done) | (simp [*]; done) | (simp [wrap64]; done)), H', ⟨by have := HK1.out; have := HK2.out; have := HK3.out; first | omega | exact Nat.le_refl _⟩, ⟨by (with_reducible repeat (first | apply Kd.R_alloc | apply Kd.R_drewN | apply Kd.R_drew)); exact HO_11.out⟩, ⟨by (with_reducible repeat (first | apply Kd.R_alloc | apply Kd.R_drewN | apply Kd.R_drew)); exact HO_12.out⟩, ⟨by (with_reducible repeat (first | apply Kd.R_alloc | apply Kd.R_drewN | apply Kd.R_drew)); exact Kd.R_mono HO239.out (fun _ hk => hk.2)⟩, bl_ BK213, bl_ BK214, bw_ HB⟩
              case rest =>
               clear HC34
               try clear c1
               try clear c2
               try clear p2
               try clear q2
               try clear hx2
               try clear c3
               try clear c4
               try clear c6
               try clear c6b0
               try clear c6b1
               try clear p6
               try clear c7
               try clear c8
               try clear c9
               try clear c9b0
               try clear c9b1
               try clear c12
               try clear c18
               try clear c18b0
               try clear c19
               try clear c19b0
               try clear c21
               try clear c22
               try clear p22
               try clear q22
               try clear hx22
               try clear p23
               try clear q23
               try clear hx23
               try clear c24
               try clear c28
               try clear c28b0
               try clear c31
               try clear c31b0
               try clear c32
               try clear c32b0
               try clear c37
               try clear hcz13_0
               try clear hcz13_1
               try clear hcz13_2
               try clear hcz23_0
               try clear hcz23_1
               try clear hcz23_2
               try clear hcz23_3
               try clear hcz25_0
               try clear hcz25_1
               try clear hcz25_2
               try clear hfz13_0
               try clear hfz13_1
               try clear hfz13_2
               try clear hfz23_0
               try clear hfz23_1
               try clear hfz23_2
               try clear hfz23_3
               try clear hfz25_0
               try clear hfz25_1
               try clear hfz25_2
               try clear hx220_0
               try clear hx236_0
               try clear hx236_1
               try clear hx236_2
               try clear hx236_3
               try clear p2
               try clear p22
               try clear p220
               try clear p236
               try clear p6
               try clear q2
               try clear q22
               try clear q220
               try clear q236
               obtain ⟨kq, x84_33, rfl, HA, HJ33, HO_11, HO_12, HO_14, BK213, BK214, HB⟩ := hcut
               cases kq with
               | zero => exact absurd HA.out (by simp [spec_DigitMeasure.j3])
               | succ kj33 =>
                have H := HA.out
                clear HA
                simp only [spec_DigitMeasure.j3] at H
                by_cases c40 : x84_33 = true
                ·subst c40
                 have H1 : (some (0, 0, 0, ([] : List (S52)), 3)) = some (r1, r2, r3, r4, r5) := by rw [if_pos rfl] at H; exact H
                 clear H
                 have H := H1
                 clear H1
                 simp only [Option.some.injEq, Prod.mk.injEq] at H
                 obtain ⟨rfl, rfl, rfl, rfl, rfl⟩ := H
                 have hnb41 := NB214_213.out
                 have hnc41 := NB213_214.out
                 have hcz42_0 : wc.cell? ⟨gb214, 0, none⟩ = some (.int .i64 x215000_3) := cz_ BK214 0
                 have hcz42_1 : wc.cell? ⟨gb214, 1, none⟩ = some (.int .i64 x215001_3) := cz_ BK214 1
                 have hcz42_2 : wc.cell? ⟨gb214, 2, none⟩ = some (.int .i64 x215002_3) := cz_ BK214 2
                 have hcz42_3 : wc.cell? ⟨gb214, 3, none⟩ = some (.slice none 0 0) := cz_ BK214 3
                 have hfz42_0 := fz_ BK214 0
                 have hfz42_1 := fz_ BK214 1
                 have hfz42_2 := fz_ BK214 2
                 have hfz42_3 := fz_ BK214 3
                 go_wp2
                 repeat (go_quiet (fail); try go_wp2)
                 refine bodyPost_ret (results_ct rfl _ _ gb214 28 #[.int .i64 0, .int .i64 0, .int .i64 0, .slice none 0 0] (0, 0) _ rfl (by (with_reducible repeat first | apply blk_drewN | apply blk_drew | apply blk_alloc); refine blk_put (cs := #[.int .i64 0, .int .i64 0, .int .i64 0, .slice none 0 0]) ?_ 3 _ rfl; (with_reducible repeat first | apply blk_drewN | apply blk_drew | apply blk_alloc); refine blk_put (cs := #[.int .i64 0, .int .i64 0, .int .i64 x215002_3, .slice none 0 0]) ?_ 2 _ rfl; (with_reducible repeat first | apply blk_drewN | apply blk_drew | apply blk_alloc); refine blk_put (cs := #[.int .i64 0, .int .i64 x215001_3, .int .i64 x215002_3, .slice none 0 0]) ?_ 1 _ rfl; (with_reducible repeat first | apply blk_drewN | apply blk_drew | apply blk_alloc); refine blk_put (cs := #[.int .i64 x215000_3, .int .i64 x215001_3, .int .i64 x215002_3, .slice none 0 0]) ?_ 0 _ rfl; (with_reducible repeat first | apply blk_drewN | apply blk_drew | apply blk_alloc); exact BK214.out) Try.underlying28 rfl (by kernel_rfl)) rfl ?_
                 exact ⟨_, by first | rfl | (simp [errW_none, errW_some] <;> rfl) | (simp [*, errW_none, errW_some] <;> rfl), by first | exact Kd.R_nil _ _ _ _ _ | exact Kd.N_nil _ _ _ _ _ | exact Kd.V_nil _ _ _ _ _ | exact Kd.Q_nil _ _ _ _ _ | exact Kd.S_nil _ _ _ _ _, by repeat (first | (with_reducible first | exact HB.out | apply below_alloc | apply pw_below_drewN | apply below_drew1 | refine below_set ?_ GE213.out | refine below_set ?_ GE214.out) | exact HB.out)⟩
                ·replace c40 := Bool.eq_false_iff.mpr c40
                 subst c40
                 have H1 : (spec_DigitMeasure.l3 kj33 a0 x2_2 l3 x11_2 x12_3 x13_3 t237 0 a1_0 a1_1 a1_2) = some (r1, r2, r3, r4, r5) := by rw [if_neg (show ¬ (false = true) by decide)] at H; exact H
                 clear H
                 have H := H1
                 clear H1
                 have H' := Aside0.mk H
                 clear H
                 go_wp2
                 repeat (go_quiet (fail); try go_wp2)
                 go_loopg [12, 16] kj33 (fun kq v12 v16 w' => ∃ (x12_5 : List (S52)) (x16_5 : Int) (x215000_5 : Int) (x215001_5 : Int) (x215002_5 : Int), v16 = .int .i64 x16_5 ∧ Aside0 (spec_DigitMeasure.l3 kq a0 x2_2 l3 x11_2 x12_5 x13_3 t237 x16_5 a1_0 a1_1 a1_2 = some (r1, r2, r3, r4, r5)) ∧ Aside0 (kq ≤ kj33) ∧ Aside0 (Kd.R k52 52 w' w.heap.size (fun k_ => some k_ ≠ (v12 : Value).ownBlock) (.slice (some ad236) x11_2.length co35) x11_2) ∧ Aside0 (Kd.R k52 52 w' w.heap.size (fun k_ => some k_ ≠ ((.slice (some ad236) x11_2.length co35) : Value).ownBlock) v12 x12_5) ∧ Aside0 (Kd.R k25 25 w' w.heap.size (fun k_ => k_ ≠ gb213) v238 t237) ∧ Aside0 (w'.heap[gb213]? = some (.cells #[.int .i64 a1_0, .int .i64 a1_1, .int .i64 a1_2] 25 (0, 0))) ∧ Aside0 (w'.heap[gb214]? = some (.cells #[.int .i64 x215000_5, .int .i64 x215001_5, .int .i64 x215002_5, (.slice none 0 0)] 28 (0, 0))) ∧ Aside0 (Below w.heap.size w w'))
                 case atStart => exact ⟨(x12_3), (0), (x215000_3), (x215001_3), (x215002_3), (by first | rfl | (simp; done) | (simp [*]; done) | (simp [wrap64]; done)), H', ⟨Nat.le_refl _⟩, ⟨by (with_reducible repeat (first | apply Kd.R_alloc | apply Kd.R_drewN | apply Kd.R_drew)); exact HO_11.out⟩, ⟨by (with_reducible repeat (first | apply Kd.R_alloc | apply Kd.R_drewN | apply Kd.R_drew)); exact HO_12.out⟩, ⟨by (with_reducible repeat (first | apply Kd.R_alloc | apply Kd.R_drewN | apply Kd.R_drew)); exact HO_14.out⟩, bl_ BK213, bl_ BK214, bw_ HB⟩
                 case round =>
                  clear H'
                  try clear c1
                  try clear c2
                  try clear p2
                  try clear q2
                  try clear hx2
                  try clear c3
                  try clear c4
                  try clear c6
                  try clear c6b0
                  try clear c6b1
                  try clear p6
                  try clear c7
                  try clear c8
                  try clear c9
                  try clear c9b0
                  try clear c9b1
                  try clear c12
                  try clear c18
                  try clear c18b0
                  try clear c19
                  try clear c19b0
                  try clear c21
                  try clear c22
                  try clear p22
                  try clear q22
                  try clear hx22
                  try clear p23
                  try clear q23
                  try clear hx23
                  try clear c24
                  try clear c28
                  try clear c28b0
                  try clear c31
                  try clear c31b0
                  try clear c32
                  try clear c32b0
                  try clear c37
                  try clear c40
                  try clear c41
                  try clear hcz13_0
                  try clear hcz13_1
                  try clear hcz13_2
                  try clear hcz23_0
                  try clear hcz23_1
                  try clear hcz23_2
                  try clear hcz23_3
                  try clear hcz25_0
                  try clear hcz25_1
                  try clear hcz25_2
                  try clear hcz42_0
                  try clear hcz42_1
                  try clear hcz42_2
                  try clear hcz42_3
                  try clear hfz13_0
                  try clear hfz13_1
                  try clear hfz13_2
                  try clear hfz23_0
                  try clear hfz23_1
                  try clear hfz23_2
                  try clear hfz23_3
                  try clear hfz25_0
                  try clear hfz25_1
                  try clear hfz25_2
                  try clear hfz42_0
                  try clear hfz42_1
                  try clear hfz42_2
                  try clear hfz42_3
                  try clear hx220_0
                  try clear hx236_0
                  try clear hx236_1
                  try clear hx236_2
                  try clear hx236_3
                  try clear p2
                  try clear p22
                  try clear p220
                  try clear p23
                  try clear p236
                  try clear p6
                  try clear q2
                  try clear q22
                  try clear q220
                  try clear q23
                  try clear q236
                  obtain ⟨x12_5, x16_5, x215000_5, x215001_5, x215002_5, rfl, HA, HK5, HO_11, HO_12, HO_14, BK213, BK214, HB⟩ := hrel
                  cases gk with
                  | zero => exact absurd HA.out (by simp [spec_DigitMeasure.l3])
                  | succ k5 =>
                   have H := HA.out
                   clear HA
                   simp only [spec_DigitMeasure.l3] at H
                   by_cases c43 : x16_5 < (t237.length : Int)
                   ·rw [if_pos c43] at H
                    have c43b0 : decide (x16_5 < (t237.length : Int)) = true := decide_eq_true c43
                    clear c43
                    by_cases c44 : 0 ≤ x13_3
                    ·rw [if_pos c44] at H
                     have c44b0 : decide (0 ≤ x13_3) = true := decide_eq_true c44
                     clear c44
                     by_cases c45 : x13_3 < (x11_2.length : Int)
                     ·rw [if_pos c45] at H
                      have c45b0 : decide (x13_3 < (x11_2.length : Int)) = true := decide_eq_true c45
                      clear c45
                      by_cases c46 : 0 ≤ x16_5
                      ·rw [if_pos c46] at H
                       have c46b0 : decide (0 ≤ x16_5) = true := decide_eq_true c46
                       clear c46
                       by_cases c47 : x16_5 < (l3.length : Int)
                       ·rw [if_pos c47] at H
                        have c47b0 : decide (x16_5 < (l3.length : Int)) = true := decide_eq_true c47
                        clear c47
                        replace H := Option.bind_eq_some_iff.mp H
                        obtain ⟨t243, A480, H⟩ := H
                        have A48 := Aside0.mk A480
                        clear A480
                        by_cases c49 : t243 = true
                        ·subst c49
                         have H1 : (if x12_5.length < 4398046511104 then (spec_DigitMeasure.l3 k5 a0 x2_2 l3 x11_2 (x12_5 ++ [(⟨(⟨(rd_T25 t237 x16_5).f0, (rd_T25 t237 x16_5).f1, (rd_T25 t237 x16_5).f2⟩ : S25), wrap64 (((rd_T52 x11_2 x13_3).f1) * (rd l3 x16_5))⟩ : S52)]) x13_3 t237 (wrap64 (x16_5 + 1)) a1_0 a1_1 a1_2) else (none)) = some (r1, r2, r3, r4, r5) := by rw [if_pos rfl] at H; exact H
                         clear H
                         have H := H1
                         clear H1
                         by_cases c50 : x12_5.length < 4398046511104
                         ·rw [if_pos c50] at H
                          have LMc50 := Aside0.mk c50
                          clear c50
                          obtain ⟨y245, hy245⟩ : ∃ y_ : List (S52), y_ = (x12_5 ++ [(⟨(⟨(rd_T25 t237 x16_5).f0, (rd_T25 t237 x16_5).f1, (rd_T25 t237 x16_5).f2⟩ : S25), wrap64 (((rd_T52 x11_2 x13_3).f1) * (rd l3 x16_5))⟩ : S52)]) := ⟨_, rfl⟩
                          replace H : (spec_DigitMeasure.l3 k5 a0 x2_2 l3 x11_2 y245 x13_3 t237 (wrap64 (x16_5 + 1)) a1_0 a1_1 a1_2) = some (r1, r2, r3, r4, r5) := by first | (rw [hy245]; with_reducible exact H) | (have H2_ := (Option.bind_some _ _).symm.trans H; rw [hy245]; with_reducible exact H2_) | (have H2_ := (Option.bind_some _ _).symm.trans H; with_reducible exact H2_) | with_reducible exact H | (rw [hy245]; exact H) | exact H
                          have Ny245 := Aside0.mk hy245
                          clear hy245
                          have H' := Aside0.mk H
                          clear H
                          obtain ⟨Ao51, co51, eo51⟩ := Kd.R_slice HO_14.out
                          subst eo51
                          have p241 : 0 ≤ (x13_3 : Int) := of_decide_eq_true (by first | (with_reducible assumption) | assumption)
                          have q241 : x13_3 < (x11_2.length : Int) := of_decide_eq_true (by first | (with_reducible assumption) | assumption)
                          obtain ⟨ad241, e241, hx241_0, hx241_1, hx241_2, hx241_3⟩ := at_T52 (Kd.R_reads' HO_11.out).2.2 x13_3 p241 q241
                          obtain rfl : ad236 = ad241 := (by injection e241)
                          replace p241 := eq_true p241
                          replace q241 := eq_true q241
                          have p242 : 0 ≤ (x16_5 : Int) := of_decide_eq_true (by first | (with_reducible assumption) | assumption)
                          have q242 : x16_5 < (l3.length : Int) := of_decide_eq_true (by first | (with_reducible assumption) | assumption)
                          obtain ⟨ad242, e242, hx242_0⟩ := Kd.at_int HR3.out x16_5 p242 q242
                          cases e242
                          replace hx242_0 := clTr HB.out hx242_0
                          replace p242 := eq_true p242
                          replace q242 := eq_true q242
                          go_wp2_with (first | (go_at_call 25; (with_reducible refine (spec_l01In.calls (wrap64 (((rd_T52 x11_2 x13_3).f1) * (rd l3 x16_5))) (-1000000) 1000000 true _ A48.out).mono ?_); rintro e w' ⟨rfl, ⟨nd, rfl⟩⟩; (try first | exact ⟨rfl, _, World.drewN_drewN _ _ _⟩ | exact ⟨rfl, _, Eq.trans (World.drewN_drewN _ _ _) (congrArg (World.drewN _) (Nat.add_assoc _ _ _))⟩); have p244 : 0 ≤ (x16_5 : Int) := of_decide_eq_true (by first | (with_reducible assumption) | assumption); have q244 : x16_5 < (t237.length : Int) := of_decide_eq_true (by first | (with_reducible assumption) | assumption); obtain ⟨ad244, e244, hx244_0, hx244_1, hx244_2⟩ := at_T25 (Kd.R_reads' HO_14.out).2.2 x16_5 p244 q244; cases e244; replace p244 := eq_true p244; replace q244 := eq_true q244) | ((with_reducible refine gate_builtin (b := .append) (xs := #[.tmp 106, .tmp 113]) rfl ?_); (try (refine gate_guard (by rfl) ?_; dsimp only)); at_builtin; refine Kd.R_append k52 (w0 := w) w.heap.size rfl (.tmp 106) (.tmp 113) 26 52 (.agg #[(.int .i64 0), (.int .i64 0), (.int .i64 0), (.int .i64 0)]) 32 rfl Try.underlying26 info52 rfl (by decide) (by omega) u12 x12_5 (⟨(⟨(rd_T25 t237 x16_5).f0, (rd_T25 t237 x16_5).f1, (rd_T25 t237 x16_5).f2⟩ : S25), wrap64 (((rd_T52 x11_2 x13_3).f1) * (rd l3 x16_5))⟩ : S52) [.int .i64 ((rd_T25 t237 x16_5).f0), .int .i64 ((rd_T25 t237 x16_5).f1), .int .i64 ((rd_T25 t237 x16_5).f2), .int .i64 (wrap64 (((rd_T52 x11_2 x13_3).f1) * (rd l3 x16_5)))] (fun k_ => some k_ ≠ (.slice (some ad236) x11_2.length co35 : Value).ownBlock) (fun _ => False) rfl rfl ?aP (fun _ hk => hk.elim) ?aF ?aO ?aB ?aS ?aL ?_; (case aP => exact k52_mkM _ _ _ (⟨(⟨(rd_T25 t237 x16_5).f0, (rd_T25 t237 x16_5).f1, (rd_T25 t237 x16_5).f2⟩ : S25), wrap64 (((rd_T52 x11_2 x13_3).f1) * (rd l3 x16_5))⟩ : S52)); (case aB => exact (bw_ HB).out); (case aF => exact (fun k_ hk => Kd.fresh' (Kd.R_lt (ra_ HO_11.out)) k_ hk)); (case aO => exact (ra_ HO_12.out)); (case aS => exact (below_size (bw_ HB).out)); (case aL => have := LMc50.out; omega); intro v246 w52 ho hb hg hat; rw [← Ny245.out] at ho; have n0_ := Aside0.mk (Kd.R_after (ok := (fun _ => True)) (by (with_reducible repeat (first | apply Kd.R_alloc | apply Kd.R_drewN | apply Kd.R_drew)); exact Kd.R_mono HO_11.out (fun _ hk => ⟨trivial, hk⟩)) hg hat); have n1_ := Aside0.mk (Kd.R_over' (ra_ HO_14.out) (Kd.R_typed (ra_ HO_12.out)) (by decide) hg); have n2_ := Aside0.mk (blk_grown (g := gb213) (o := .cells #[.int .i64 a1_0, .int .i64 a1_1, .int .i64 a1_2] 25 (0, 0)) (bl_ BK213).out hg (Kd.R_ne HO_12.out BK213.out (by decide))); have n3_ := Aside0.mk (blk_grown (g := gb214) (o := .cells #[.int .i64 x215000_5, .int .i64 x215001_5, .int .i64 x215002_5, .slice none 0 0] 28 (0, 0)) (bl_ BK214).out hg (Kd.R_ne HO_12.out BK214.out (by decide))); have n4_ := Aside0.mk (hb); have n5_ := Aside0.mk (ho); clear HO_11; clear HO_14; clear BK213; clear BK214; clear HB; clear HO_12; have HO_11 := n0_; have HO_14 := n1_; have BK213 := n2_; have BK214 := n3_; have HB := n4_; have HO247 := n5_; clear n0_ n1_ n2_ n3_ n4_ n5_; clear ho hb hg hat))
                          repeat (go_quiet (first | (go_at_call 25; (with_reducible refine (spec_l01In.calls (wrap64 (((rd_T52 x11_2 x13_3).f1) * (rd l3 x16_5))) (-1000000) 1000000 true _ A48.out).mono ?_); rintro e w' ⟨rfl, ⟨nd, rfl⟩⟩; (try first | exact ⟨rfl, _, World.drewN_drewN _ _ _⟩ | exact ⟨rfl, _, Eq.trans (World.drewN_drewN _ _ _) (congrArg (World.drewN _) (Nat.add_assoc _ _ _))⟩); have p244 : 0 ≤ (x16_5 : Int) := of_decide_eq_true (by first | (with_reducible assumption) | assumption); have q244 : x16_5 < (t237.length : Int) := of_decide_eq_true (by first | (with_reducible assumption) | assumption); obtain ⟨ad244, e244, hx244_0, hx244_1, hx244_2⟩ := at_T25 (Kd.R_reads' HO_14.out).2.2 x16_5 p244 q244; cases e244; replace p244 := eq_true p244; replace q244 := eq_true q244) | ((with_reducible refine gate_builtin (b := .append) (xs := #[.tmp 106, .tmp 113]) rfl ?_); (try (refine gate_guard (by rfl) ?_; dsimp only)); at_builtin; refine Kd.R_append k52 (w0 := w) w.heap.size rfl (.tmp 106) (.tmp 113) 26 52 (.agg #[(.int .i64 0), (.int .i64 0), (.int .i64 0), (.int .i64 0)]) 32 rfl Try.underlying26 info52 rfl (by decide) (by omega) u12 x12_5 (⟨(⟨(rd_T25 t237 x16_5).f0, (rd_T25 t237 x16_5).f1, (rd_T25 t237 x16_5).f2⟩ : S25), wrap64 (((rd_T52 x11_2 x13_3).f1) * (rd l3 x16_5))⟩ : S52) [.int .i64 ((rd_T25 t237 x16_5).f0), .int .i64 ((rd_T25 t237 x16_5).f1), .int .i64 ((rd_T25 t237 x16_5).f2), .int .i64 (wrap64 (((rd_T52 x11_2 x13_3).f1) * (rd l3 x16_5)))] (fun k_ => some k_ ≠ (.slice (some ad236) x11_2.length co35 : Value).ownBlock) (fun _ => False) rfl rfl ?aP (fun _ hk => hk.elim) ?aF ?aO ?aB ?aS ?aL ?_; (case aP => exact k52_mkM _ _ _ (⟨(⟨(rd_T25 t237 x16_5).f0, (rd_T25 t237 x16_5).f1, (rd_T25 t237 x16_5).f2⟩ : S25), wrap64 (((rd_T52 x11_2 x13_3).f1) * (rd l3 x16_5))⟩ : S52)); (case aB => exact (bw_ HB).out); (case aF => exact (fun k_ hk => Kd.fresh' (Kd.R_lt (ra_ HO_11.out)) k_ hk)); (case aO => exact (ra_ HO_12.out)); (case aS => exact (below_size (bw_ HB).out)); (case aL => have := LMc50.out; omega); intro v246 w52 ho hb hg hat; rw [← Ny245.out] at ho; have n0_ := Aside0.mk (Kd.R_after (ok := (fun _ => True)) (by (with_reducible repeat (first | apply Kd.R_alloc | apply Kd.R_drewN | apply Kd.R_drew)); exact Kd.R_mono HO_11.out (fun _ hk => ⟨trivial, hk⟩)) hg hat); have n1_ := Aside0.mk (Kd.R_over' (ra_ HO_14.out) (Kd.R_typed (ra_ HO_12.out)) (by decide) hg); have n2_ := Aside0.mk (blk_grown (g := gb213) (o := .cells #[.int .i64 a1_0, .int .i64 a1_1, .int .i64 a1_2] 25 (0, 0)) (bl_ BK213).out hg (Kd.R_ne HO_12.out BK213.out (by decide))); have n3_ := Aside0.mk (blk_grown (g := gb214) (o := .cells #[.int .i64 x215000_5, .int .i64 x215001_5, .int .i64 x215002_5, .slice none 0 0] 28 (0, 0)) (bl_ BK214).out hg (Kd.R_ne HO_12.out BK214.out (by decide))); have n4_ := Aside0.mk (hb); have n5_ := Aside0.mk (ho); clear HO_11; clear HO_14; clear BK213; clear BK214; clear HB; clear HO_12; have HO_11 := n0_; have HO_14 := n1_; have BK213 := n2_; have BK214 := n3_; have HB := n4_; have HO247 := n5_; clear n0_ n1_ n2_ n3_ n4_ n5_; clear ho hb hg hat)); try go_wp2_with (first | (go_at_call 25; (with_reducible refine (spec_l01In.calls (wrap64 (((rd_T52 x11_2 x13_3).f1) * (rd l3 x16_5))) (-1000000) 1000000 true _ A48.out).mono ?_); rintro e w' ⟨rfl, ⟨nd, rfl⟩⟩; (try first | exact ⟨rfl, _, World.drewN_drewN _ _ _⟩ | exact ⟨rfl, _, Eq.trans (World.drewN_drewN _ _ _) (congrArg (World.drewN _) (Nat.add_assoc _ _ _))⟩); have p244 : 0 ≤ (x16_5 : Int) := of_decide_eq_true (by first | (with_reducible assumption) | assumption); have q244 : x16_5 < (t237.length : Int) := of_decide_eq_true (by first | (with_reducible assumption) | assumption); obtain ⟨ad244, e244, hx244_0, hx244_1, hx244_2⟩ := at_T25 (Kd.R_reads' HO_14.out).2.2 x16_5 p244 q244; cases e244; replace p244 := eq_true p244; replace q244 := eq_true q244) | ((with_reducible refine gate_builtin (b := .append) (xs := #[.tmp 106, .tmp 113]) rfl ?_); (try (refine gate_guard (by rfl) ?_; dsimp only)); at_builtin; refine Kd.R_append k52 (w0 := w) w.heap.size rfl (.tmp 106) (.tmp 113) 26 52 (.agg #[(.int .i64 0), (.int .i64 0), (.int .i64 0), (.int .i64 0)]) 32 rfl Try.underlying26 info52 rfl (by decide) (by omega) u12 x12_5 (⟨(⟨(rd_T25 t237 x16_5).f0, (rd_T25 t237 x16_5).f1, (rd_T25 t237 x16_5).f2⟩ : S25), wrap64 (((rd_T52 x11_2 x13_3).f1) * (rd l3 x16_5))⟩ : S52) [.int .i64 ((rd_T25 t237 x16_5).f0), .int .i64 ((rd_T25 t237 x16_5).f1), .int .i64 ((rd_T25 t237 x16_5).f2), .int .i64 (wrap64 (((rd_T52 x11_2 x13_3).f1) * (rd l3 x16_5)))] (fun k_ => some k_ ≠ (.slice (some ad236) x11_2.length co35 : Value).ownBlock) (fun _ => False) rfl rfl ?aP (fun _ hk => hk.elim) ?aF ?aO ?aB ?aS ?aL ?_; (case aP => exact k52_mkM _ _ _ (⟨(⟨(rd_T25 t237 x16_5).f0, (rd_T25 t237 x16_5).f1, (rd_T25 t237 x16_5).f2⟩ : S25), wrap64 (((rd_T52 x11_2 x13_3).f1) * (rd l3 x16_5))⟩ : S52)); (case aB => exact (bw_ HB).out); (case aF => exact (fun k_ hk => Kd.fresh' (Kd.R_lt (ra_ HO_11.out)) k_ hk)); (case aO => exact (ra_ HO_12.out)); (case aS => exact (below_size (bw_ HB).out)); (case aL => have := LMc50.out; omega); intro v246 w52 ho hb hg hat; rw [← Ny245.out] at ho; have n0_ := Aside0.mk (Kd.R_after (ok := (fun _ => True)) (by (with_reducible repeat (first | apply Kd.R_alloc | apply Kd.R_drewN | apply Kd.R_drew)); exact Kd.R_mono HO_11.out (fun _ hk => ⟨trivial, hk⟩)) hg hat); have n1_ := Aside0.mk (Kd.R_over' (ra_ HO_14.out) (Kd.R_typed (ra_ HO_12.out)) (by decide) hg); have n2_ := Aside0.mk (blk_grown (g := gb213) (o := .cells #[.int .i64 a1_0, .int .i64 a1_1, .int .i64 a1_2] 25 (0, 0)) (bl_ BK213).out hg (Kd.R_ne HO_12.out BK213.out (by decide))); have n3_ := Aside0.mk (blk_grown (g := gb214) (o := .cells #[.int .i64 x215000_5, .int .i64 x215001_5, .int .i64 x215002_5, .slice none 0 0] 28 (0, 0)) (bl_ BK214).out hg (Kd.R_ne HO_12.out BK214.out (by decide))); have n4_ := Aside0.mk (hb); have n5_ := Aside0.mk (ho); clear HO_11; clear HO_14; clear BK213; clear BK214; clear HB; clear HO_12; have HO_11 := n0_; have HO_14 := n1_; have BK213 := n2_; have BK214 := n3_; have HB := n4_; have HO247 := n5_; clear n0_ n1_ n2_ n3_ n4_ n5_; clear ho hb hg hat)))
                          go_roundg k5
                          case measure => have := HK1.out; have := HK2.out; have := HK3.out; have := HJ33.out; have := HK5.out; omega
                          case rel => exact ⟨(y245), (wrap64 (x16_5 + 1)), (x215000_5), (x215001_5), (x215002_5), (by first | rfl | (simp; done) | (simp [*]; done) | (simp [wrap64]; done)), H', ⟨by have := HK1.out; have := HK2.out; have := HK3.out; have := HJ33.out; have := HK5.out; omega⟩, ⟨by (with_reducible repeat (first | apply Kd.R_alloc | apply Kd.R_drewN | apply Kd.R_drew)); exact Kd.R_mono HO_11.out (fun _ hk => hk.2)⟩, ⟨by (with_reducible repeat (first | apply Kd.R_alloc | apply Kd.R_drewN | apply Kd.R_drew)); exact HO247.out⟩, ⟨by (with_reducible repeat (first | apply Kd.R_alloc | apply Kd.R_drewN | apply Kd.R_drew)); exact HO_14.out⟩, bl_ BK213, bl_ BK214, bw_ HB⟩
                         ·rw [if_neg c50] at H
                          exact absurd H (by simp)
                        ·replace c49 := Bool.eq_false_iff.mpr c49
                         subst c49
                         have H1 : (some (0, 0, 0, ([] : List (S52)), 3)) = some (r1, r2, r3, r4, r5) := by rw [if_neg (show ¬ (false = true) by decide)] at H; exact H
                         clear H
                         have H := H1
                         clear H1
                         simp only [Option.some.injEq, Prod.mk.injEq] at H
                         obtain ⟨rfl, rfl, rfl, rfl, rfl⟩ := H
                         obtain ⟨Ao53, co53, eo53⟩ := Kd.R_slice HO_14.out
                         subst eo53
                         have p241 : 0 ≤ (x13_3 : Int) := of_decide_eq_true (by first | (with_reducible assumption) | assumption)
                         have q241 : x13_3 < (x11_2.length : Int) := of_decide_eq_true (by first | (with_reducible assumption) | assumption)
                         obtain ⟨ad241, e241, hx241_0, hx241_1, hx241_2, hx241_3⟩ := at_T52 (Kd.R_reads' HO_11.out).2.2 x13_3 p241 q241
                         obtain rfl : ad236 = ad241 := (by injection e241)
                         replace p241 := eq_true p241
                         replace q241 := eq_true q241
                         have p242 : 0 ≤ (x16_5 : Int) := of_decide_eq_true (by first | (with_reducible assumption) | assumption)
                         have q242 : x16_5 < (l3.length : Int) := of_decide_eq_true (by first | (with_reducible assumption) | assumption)
                         obtain ⟨ad242, e242, hx242_0⟩ := Kd.at_int HR3.out x16_5 p242 q242
                         cases e242
                         replace hx242_0 := clTr HB.out hx242_0
                         replace p242 := eq_true p242
                         replace q242 := eq_true q242
                         go_wp2_with (first | (go_at_call 25; (with_reducible refine (spec_l01In.calls (wrap64 (((rd_T52 x11_2 x13_3).f1) * (rd l3 x16_5))) (-1000000) 1000000 false _ A48.out).mono ?_); rintro e w' ⟨rfl, ⟨nd, rfl⟩⟩; (try first | exact ⟨rfl, _, World.drewN_drewN _ _ _⟩ | exact ⟨rfl, _, Eq.trans (World.drewN_drewN _ _ _) (congrArg (World.drewN _) (Nat.add_assoc _ _ _))⟩); have hnb54 := NB214_213.out; have hnc54 := NB213_214.out; have hcz55_0 : wr.cell? ⟨gb214, 0, none⟩ = some (.int .i64 x215000_5) := cz_ BK214 0; have hcz55_1 : wr.cell? ⟨gb214, 1, none⟩ = some (.int .i64 x215001_5) := cz_ BK214 1; have hcz55_2 : wr.cell? ⟨gb214, 2, none⟩ = some (.int .i64 x215002_5) := cz_ BK214 2; have hcz55_3 : wr.cell? ⟨gb214, 3, none⟩ = some (.slice none 0 0) := cz_ BK214 3; have hfz55_0 := fz_ BK214 0; have hfz55_1 := fz_ BK214 1; have hfz55_2 := fz_ BK214 2; have hfz55_3 := fz_ BK214 3))
                         repeat (go_quiet (first | (go_at_call 25; (with_reducible refine (spec_l01In.calls (wrap64 (((rd_T52 x11_2 x13_3).f1) * (rd l3 x16_5))) (-1000000) 1000000 false _ A48.out).mono ?_); rintro e w' ⟨rfl, ⟨nd, rfl⟩⟩; (try first | exact ⟨rfl, _, World.drewN_drewN _ _ _⟩ | exact ⟨rfl, _, Eq.trans (World.drewN_drewN _ _ _) (congrArg (World.drewN _) (Nat.add_assoc _ _ _))⟩); have hnb54 := NB214_213.out; have hnc54 := NB213_214.out; have hcz55_0 : wr.cell? ⟨gb214, 0, none⟩ = some (.int .i64 x215000_5) := cz_ BK214 0; have hcz55_1 : wr.cell? ⟨gb214, 1, none⟩ = some (.int .i64 x215001_5) := cz_ BK214 1; have hcz55_2 : wr.cell? ⟨gb214, 2, none⟩ = some (.int .i64 x215002_5) := cz_ BK214 2; have hcz55_3 : wr.cell? ⟨gb214, 3, none⟩ = some (.slice none 0 0) := cz_ BK214 3; have hfz55_0 := fz_ BK214 0; have hfz55_1 := fz_ BK214 1; have hfz55_2 := fz_ BK214 2; have hfz55_3 := fz_ BK214 3)); try go_wp2_with (first | (go_at_call 25; (with_reducible refine (spec_l01In.calls (wrap64 (((rd_T52 x11_2 x13_3).f1) * (rd l3 x16_5))) (-1000000) 1000000 false _ A48.out).mono ?_); rintro e w' ⟨rfl, ⟨nd, rfl⟩⟩; (try first | exact ⟨rfl, _, World.drewN_drewN _ _ _⟩ | exact ⟨rfl, _, Eq.trans (World.drewN_drewN _ _ _) (congrArg (World.drewN _) (Nat.add_assoc _ _ _))⟩); have hnb54 := NB214_213.out; have hnc54 := NB213_214.out; have hcz55_0 : wr.cell? ⟨gb214, 0, none⟩ = some (.int .i64 x215000_5) := cz_ BK214 0; have hcz55_1 : wr.cell? ⟨gb214, 1, none⟩ = some (.int .i64 x215001_5) := cz_ BK214 1; have hcz55_2 : wr.cell? ⟨gb214, 2, none⟩ = some (.int .i64 x215002_5) := cz_ BK214 2; have hcz55_3 : wr.cell? ⟨gb214, 3, none⟩ = some (.slice none 0 0) := cz_ BK214 3; have hfz55_0 := fz_ BK214 0; have hfz55_1 := fz_ BK214 1; have hfz55_2 := fz_ BK214 2; have hfz55_3 := fz_ BK214 3)))
                         refine bodyPost_ret (results_ct rfl _ _ gb214 28 #[.int .i64 0, .int .i64 0, .int .i64 0, .slice none 0 0] (0, 0) _ rfl (by (with_reducible repeat first | apply blk_drewN | apply blk_drew | apply blk_alloc); refine blk_put (cs := #[.int .i64 0, .int .i64 0, .int .i64 0, .slice none 0 0]) ?_ 3 _ rfl; (with_reducible repeat first | apply blk_drewN | apply blk_drew | apply blk_alloc); refine blk_put (cs := #[.int .i64 0, .int .i64 0, .int .i64 x215002_5, .slice none 0 0]) ?_ 2 _ rfl; (with_reducible repeat first | apply blk_drewN | apply blk_drew | apply blk_alloc); refine blk_put (cs := #[.int .i64 0, .int .i64 x215001_5, .int .i64 x215002_5, .slice none 0 0]) ?_ 1 _ rfl; (with_reducible repeat first | apply blk_drewN | apply blk_drew | apply blk_alloc); refine blk_put (cs := #[.int .i64 x215000_5, .int .i64 x215001_5, .int .i64 x215002_5, .slice none 0 0]) ?_ 0 _ rfl; (with_reducible repeat first | apply blk_drewN | apply blk_drew | apply blk_alloc); exact BK214.out) Try.underlying28 rfl (by kernel_rfl)) rfl ?_
                         exact ⟨_, by first | rfl | (simp [errW_none, errW_some] <;> rfl) | (simp [*, errW_none, errW_some] <;> rfl), by first | exact Kd.R_nil _ _ _ _ _ | exact Kd.N_nil _ _ _ _ _ | exact Kd.V_nil _ _ _ _ _ | exact Kd.Q_nil _ _ _ _ _ | exact Kd.S_nil _ _ _ _ _, by repeat (first | (with_reducible first | exact HB.out | apply below_alloc | apply pw_below_drewN | apply below_drew1 | refine below_set ?_ GE213.out | refine below_set ?_ GE214.out) | exact HB.out)⟩
                       ·rw [if_neg c47] at H
                        exact absurd H (by simp)
                      ·rw [if_neg c46] at H
                       exact absurd H (by simp)
                     ·rw [if_neg c45] at H
                      exact absurd H (by simp)
                    ·rw [if_neg c44] at H
                     exact absurd H (by simp)
                   ·rw [if_neg c43] at H
                    have c43b0 : decide (x16_5 < (t237.length : Int)) = false := decide_eq_false c43
                    clear c43
                    have H' := Aside0.mk H
                    clear H
                    obtain ⟨Ao56, co56, eo56⟩ := Kd.R_slice HO_14.out
                    subst eo56
                    go_wp2
                    repeat (go_quiet (fail); try go_wp2)
                    go_roundg k5
                    case measure => have := HK1.out; have := HK2.out; have := HK3.out; have := HJ33.out; have := HK5.out; omega
                    case rel => exact ⟨(x12_5), (wrap64 (x13_3 + 1)), (x215000_5), (x215001_5), (x215002_5), (by first | rfl | (simp; done) | (simp [*]; done) | (simp [wrap64]; done)), H', ⟨by have := HK1.out; have := HK2.out; have := HK3.out; have := HJ33.out; have := HK5.out; omega⟩, ⟨by (with_reducible repeat (first | apply Kd.R_alloc | apply Kd.R_drewN | apply Kd.R_drew)); exact HO_11.out⟩, ⟨by (with_reducible repeat (first | apply Kd.R_alloc | apply Kd.R_drewN | apply Kd.R_drew)); exact HO_12.out⟩, bl_ BK213, bl_ BK214, bw_ HB⟩
             ·rw [if_neg c32] at H
              exact absurd H (by simp)
            ·rw [if_neg c31] at H
             have c31b0 : decide (x13_3 < (x11_2.length : Int)) = false := decide_eq_false c31
             clear c31
             have H' := Aside0.mk H
             clear H
             obtain ⟨Ao57, co57, eo57⟩ := Kd.R_slice HO_11.out
             subst eo57
             go_wp2
             repeat (go_quiet (fail); try go_wp2)
             go_roundg k3
             case measure => have := HK1.out; have := HK2.out; have := HK3.out; omega
             case rel => exact ⟨(wrap64 (x2_2 - 1)), (x12_3), (x215000_3), (x215001_3), (x215002_3), (by first | rfl | (simp; done) | (simp [*]; done) | (simp [wrap64]; done)), H', ⟨by have := HK1.out; have := HK2.out; have := HK3.out; omega⟩, ⟨by (with_reducible repeat (first | apply Kd.R_alloc | apply Kd.R_drewN | apply Kd.R_drew)); exact Kd.R_mono HO_12.out (fun _ hk => trivial)⟩, bl_ BK213, bl_ BK214, bw_ HB⟩
         ·rw [if_neg c28] at H
          have c28b0 : decide (0 < x2_2) = false := decide_eq_false c28
          clear c28
          replace H := Option.bind_eq_some_iff.mp H
          obtain ⟨⟨t225, t226, t227, t228, t231⟩, A580, H⟩ := H
          have A58 := Aside0.mk A580
          clear A580
          simp only [Option.some.injEq, Prod.mk.injEq] at H
          obtain ⟨rfl, rfl, rfl, rfl, rfl⟩ := H
          have hnb59 := NB213_214.out
          have hnc59 := NB214_213.out
          have hcz60_0 : wr.cell? ⟨gb213, 0, none⟩ = some (.int .i64 a1_0) := cz_ BK213 0
          have hcz60_1 : wr.cell? ⟨gb213, 1, none⟩ = some (.int .i64 a1_1) := cz_ BK213 1
          have hcz60_2 : wr.cell? ⟨gb213, 2, none⟩ = some (.int .i64 a1_2) := cz_ BK213 2
          have hfz60_0 := fz_ BK213 0
          have hfz60_1 := fz_ BK213 1
          have hfz60_2 := fz_ BK213 2
          obtain ⟨Ao61, co61, eo61⟩ := Kd.R_slice HO_11.out
          subst eo61
          go_wp2_with (first | (go_at_call 27; (with_reducible refine (spec_l08Told.calls k2 a0 a1_0 a1_1 a1_2 _ _ x11_2 t225 t226 t227 t228 t231 _ ?side1 ?side2 A58.out).mono ?_); (case side1 => repeat (first | exact (Kd.R_reads' HO_11.out).2.2 | (with_reducible refine Kd.C_alloc ?_ _) | (with_reducible refine Kd.C_drewN ?_ _) | (with_reducible refine Kd.C_drew ?_))); (case side2 => exact (Kd.R_reads' HO_11.out).2.1); rintro e w62 ⟨v229, rfl, ho0, hb⟩; have HO230 := Aside0.mk (Kd.R_lower (Kd.R_new' ho0 (Kd.R_lt (ra_ HO_11.out))) (below_size (bw_ HB).out)); replace HO_11 := Aside0.mk (Kd.R_elder' (ra_ HO_11.out) (Kd.R_base ho0) hb); replace BK213 := bb_ BK213 hb; replace BK214 := bb_ BK214 hb; replace HB := bt_ HB hb; (try clear hb); (try clear hb2); (try clear hk); (try clear hi); (try clear ho0)) | ((with_reducible refine gate_dst (N := 18) rfl ?_); (try (refine gate_guard (by rfl) ?_; dsimp only)); refine bx_ 18 #[.int .i64 0, .int .i64 0, .int .i64 0, .slice none 0 0] 28 ?_; intro gb232 hg w63 hbox hb; have BK232 := Aside0.mk (hbox); have GW232 := bs_ HB hg; have GE232 := bs_ HB hg; have NB213_232 := bm_ BK213 hg; have NB232_213 := bn_ BK213 hg; have NB214_232 := bm_ BK214 hg; have NB232_214 := bn_ BK214 hg; replace HO_11 := Aside0.mk (Kd.R_below (ra_ HO_11.out) hb); replace HO230 := Aside0.mk (Kd.R_below (ra_ HO230.out) hb); replace BK213 := bb_ BK213 hb; replace BK214 := bb_ BK214 hb; replace HB := bt_ HB hb; clear hb hbox hg; have hnb64 := NB232_213.out; have hnc64 := NB213_232.out; have hnb65 := NB232_214.out; have hnc65 := NB214_232.out; have hcz66_0 : w63.cell? ⟨gb232, 0, none⟩ = some (.int .i64 0) := cz_ BK232 0; have hcz66_1 : w63.cell? ⟨gb232, 1, none⟩ = some (.int .i64 0) := cz_ BK232 1; have hcz66_2 : w63.cell? ⟨gb232, 2, none⟩ = some (.int .i64 0) := cz_ BK232 2; have hcz66_3 : w63.cell? ⟨gb232, 3, none⟩ = some (.slice none 0 0) := cz_ BK232 3; have hfz66_0 := fz_ BK232 0; have hfz66_1 := fz_ BK232 1; have hfz66_2 := fz_ BK232 2; have hfz66_3 := fz_ BK232 3; obtain ⟨Ao67, co67, eo67⟩ := Kd.R_slice HO230.out; subst eo67; have hcz68_0 : w63.cell? ⟨gb214, 0, none⟩ = some (.int .i64 x215000_2) := cz_ BK214 0; have hcz68_1 : w63.cell? ⟨gb214, 1, none⟩ = some (.int .i64 x215001_2) := cz_ BK214 1; have hcz68_2 : w63.cell? ⟨gb214, 2, none⟩ = some (.int .i64 x215002_2) := cz_ BK214 2; have hcz68_3 : w63.cell? ⟨gb214, 3, none⟩ = some (.slice none 0 0) := cz_ BK214 3; have hfz68_0 := fz_ BK214 0; have hfz68_1 := fz_ BK214 1; have hfz68_2 := fz_ BK214 2; have hfz68_3 := fz_ BK214 3))
          repeat (go_quiet (first | (go_at_call 27; (with_reducible refine (spec_l08Told.calls k2 a0 a1_0 a1_1 a1_2 _ _ x11_2 t225 t226 t227 t228 t231 _ ?side1 ?side2 A58.out).mono ?_); (case side1 => repeat (first | exact (Kd.R_reads' HO_11.out).2.2 | (with_reducible refine Kd.C_alloc ?_ _) | (with_reducible refine Kd.C_drewN ?_ _) | (with_reducible refine Kd.C_drew ?_))); (case side2 => exact (Kd.R_reads' HO_11.out).2.1); rintro e w62 ⟨v229, rfl, ho0, hb⟩; have HO230 := Aside0.mk (Kd.R_lower (Kd.R_new' ho0 (Kd.R_lt (ra_ HO_11.out))) (below_size (bw_ HB).out)); replace HO_11 := Aside0.mk (Kd.R_elder' (ra_ HO_11.out) (Kd.R_base ho0) hb); replace BK213 := bb_ BK213 hb; replace BK214 := bb_ BK214 hb; replace HB := bt_ HB hb; (try clear hb); (try clear hb2); (try clear hk); (try clear hi); (try clear ho0)) | ((with_reducible refine gate_dst (N := 18) rfl ?_); (try (refine gate_guard (by rfl) ?_; dsimp only)); refine bx_ 18 #[.int .i64 0, .int .i64 0, .int .i64 0, .slice none 0 0] 28 ?_; intro gb232 hg w63 hbox hb; have BK232 := Aside0.mk (hbox); have GW232 := bs_ HB hg; have GE232 := bs_ HB hg; have NB213_232 := bm_ BK213 hg; have NB232_213 := bn_ BK213 hg; have NB214_232 := bm_ BK214 hg; have NB232_214 := bn_ BK214 hg; replace HO_11 := Aside0.mk (Kd.R_below (ra_ HO_11.out) hb); replace HO230 := Aside0.mk (Kd.R_below (ra_ HO230.out) hb); replace BK213 := bb_ BK213 hb; replace BK214 := bb_ BK214 hb; replace HB := bt_ HB hb; clear hb hbox hg; have hnb64 := NB232_213.out; have hnc64 := NB213_232.out; have hnb65 := NB232_214.out; have hnc65 := NB214_232.out; have hcz66_0 : w63.cell? ⟨gb232, 0, none⟩ = some (.int .i64 0) := cz_ BK232 0; have hcz66_1 : w63.cell? ⟨gb232, 1, none⟩ = some (.int .i64 0) := cz_ BK232 1; have hcz66_2 : w63.cell? ⟨gb232, 2, none⟩ = some (.int .i64 0) := cz_ BK232 2; have hcz66_3 : w63.cell? ⟨gb232, 3, none⟩ = some (.slice none 0 0) := cz_ BK232 3; have hfz66_0 := fz_ BK232 0; have hfz66_1 := fz_ BK232 1; have hfz66_2 := fz_ BK232 2; have hfz66_3 := fz_ BK232 3; obtain ⟨Ao67, co67, eo67⟩ := Kd.R_slice HO230.out; subst eo67; have hcz68_0 : w63.cell? ⟨gb214, 0, none⟩ = some (.int .i64 x215000_2) := cz_ BK214 0; have hcz68_1 : w63.cell? ⟨gb214, 1, none⟩ = some (.int .i64 x215001_2) := cz_ BK214 1; have hcz68_2 : w63.cell? ⟨gb214, 2, none⟩ = some (.int .i64 x215002_2) := cz_ BK214 2; have hcz68_3 : w63.cell? ⟨gb214, 3, none⟩ = some (.slice none 0 0) := cz_ BK214 3; have hfz68_0 := fz_ BK214 0; have hfz68_1 := fz_ BK214 1; have hfz68_2 := fz_ BK214 2; have hfz68_3 := fz_ BK214 3)); try go_wp2_with (first | (go_at_call 27; (with_reducible refine (spec_l08Told.calls k2 a0 a1_0 a1_1 a1_2 _ _ x11_2 t225 t226 t227 t228 t231 _ ?side1 ?side2 A58.out).mono ?_); (case side1 => repeat (first | exact (Kd.R_reads' HO_11.out).2.2 | (with_reducible refine Kd.C_alloc ?_ _) | (with_reducible refine Kd.C_drewN ?_ _) | (with_reducible refine Kd.C_drew ?_))); (case side2 => exact (Kd.R_reads' HO_11.out).2.1); rintro e w62 ⟨v229, rfl, ho0, hb⟩; have HO230 := Aside0.mk (Kd.R_lower (Kd.R_new' ho0 (Kd.R_lt (ra_ HO_11.out))) (below_size (bw_ HB).out)); replace HO_11 := Aside0.mk (Kd.R_elder' (ra_ HO_11.out) (Kd.R_base ho0) hb); replace BK213 := bb_ BK213 hb; replace BK214 := bb_ BK214 hb; replace HB := bt_ HB hb; (try clear hb); (try clear hb2); (try clear hk); (try clear hi); (try clear ho0)) | ((with_reducible refine gate_dst (N := 18) rfl ?_); (try (refine gate_guard (by rfl) ?_; dsimp only)); refine bx_ 18 #[.int .i64 0, .int .i64 0, .int .i64 0, .slice none 0 0] 28 ?_; intro gb232 hg w63 hbox hb; have BK232 := Aside0.mk (hbox); have GW232 := bs_ HB hg; have GE232 := bs_ HB hg; have NB213_232 := bm_ BK213 hg; have NB232_213 := bn_ BK213 hg; have NB214_232 := bm_ BK214 hg; have NB232_214 := bn_ BK214 hg; replace HO_11 := Aside0.mk (Kd.R_below (ra_ HO_11.out) hb); replace HO230 := Aside0.mk (Kd.R_below (ra_ HO230.out) hb); replace BK213 := bb_ BK213 hb; replace BK214 := bb_ BK214 hb; replace HB := bt_ HB hb; clear hb hbox hg; have hnb64 := NB232_213.out; have hnc64 := NB213_232.out; have hnb65 := NB232_214.out; have hnc65 := NB214_232.out; have hcz66_0 : w63.cell? ⟨gb232, 0, none⟩ = some (.int .i64 0) := cz_ BK232 0; have hcz66_1 : w63.cell? ⟨gb232, 1, none⟩ = some (.int .i64 0) := cz_ BK232 1; have hcz66_2 : w63.cell? ⟨gb232, 2, none⟩ = some (.int .i64 0) := cz_ BK232 2; have hcz66_3 : w63.cell? ⟨gb232, 3, none⟩ = some (.slice none 0 0) := cz_ BK232 3; have hfz66_0 := fz_ BK232 0; have hfz66_1 := fz_ BK232 1; have hfz66_2 := fz_ BK232 2; have hfz66_3 := fz_ BK232 3; obtain ⟨Ao67, co67, eo67⟩ := Kd.R_slice HO230.out; subst eo67; have hcz68_0 : w63.cell? ⟨gb214, 0, none⟩ = some (.int .i64 x215000_2) := cz_ BK214 0; have hcz68_1 : w63.cell? ⟨gb214, 1, none⟩ = some (.int .i64 x215001_2) := cz_ BK214 1; have hcz68_2 : w63.cell? ⟨gb214, 2, none⟩ = some (.int .i64 x215002_2) := cz_ BK214 2; have hcz68_3 : w63.cell? ⟨gb214, 3, none⟩ = some (.slice none 0 0) := cz_ BK214 3; have hfz68_0 := fz_ BK214 0; have hfz68_1 := fz_ BK214 1; have hfz68_2 := fz_ BK214 2; have hfz68_3 := fz_ BK214 3)))
          refine bodyPost_ret (results_ct rfl _ _ gb214 28 #[.int .i64 t225, .int .i64 t226, .int .i64 t227, .slice Ao67 t228.length co67] (0, 0) _ rfl (by (with_reducible repeat first | apply blk_drewN | apply blk_drew | apply blk_alloc); refine blk_put (cs := #[.int .i64 t225, .int .i64 t226, .int .i64 t227, .slice none 0 0]) ?_ 3 _ rfl; (with_reducible repeat first | apply blk_drewN | apply blk_drew | apply blk_alloc); refine blk_put (cs := #[.int .i64 t225, .int .i64 t226, .int .i64 x215002_2, .slice none 0 0]) ?_ 2 _ rfl; (with_reducible repeat first | apply blk_drewN | apply blk_drew | apply blk_alloc); refine blk_put (cs := #[.int .i64 t225, .int .i64 x215001_2, .int .i64 x215002_2, .slice none 0 0]) ?_ 1 _ rfl; (with_reducible repeat first | apply blk_drewN | apply blk_drew | apply blk_alloc); refine blk_put (cs := #[.int .i64 x215000_2, .int .i64 x215001_2, .int .i64 x215002_2, .slice none 0 0]) ?_ 0 _ rfl; (with_reducible repeat first | apply blk_drewN | apply blk_drew | apply blk_alloc); refine blk_far ?_ NB214_232.out _; (with_reducible repeat first | apply blk_drewN | apply blk_drew | apply blk_alloc); refine blk_far ?_ NB214_232.out _; (with_reducible repeat first | apply blk_drewN | apply blk_drew | apply blk_alloc); refine blk_far ?_ NB214_232.out _; (with_reducible repeat first | apply blk_drewN | apply blk_drew | apply blk_alloc); refine blk_far ?_ NB214_232.out _; (with_reducible repeat first | apply blk_drewN | apply blk_drew | apply blk_alloc); exact BK214.out) Try.underlying28 rfl (by kernel_rfl)) rfl ?_
          exact ⟨_, by first | rfl | (simp [errW_none, errW_some] <;> rfl) | (simp [*, errW_none, errW_some] <;> rfl), by (with_reducible repeat (first | apply Kd.R_alloc | apply Kd.R_drewN | apply Kd.R_drew)); exact Kd.R_mono (Kd.R_far (p := ⟨gb214, 3, none⟩) (Kd.R_far (p := ⟨gb214, 2, none⟩) (Kd.R_far (p := ⟨gb214, 1, none⟩) (Kd.R_far (p := ⟨gb214, 0, none⟩) (Kd.R_far (p := ⟨gb232, 3, none⟩) (Kd.R_far (p := ⟨gb232, 2, none⟩) (Kd.R_far (p := ⟨gb232, 1, none⟩) (Kd.R_far (p := ⟨gb232, 0, none⟩) (Kd.R_types (Kd.R_types HO230.out BK232.out (by decide)) BK214.out (by decide)) (fun _ hk => hk.1.2) (.int .i64 t225)) (fun _ hk => hk.1.2) (.int .i64 t226)) (fun _ hk => hk.1.2) (.int .i64 t227)) (fun _ hk => hk.1.2) (.slice Ao67 t228.length co67)) (fun _ hk => hk.2) (.int .i64 t225)) (fun _ hk => hk.2) (.int .i64 t226)) (fun _ hk => hk.2) (.int .i64 t227)) (fun _ hk => hk.2) (.slice Ao67 t228.length co67)) (fun _ hk => trivial), by repeat (first | (with_reducible first | exact HB.out | apply below_alloc | apply pw_below_drewN | apply below_drew1 | refine below_set ?_ GE213.out | refine below_set ?_ GE214.out | refine below_set ?_ GE232.out) | exact HB.out)⟩
   ·rw [if_neg c9] at H
    have c9b0 : ((l3.length : Int) == a0) = false := beq_eq_false_iff_ne.mpr c9
    have c9b1 : ((l3.length : Int) != a0) = true := bne_iff_ne.mpr c9
    simp only [Option.some.injEq, Prod.mk.injEq] at H
    obtain ⟨rfl, rfl, rfl, rfl, rfl⟩ := H
    go_enter Try.func7, Try.ntmps7
    go_wp2_with (first | ((with_reducible refine gate_dst (N := 5) rfl ?_); (try (refine gate_guard (by rfl) ?_; dsimp only)); refine bx_ 5 #[.int .i64 a1_0, .int .i64 a1_1, .int .i64 a1_2] 25 ?_; intro gb213 hg w69 hbox hb; have BK213 := Aside0.mk (hbox); have GW213 := bs_ HB hg; have GE213 := bs_ HB hg; replace HB := bt_ HB hb; clear hb hbox hg) | ((with_reducible refine gate_dst (N := 8) rfl ?_); (try (refine gate_guard (by rfl) ?_; dsimp only)); refine bx_ 8 #[.int .i64 0, .int .i64 0, .int .i64 0, .slice none 0 0] 28 ?_; intro gb214 hg w70 hbox hb; have BK214 := Aside0.mk (hbox); have GW214 := bs_ HB hg; have GE214 := bs_ HB hg; have NB213_214 := bm_ BK213 hg; have NB214_213 := bn_ BK213 hg; replace BK213 := bb_ BK213 hb; replace HB := bt_ HB hb; clear hb hbox hg; have hnb71 := NB213_214.out; have hnc71 := NB214_213.out; have hcz72_0 : w70.cell? ⟨gb213, 0, none⟩ = some (.int .i64 a1_0) := cz_ BK213 0; have hcz72_1 : w70.cell? ⟨gb213, 1, none⟩ = some (.int .i64 a1_1) := cz_ BK213 1; have hcz72_2 : w70.cell? ⟨gb213, 2, none⟩ = some (.int .i64 a1_2) := cz_ BK213 2; have hfz72_0 := fz_ BK213 0; have hfz72_1 := fz_ BK213 1; have hfz72_2 := fz_ BK213 2) | ((with_reducible refine gate_dst (N := 23) rfl ?_); (try (refine gate_guard (by rfl) ?_; dsimp only)); refine Kd.R_lit k25 _ 25 ?hg (N := 23) ?hd (xs := ([(⟨a1_0, a1_1, a1_2⟩ : S25)] : List (S25))) (inner := [.int .i64 a1_0, .int .i64 a1_1, .int .i64 a1_2]) (ok := fun _ => True) (okp := fun _ => True) ?hr ?hp (fun _ hk => hk) trivial (Below.refl _ _) (Nat.le_refl _) (by simp) ?_; (case hd => rfl); (case hg => rfl); (case hr => first | (go_simp; done) | (go_simp; rfl)); (case hp => exact (Reps.c3 (show Kd.M k25 _ _ _ (⟨a1_0, a1_1, a1_2⟩ : S25) [.int .i64 a1_0, .int .i64 a1_1, .int .i64 a1_2] from (k25_mkM _ _ _ (⟨a1_0, a1_1, a1_2⟩ : S25) )) (Reps.none _ _))); intro v216 w73 ho74 hb hg_ hnew_; clear hg_ hnew_; (first | rw [← Ny215.out] at ho74 | (simp only [Int.reduceToNat] at ho74; rw [← Ny215.out] at ho74)); have HO217 := Aside0.mk (Kd.R_lower (Kd.R_newB ho74 (g := gb213) (o := .cells #[.int .i64 a1_0, .int .i64 a1_1, .int .i64 a1_2] 25 (0, 0)) (bl_ BK213).out) (below_size (bw_ HB).out)); replace BK213 := bb_ BK213 hb; replace BK214 := bb_ BK214 hb; replace HB := bt_ HB hb; clear hb ho74; obtain ⟨Ao75, co75, eo75⟩ := Kd.R_slice HO217.out; subst eo75) | (go_at_call 24; (with_reducible refine (spec_l01Code.calls k a0 _ _ y215 t218 _ ?side1 ?side2 A5.out).mono ?_); (case side1 => repeat (first | exact (Kd.R_reads' HO217.out).2.2 | (with_reducible refine Kd.C_alloc ?_ _) | (with_reducible refine Kd.C_drewN ?_ _) | (with_reducible refine Kd.C_drew ?_))); (case side2 => exact (Kd.R_reads' HO217.out).2.1); rintro e w76 ⟨rfl, hb⟩; replace HO217 := Aside0.mk (Kd.R_below (ra_ HO217.out) hb); replace BK213 := bb_ BK213 hb; replace BK214 := bb_ BK214 hb; replace HB := bt_ HB hb; (try clear hb); (try clear hb2); (try clear hk); (try clear hi)) | (go_at_call 25; (with_reducible refine (spec_l01In.calls a2 0 6 true _ A7.out).mono ?_); rintro e w' ⟨rfl, ⟨nd, rfl⟩⟩; (try first | exact ⟨rfl, _, World.drewN_drewN _ _ _⟩ | exact ⟨rfl, _, Eq.trans (World.drewN_drewN _ _ _) (congrArg (World.drewN _) (Nat.add_assoc _ _ _))⟩); have hcz77_0 : w76.cell? ⟨gb214, 0, none⟩ = some (.int .i64 0) := cz_ BK214 0; have hcz77_1 : w76.cell? ⟨gb214, 1, none⟩ = some (.int .i64 0) := cz_ BK214 1; have hcz77_2 : w76.cell? ⟨gb214, 2, none⟩ = some (.int .i64 0) := cz_ BK214 2; have hcz77_3 : w76.cell? ⟨gb214, 3, none⟩ = some (.slice none 0 0) := cz_ BK214 3; have hfz77_0 := fz_ BK214 0; have hfz77_1 := fz_ BK214 1; have hfz77_2 := fz_ BK214 2; have hfz77_3 := fz_ BK214 3))
    repeat (go_quiet (first | ((with_reducible refine gate_dst (N := 5) rfl ?_); (try (refine gate_guard (by rfl) ?_; dsimp only)); refine bx_ 5 #[.int .i64 a1_0, .int .i64 a1_1, .int .i64 a1_2] 25 ?_; intro gb213 hg w69 hbox hb; have BK213 := Aside0.mk (hbox); have GW213 := bs_ HB hg; have GE213 := bs_ HB hg; replace HB := bt_ HB hb; clear hb hbox hg) | ((with_reducible refine gate_dst (N := 8) rfl ?_); (try (refine gate_guard (by rfl) ?_; dsimp only)); refine bx_ 8 #[.int .i64 0, .int .i64 0, .int .i64 0, .slice none 0 0] 28 ?_; intro gb214 hg w70 hbox hb; have BK214 := Aside0.mk (hbox); have GW214 := bs_ HB hg; have GE214 := bs_ HB hg; have NB213_214 := bm_ BK213 hg; have NB214_213 := bn_ BK213 hg; replace BK213 := bb_ BK213 hb; replace HB := bt_ HB hb; clear hb hbox hg; have hnb71 := NB213_214.out; have hnc71 := NB214_213.out; have hcz72_0 : w70.cell? ⟨gb213, 0, none⟩ = some (.int .i64 a1_0) := cz_ BK213 0; have hcz72_1 : w70.cell? ⟨gb213, 1, none⟩ = some (.int .i64 a1_1) := cz_ BK213 1; have hcz72_2 : w70.cell? ⟨gb213, 2, none⟩ = some (.int .i64 a1_2) := cz_ BK213 2; have hfz72_0 := fz_ BK213 0; have hfz72_1 := fz_ BK213 1; have hfz72_2 := fz_ BK213 2) | ((with_reducible refine gate_dst (N := 23) rfl ?_); (try (refine gate_guard (by rfl) ?_; dsimp only)); refine Kd.R_lit k25 _ 25 ?hg (N := 23) ?hd (xs := ([(⟨a1_0, a1_1, a1_2⟩ : S25)] : List (S25))) (inner := [.int .i64 a1_0, .int .i64 a1_1, .int .i64 a1_2]) (ok := fun _ => True) (okp := fun _ => True) ?hr ?hp (fun _ hk => hk) trivial (Below.refl _ _) (Nat.le_refl _) (by simp) ?_; (case hd => rfl); (case hg => rfl); (case hr => first | (go_simp; done) | (go_simp; rfl)); (case hp => exact (Reps.c3 (show Kd.M k25 _ _ _ (⟨a1_0, a1_1, a1_2⟩ : S25) [.int .i64 a1_0, .int .i64 a1_1, .int .i64 a1_2] from (k25_mkM _ _ _ (⟨a1_0, a1_1, a1_2⟩ : S25) )) (Reps.none _ _))); intro v216 w73 ho74 hb hg_ hnew_; clear hg_ hnew_; (first | rw [← Ny215.out] at ho74 | (simp only [Int.reduceToNat] at ho74; rw [← Ny215.out] at ho74)); have HO217 := Aside0.mk (Kd.R_lower (Kd.R_newB ho74 (g := gb213) (o := .cells #[.int .i64 a1_0, .int .i64 a1_1, .int .i64 a1_2] 25 (0, 0)) (bl_ BK213).out) (below_size (bw_ HB).out)); replace BK213 := bb_ BK213 hb; replace BK214 := bb_ BK214 hb; replace HB := bt_ HB hb; clear hb ho74; obtain ⟨Ao75, co75, eo75⟩ := Kd.R_slice HO217.out; subst eo75) | (go_at_call 24; (with_reducible refine (spec_l01Code.calls k a0 _ _ y215 t218 _ ?side1 ?side2 A5.out).mono ?_); (case side1 => repeat (first | exact (Kd.R_reads' HO217.out).2.2 | (with_reducible refine Kd.C_alloc ?_ _) | (with_reducible refine Kd.C_drewN ?_ _) | (with_reducible refine Kd.C_drew ?_))); (case side2 => exact (Kd.R_reads' HO217.out).2.1); rintro e w76 ⟨rfl, hb⟩; replace HO217 := Aside0.mk (Kd.R_below (ra_ HO217.out) hb); replace BK213 := bb_ BK213 hb; replace BK214 := bb_ BK214 hb; replace HB := bt_ HB hb; (try clear hb); (try clear hb2); (try clear hk); (try clear hi)) | (go_at_call 25; (with_reducible refine (spec_l01In.calls a2 0 6 true _ A7.out).mono ?_); rintro e w' ⟨rfl, ⟨nd, rfl⟩⟩; (try first | exact ⟨rfl, _, World.drewN_drewN _ _ _⟩ | exact ⟨rfl, _, Eq.trans (World.drewN_drewN _ _ _) (congrArg (World.drewN _) (Nat.add_assoc _ _ _))⟩); have hcz77_0 : w76.cell? ⟨gb214, 0, none⟩ = some (.int .i64 0) := cz_ BK214 0; have hcz77_1 : w76.cell? ⟨gb214, 1, none⟩ = some (.int .i64 0) := cz_ BK214 1; have hcz77_2 : w76.cell? ⟨gb214, 2, none⟩ = some (.int .i64 0) := cz_ BK214 2; have hcz77_3 : w76.cell? ⟨gb214, 3, none⟩ = some (.slice none 0 0) := cz_ BK214 3; have hfz77_0 := fz_ BK214 0; have hfz77_1 := fz_ BK214 1; have hfz77_2 := fz_ BK214 2; have hfz77_3 := fz_ BK214 3)); try go_wp2_with (first | ((with_reducible refine gate_dst (N := 5) rfl ?_); (try (refine gate_guard (by rfl) ?_; dsimp only)); refine bx_ 5 #[.int .i64 a1_0, .int .i64 a1_1, .int .i64 a1_2] 25 ?_; intro gb213 hg w69 hbox hb; have BK213 := Aside0.mk (hbox); have GW213 := bs_ HB hg; have GE213 := bs_ HB hg; replace HB := bt_ HB hb; clear hb hbox hg) | ((with_reducible refine gate_dst (N := 8) rfl ?_); (try (refine gate_guard (by rfl) ?_; dsimp only)); refine bx_ 8 #[.int .i64 0, .int .i64 0, .int .i64 0, .slice none 0 0] 28 ?_; intro gb214 hg w70 hbox hb; have BK214 := Aside0.mk (hbox); have GW214 := bs_ HB hg; have GE214 := bs_ HB hg; have NB213_214 := bm_ BK213 hg; have NB214_213 := bn_ BK213 hg; replace BK213 := bb_ BK213 hb; replace HB := bt_ HB hb; clear hb hbox hg; have hnb71 := NB213_214.out; have hnc71 := NB214_213.out; have hcz72_0 : w70.cell? ⟨gb213, 0, none⟩ = some (.int .i64 a1_0) := cz_ BK213 0; have hcz72_1 : w70.cell? ⟨gb213, 1, none⟩ = some (.int .i64 a1_1) := cz_ BK213 1; have hcz72_2 : w70.cell? ⟨gb213, 2, none⟩ = some (.int .i64 a1_2) := cz_ BK213 2; have hfz72_0 := fz_ BK213 0; have hfz72_1 := fz_ BK213 1; have hfz72_2 := fz_ BK213 2) | ((with_reducible refine gate_dst (N := 23) rfl ?_); (try (refine gate_guard (by rfl) ?_; dsimp only)); refine Kd.R_lit k25 _ 25 ?hg (N := 23) ?hd (xs := ([(⟨a1_0, a1_1, a1_2⟩ : S25)] : List (S25))) (inner := [.int .i64 a1_0, .int .i64 a1_1, .int .i64 a1_2]) (ok := fun _ => True) (okp := fun _ => True) ?hr ?hp (fun _ hk => hk) trivial (Below.refl _ _) (Nat.le_refl _) (by simp) ?_; (case hd => rfl); (case hg => rfl); (case hr => first | (go_simp; done) | (go_simp; rfl)); (case hp => exact (Reps.c3 (show Kd.M k25 _ _ _ (⟨a1_0, a1_1, a1_2⟩ : S25) [.int .i64 a1_0, .int .i64 a1_1, .int .i64 a1_2] from (k25_mkM _ _ _ (⟨a1_0, a1_1, a1_2⟩ : S25) )) (Reps.none _ _))); intro v216 w73 ho74 hb hg_ hnew_; clear hg_ hnew_; (first | rw [← Ny215.out] at ho74 | (simp only [Int.reduceToNat] at ho74; rw [← Ny215.out] at ho74)); have HO217 := Aside0.mk (Kd.R_lower (Kd.R_newB ho74 (g := gb213) (o := .cells #[.int .i64 a1_0, .int .i64 a1_1, .int .i64 a1_2] 25 (0, 0)) (bl_ BK213).out) (below_size (bw_ HB).out)); replace BK213 := bb_ BK213 hb; replace BK214 := bb_ BK214 hb; replace HB := bt_ HB hb; clear hb ho74; obtain ⟨Ao75, co75, eo75⟩ := Kd.R_slice HO217.out; subst eo75) | (go_at_call 24; (with_reducible refine (spec_l01Code.calls k a0 _ _ y215 t218 _ ?side1 ?side2 A5.out).mono ?_); (case side1 => repeat (first | exact (Kd.R_reads' HO217.out).2.2 | (with_reducible refine Kd.C_alloc ?_ _) | (with_reducible refine Kd.C_drewN ?_ _) | (with_reducible refine Kd.C_drew ?_))); (case side2 => exact (Kd.R_reads' HO217.out).2.1); rintro e w76 ⟨rfl, hb⟩; replace HO217 := Aside0.mk (Kd.R_below (ra_ HO217.out) hb); replace BK213 := bb_ BK213 hb; replace BK214 := bb_ BK214 hb; replace HB := bt_ HB hb; (try clear hb); (try clear hb2); (try clear hk); (try clear hi)) | (go_at_call 25; (with_reducible refine (spec_l01In.calls a2 0 6 true _ A7.out).mono ?_); rintro e w' ⟨rfl, ⟨nd, rfl⟩⟩; (try first | exact ⟨rfl, _, World.drewN_drewN _ _ _⟩ | exact ⟨rfl, _, Eq.trans (World.drewN_drewN _ _ _) (congrArg (World.drewN _) (Nat.add_assoc _ _ _))⟩); have hcz77_0 : w76.cell? ⟨gb214, 0, none⟩ = some (.int .i64 0) := cz_ BK214 0; have hcz77_1 : w76.cell? ⟨gb214, 1, none⟩ = some (.int .i64 0) := cz_ BK214 1; have hcz77_2 : w76.cell? ⟨gb214, 2, none⟩ = some (.int .i64 0) := cz_ BK214 2; have hcz77_3 : w76.cell? ⟨gb214, 3, none⟩ = some (.slice none 0 0) := cz_ BK214 3; have hfz77_0 := fz_ BK214 0; have hfz77_1 := fz_ BK214 1; have hfz77_2 := fz_ BK214 2; have hfz77_3 := fz_ BK214 3)))
    refine bodyPost_ret (results_ct rfl _ _ gb214 28 #[.int .i64 0, .int .i64 0, .int .i64 0, .slice none 0 0] (0, 0) _ rfl (by (with_reducible repeat first | apply blk_drewN | apply blk_drew | apply blk_alloc); refine blk_put (cs := #[.int .i64 0, .int .i64 0, .int .i64 0, .slice none 0 0]) ?_ 3 _ rfl; (with_reducible repeat first | apply blk_drewN | apply blk_drew | apply blk_alloc); refine blk_put (cs := #[.int .i64 0, .int .i64 0, .int .i64 0, .slice none 0 0]) ?_ 2 _ rfl; (with_reducible repeat first | apply blk_drewN | apply blk_drew | apply blk_alloc); refine blk_put (cs := #[.int .i64 0, .int .i64 0, .int .i64 0, .slice none 0 0]) ?_ 1 _ rfl; (with_reducible repeat first | apply blk_drewN | apply blk_drew | apply blk_alloc); refine blk_put (cs := #[.int .i64 0, .int .i64 0, .int .i64 0, .slice none 0 0]) ?_ 0 _ rfl; (with_reducible repeat first | apply blk_drewN | apply blk_drew | apply blk_alloc); exact BK214.out) Try.underlying28 rfl (by kernel_rfl)) rfl ?_
    exact ⟨_, by first | rfl | (simp [errW_none, errW_some] <;> rfl) | (simp [*, errW_none, errW_some] <;> rfl), by first | exact Kd.R_nil _ _ _ _ _ | exact Kd.N_nil _ _ _ _ _ | exact Kd.V_nil _ _ _ _ _ | exact Kd.Q_nil _ _ _ _ _ | exact Kd.S_nil _ _ _ _ _, by repeat (first | (with_reducible first | exact HB.out | apply below_alloc | apply pw_below_drewN | apply below_drew1 | refine below_set ?_ GE213.out | refine below_set ?_ GE214.out) | exact HB.out)⟩
  ·replace c8 := Bool.eq_false_iff.mpr c8
   subst c8
   have H1 : (some (0, 0, 0, ([] : List (S52)), 2)) = some (r1, r2, r3, r4, r5) := by rw [if_neg (show ¬ (false = true) by decide)] at H; exact H
   clear H
   have H := H1
   clear H1
   simp only [Option.some.injEq, Prod.mk.injEq] at H
   obtain ⟨rfl, rfl, rfl, rfl, rfl⟩ := H
   go_enter Try.func7, Try.ntmps7
   go_wp2_with (first | ((with_reducible refine gate_dst (N := 5) rfl ?_); (try (refine gate_guard (by rfl) ?_; dsimp only)); refine bx_ 5 #[.int .i64 a1_0, .int .i64 a1_1, .int .i64 a1_2] 25 ?_; intro gb213 hg w78 hbox hb; have BK213 := Aside0.mk (hbox); have GW213 := bs_ HB hg; have GE213 := bs_ HB hg; replace HB := bt_ HB hb; clear hb hbox hg) | ((with_reducible refine gate_dst (N := 8) rfl ?_); (try (refine gate_guard (by rfl) ?_; dsimp only)); refine bx_ 8 #[.int .i64 0, .int .i64 0, .int .i64 0, .slice none 0 0] 28 ?_; intro gb214 hg w79 hbox hb; have BK214 := Aside0.mk (hbox); have GW214 := bs_ HB hg; have GE214 := bs_ HB hg; have NB213_214 := bm_ BK213 hg; have NB214_213 := bn_ BK213 hg; replace BK213 := bb_ BK213 hb; replace HB := bt_ HB hb; clear hb hbox hg; have hnb80 := NB213_214.out; have hnc80 := NB214_213.out; have hcz81_0 : w79.cell? ⟨gb213, 0, none⟩ = some (.int .i64 a1_0) := cz_ BK213 0; have hcz81_1 : w79.cell? ⟨gb213, 1, none⟩ = some (.int .i64 a1_1) := cz_ BK213 1; have hcz81_2 : w79.cell? ⟨gb213, 2, none⟩ = some (.int .i64 a1_2) := cz_ BK213 2; have hfz81_0 := fz_ BK213 0; have hfz81_1 := fz_ BK213 1; have hfz81_2 := fz_ BK213 2) | ((with_reducible refine gate_dst (N := 23) rfl ?_); (try (refine gate_guard (by rfl) ?_; dsimp only)); refine Kd.R_lit k25 _ 25 ?hg (N := 23) ?hd (xs := ([(⟨a1_0, a1_1, a1_2⟩ : S25)] : List (S25))) (inner := [.int .i64 a1_0, .int .i64 a1_1, .int .i64 a1_2]) (ok := fun _ => True) (okp := fun _ => True) ?hr ?hp (fun _ hk => hk) trivial (Below.refl _ _) (Nat.le_refl _) (by simp) ?_; (case hd => rfl); (case hg => rfl); (case hr => first | (go_simp; done) | (go_simp; rfl)); (case hp => exact (Reps.c3 (show Kd.M k25 _ _ _ (⟨a1_0, a1_1, a1_2⟩ : S25) [.int .i64 a1_0, .int .i64 a1_1, .int .i64 a1_2] from (k25_mkM _ _ _ (⟨a1_0, a1_1, a1_2⟩ : S25) )) (Reps.none _ _))); intro v216 w82 ho83 hb hg_ hnew_; clear hg_ hnew_; (first | rw [← Ny215.out] at ho83 | (simp only [Int.reduceToNat] at ho83; rw [← Ny215.out] at ho83)); have HO217 := Aside0.mk (Kd.R_lower (Kd.R_newB ho83 (g := gb213) (o := .cells #[.int .i64 a1_0, .int .i64 a1_1, .int .i64 a1_2] 25 (0, 0)) (bl_ BK213).out) (below_size (bw_ HB).out)); replace BK213 := bb_ BK213 hb; replace BK214 := bb_ BK214 hb; replace HB := bt_ HB hb; clear hb ho83; obtain ⟨Ao84, co84, eo84⟩ := Kd.R_slice HO217.out; subst eo84) | (go_at_call 24; (with_reducible refine (spec_l01Code.calls k a0 _ _ y215 t218 _ ?side1 ?side2 A5.out).mono ?_); (case side1 => repeat (first | exact (Kd.R_reads' HO217.out).2.2 | (with_reducible refine Kd.C_alloc ?_ _) | (with_reducible refine Kd.C_drewN ?_ _) | (with_reducible refine Kd.C_drew ?_))); (case side2 => exact (Kd.R_reads' HO217.out).2.1); rintro e w85 ⟨rfl, hb⟩; replace HO217 := Aside0.mk (Kd.R_below (ra_ HO217.out) hb); replace BK213 := bb_ BK213 hb; replace BK214 := bb_ BK214 hb; replace HB := bt_ HB hb; (try clear hb); (try clear hb2); (try clear hk); (try clear hi)) | (go_at_call 25; (with_reducible refine (spec_l01In.calls a2 0 6 false _ A7.out).mono ?_); rintro e w' ⟨rfl, ⟨nd, rfl⟩⟩; (try first | exact ⟨rfl, _, World.drewN_drewN _ _ _⟩ | exact ⟨rfl, _, Eq.trans (World.drewN_drewN _ _ _) (congrArg (World.drewN _) (Nat.add_assoc _ _ _))⟩); have hcz86_0 : w85.cell? ⟨gb214, 0, none⟩ = some (.int .i64 0) := cz_ BK214 0; have hcz86_1 : w85.cell? ⟨gb214, 1, none⟩ = some (.int .i64 0) := cz_ BK214 1; have hcz86_2 : w85.cell? ⟨gb214, 2, none⟩ = some (.int .i64 0) := cz_ BK214 2; have hcz86_3 : w85.cell? ⟨gb214, 3, none⟩ = some (.slice none 0 0) := cz_ BK214 3; have hfz86_0 := fz_ BK214 0; have hfz86_1 := fz_ BK214 1; have hfz86_2 := fz_ BK214 2; have hfz86_3 := fz_ BK214 3))
   repeat (go_quiet (first | ((with_reducible refine gate_dst (N := 5) rfl ?_); (try (refine gate_guard (by rfl) ?_; dsimp only)); refine bx_ 5 #[.int .i64 a1_0, .int .i64 a1_1, .int .i64 a1_2] 25 ?_; intro gb213 hg w78 hbox hb; have BK213 := Aside0.mk (hbox); have GW213 := bs_ HB hg; have GE213 := bs_ HB hg; replace HB := bt_ HB hb; clear hb hbox hg) | ((with_reducible refine gate_dst (N := 8) rfl ?_); (try (refine gate_guard (by rfl) ?_; dsimp only)); refine bx_ 8 #[.int .i64 0, .int .i64 0, .int .i64 0, .slice none 0 0] 28 ?_; intro gb214 hg w79 hbox hb; have BK214 := Aside0.mk (hbox); have GW214 := bs_ HB hg; have GE214 := bs_ HB hg; have NB213_214 := bm_ BK213 hg; have NB214_213 := bn_ BK213 hg; replace BK213 := bb_ BK213 hb; replace HB := bt_ HB hb; clear hb hbox hg; have hnb80 := NB213_214.out; have hnc80 := NB214_213.out; have hcz81_0 : w79.cell? ⟨gb213, 0, none⟩ = some (.int .i64 a1_0) := cz_ BK213 0; have hcz81_1 : w79.cell? ⟨gb213, 1, none⟩ = some (.int .i64 a1_1) := cz_ BK213 1; have hcz81_2 : w79.cell? ⟨gb213, 2, none⟩ = some (.int .i64 a1_2) := cz_ BK213 2; have hfz81_0 := fz_ BK213 0; have hfz81_1 := fz_ BK213 1; have hfz81_2 := fz_ BK213 2) | ((with_reducible refine gate_dst (N := 23) rfl ?_); (try (refine gate_guard (by rfl) ?_; dsimp only)); refine Kd.R_lit k25 _ 25 ?hg (N := 23) ?hd (xs := ([(⟨a1_0, a1_1, a1_2⟩ : S25)] : List (S25))) (inner := [.int .i64 a1_0, .int .i64 a1_1, .int .i64 a1_2]) (ok := fun _ => True) (okp := fun _ => True) ?hr ?hp (fun _ hk => hk) trivial (Below.refl _ _) (Nat.le_refl _) (by simp) ?_; (case hd => rfl); (case hg => rfl); (case hr => first | (go_simp; done) | (go_simp; rfl)); (case hp => exact (Reps.c3 (show Kd.M k25 _ _ _ (⟨a1_0, a1_1, a1_2⟩ : S25) [.int .i64 a1_0, .int .i64 a1_1, .int .i64 a1_2] from (k25_mkM _ _ _ (⟨a1_0, a1_1, a1_2⟩ : S25) )) (Reps.none _ _))); intro v216 w82 ho83 hb hg_ hnew_; clear hg_ hnew_; (first | rw [← Ny215.out] at ho83 | (simp only [Int.reduceToNat] at ho83; rw [← Ny215.out] at ho83)); have HO217 := Aside0.mk (Kd.R_lower (Kd.R_newB ho83 (g := gb213) (o := .cells #[.int .i64 a1_0, .int .i64 a1_1, .int .i64 a1_2] 25 (0, 0)) (bl_ BK213).out) (below_size (bw_ HB).out)); replace BK213 := bb_ BK213 hb; replace BK214 := bb_ BK214 hb; replace HB := bt_ HB hb; clear hb ho83; obtain ⟨Ao84, co84, eo84⟩ := Kd.R_slice HO217.out; subst eo84) | (go_at_call 24; (with_reducible refine (spec_l01Code.calls k a0 _ _ y215 t218 _ ?side1 ?side2 A5.out).mono ?_); (case side1 => repeat (first | exact (Kd.R_reads' HO217.out).2.2 | (with_reducible refine Kd.C_alloc ?_ _) | (with_reducible refine Kd.C_drewN ?_ _) | (with_reducible refine Kd.C_drew ?_))); (case side2 => exact (Kd.R_reads' HO217.out).2.1); rintro e w85 ⟨rfl, hb⟩; replace HO217 := Aside0.mk (Kd.R_below (ra_ HO217.out) hb); replace BK213 := bb_ BK213 hb; replace BK214 := bb_ BK214 hb; replace HB := bt_ HB hb; (try clear hb); (try clear hb2); (try clear hk); (try clear hi)) | (go_at_call 25; (with_reducible refine (spec_l01In.calls a2 0 6 false _ A7.out).mono ?_); rintro e w' ⟨rfl, ⟨nd, rfl⟩⟩; (try first | exact ⟨rfl, _, World.drewN_drewN _ _ _⟩ | exact ⟨rfl, _, Eq.trans (World.drewN_drewN _ _ _) (congrArg (World.drewN _) (Nat.add_assoc _ _ _))⟩); have hcz86_0 : w85.cell? ⟨gb214, 0, none⟩ = some (.int .i64 0) := cz_ BK214 0; have hcz86_1 : w85.cell? ⟨gb214, 1, none⟩ = some (.int .i64 0) := cz_ BK214 1; have hcz86_2 : w85.cell? ⟨gb214, 2, none⟩ = some (.int .i64 0) := cz_ BK214 2; have hcz86_3 : w85.cell? ⟨gb214, 3, none⟩ = some (.slice none 0 0) := cz_ BK214 3; have hfz86_0 := fz_ BK214 0; have hfz86_1 := fz_ BK214 1; have hfz86_2 := fz_ BK214 2; have hfz86_3 := fz_ BK214 3)); try go_wp2_with (first | ((with_reducible refine gate_dst (N := 5) rfl ?_); (try (refine gate_guard (by rfl) ?_; dsimp only)); refine bx_ 5 #[.int .i64 a1_0, .int .i64 a1_1, .int .i64 a1_2] 25 ?_; intro gb213 hg w78 hbox hb; have BK213 := Aside0.mk (hbox); have GW213 := bs_ HB hg; have GE213 := bs_ HB hg; replace HB := bt_ HB hb; clear hb hbox hg) | ((with_reducible refine gate_dst (N := 8) rfl ?_); (try (refine gate_guard (by rfl) ?_; dsimp only)); refine bx_ 8 #[.int .i64 0, .int .i64 0, .int .i64 0, .slice none 0 0] 28 ?_; intro gb214 hg w79 hbox hb; have BK214 := Aside0.mk (hbox); have GW214 := bs_ HB hg; have GE214 := bs_ HB hg; have NB213_214 := bm_ BK213 hg; have NB214_213 := bn_ BK213 hg; replace BK213 := bb_ BK213 hb; replace HB := bt_ HB hb; clear hb hbox hg; have hnb80 := NB213_214.out; have hnc80 := NB214_213.out; have hcz81_0 : w79.cell? ⟨gb213, 0, none⟩ = some (.int .i64 a1_0) := cz_ BK213 0; have hcz81_1 : w79.cell? ⟨gb213, 1, none⟩ = some (.int .i64 a1_1) := cz_ BK213 1; have hcz81_2 : w79.cell? ⟨gb213, 2, none⟩ = some (.int .i64 a1_2) := cz_ BK213 2; have hfz81_0 := fz_ BK213 0; have hfz81_1 := fz_ BK213 1; have hfz81_2 := fz_ BK213 2) | ((with_reducible refine gate_dst (N := 23) rfl ?_); (try (refine gate_guard (by rfl) ?_; dsimp only)); refine Kd.R_lit k25 _ 25 ?hg (N := 23) ?hd (xs := ([(⟨a1_0, a1_1, a1_2⟩ : S25)] : List (S25))) (inner := [.int .i64 a1_0, .int .i64 a1_1, .int .i64 a1_2]) (ok := fun _ => True) (okp := fun _ => True) ?hr ?hp (fun _ hk => hk) trivial (Below.refl _ _) (Nat.le_refl _) (by simp) ?_; (case hd => rfl); (case hg => rfl); (case hr => first | (go_simp; done) | (go_simp; rfl)); (case hp => exact (Reps.c3 (show Kd.M k25 _ _ _ (⟨a1_0, a1_1, a1_2⟩ : S25) [.int .i64 a1_0, .int .i64 a1_1, .int .i64 a1_2] from (k25_mkM _ _ _ (⟨a1_0, a1_1, a1_2⟩ : S25) )) (Reps.none _ _))); intro v216 w82 ho83 hb hg_ hnew_; clear hg_ hnew_; (first | rw [← Ny215.out] at ho83 | (simp only [Int.reduceToNat] at ho83; rw [← Ny215.out] at ho83)); have HO217 := Aside0.mk (Kd.R_lower (Kd.R_newB ho83 (g := gb213) (o := .cells #[.int .i64 a1_0, .int .i64 a1_1, .int .i64 a1_2] 25 (0, 0)) (bl_ BK213).out) (below_size (bw_ HB).out)); replace BK213 := bb_ BK213 hb; replace BK214 := bb_ BK214 hb; replace HB := bt_ HB hb; clear hb ho83; obtain ⟨Ao84, co84, eo84⟩ := Kd.R_slice HO217.out; subst eo84) | (go_at_call 24; (with_reducible refine (spec_l01Code.calls k a0 _ _ y215 t218 _ ?side1 ?side2 A5.out).mono ?_); (case side1 => repeat (first | exact (Kd.R_reads' HO217.out).2.2 | (with_reducible refine Kd.C_alloc ?_ _) | (with_reducible refine Kd.C_drewN ?_ _) | (with_reducible refine Kd.C_drew ?_))); (case side2 => exact (Kd.R_reads' HO217.out).2.1); rintro e w85 ⟨rfl, hb⟩; replace HO217 := Aside0.mk (Kd.R_below (ra_ HO217.out) hb); replace BK213 := bb_ BK213 hb; replace BK214 := bb_ BK214 hb; replace HB := bt_ HB hb; (try clear hb); (try clear hb2); (try clear hk); (try clear hi)) | (go_at_call 25; (with_reducible refine (spec_l01In.calls a2 0 6 false _ A7.out).mono ?_); rintro e w' ⟨rfl, ⟨nd, rfl⟩⟩; (try first | exact ⟨rfl, _, World.drewN_drewN _ _ _⟩ | exact ⟨rfl, _, Eq.trans (World.drewN_drewN _ _ _) (congrArg (World.drewN _) (Nat.add_assoc _ _ _))⟩); have hcz86_0 : w85.cell? ⟨gb214, 0, none⟩ = some (.int .i64 0) := cz_ BK214 0; have hcz86_1 : w85.cell? ⟨gb214, 1, none⟩ = some (.int .i64 0) := cz_ BK214 1; have hcz86_2 : w85.cell? ⟨gb214, 2, none⟩ = some (.int .i64 0) := cz_ BK214 2; have hcz86_3 : w85.cell? ⟨gb214, 3, none⟩ = some (.slice none 0 0) := cz_ BK214 3; have hfz86_0 := fz_ BK214 0; have hfz86_1 := fz_ BK214 1; have hfz86_2 := fz_ BK214 2; have hfz86_3 := fz_ BK214 3)))
   refine bodyPost_ret (results_ct rfl _ _ gb214 28 #[.int .i64 0, .int .i64 0, .int .i64 0, .slice none 0 0] (0, 0) _ rfl (by (with_reducible repeat first | apply blk_drewN | apply blk_drew | apply blk_alloc); refine blk_put (cs := #[.int .i64 0, .int .i64 0, .int .i64 0, .slice none 0 0]) ?_ 3 _ rfl; (with_reducible repeat first | apply blk_drewN | apply blk_drew | apply blk_alloc); refine blk_put (cs := #[.int .i64 0, .int .i64 0, .int .i64 0, .slice none 0 0]) ?_ 2 _ rfl; (with_reducible repeat first | apply blk_drewN | apply blk_drew | apply blk_alloc); refine blk_put (cs := #[.int .i64 0, .int .i64 0, .int .i64 0, .slice none 0 0]) ?_ 1 _ rfl; (with_reducible repeat first | apply blk_drewN | apply blk_drew | apply blk_alloc); refine blk_put (cs := #[.int .i64 0, .int .i64 0, .int .i64 0, .slice none 0 0]) ?_ 0 _ rfl; (with_reducible repeat first | apply blk_drewN | apply blk_drew | apply blk_alloc); exact BK214.out) Try.underlying28 rfl (by kernel_rfl)) rfl ?_
   exact ⟨_, by first | rfl | (simp [errW_none, errW_some] <;> rfl) | (simp [*, errW_none, errW_some] <;> rfl), by first | exact Kd.R_nil _ _ _ _ _ | exact Kd.N_nil _ _ _ _ _ | exact Kd.V_nil _ _ _ _ _ | exact Kd.Q_nil _ _ _ _ _ | exact Kd.S_nil _ _ _ _ _, by repeat (first | (with_reducible first | exact HB.out | apply below_alloc | apply pw_below_drewN | apply below_drew1 | refine below_set ?_ GE213.out | refine below_set ?_ GE214.out) | exact HB.out)⟩
 ·rw [if_neg c6] at H
  have c6b0 : (t218 == 0) = false := beq_eq_false_iff_ne.mpr c6
  have c6b1 : (t218 != 0) = true := bne_iff_ne.mpr c6
  simp only [Option.some.injEq, Prod.mk.injEq] at H
  obtain ⟨rfl, rfl, rfl, rfl, rfl⟩ := H
  go_enter Try.func7, Try.ntmps7
  go_wp2_with (first | ((with_reducible refine gate_dst (N := 5) rfl ?_); (try (refine gate_guard (by rfl) ?_; dsimp only)); refine bx_ 5 #[.int .i64 a1_0, .int .i64 a1_1, .int .i64 a1_2] 25 ?_; intro gb213 hg w87 hbox hb; have BK213 := Aside0.mk (hbox); have GW213 := bs_ HB hg; have GE213 := bs_ HB hg; replace HB := bt_ HB hb; clear hb hbox hg) | ((with_reducible refine gate_dst (N := 8) rfl ?_); (try (refine gate_guard (by rfl) ?_; dsimp only)); refine bx_ 8 #[.int .i64 0, .int .i64 0, .int .i64 0, .slice none 0 0] 28 ?_; intro gb214 hg w88 hbox hb; have BK214 := Aside0.mk (hbox); have GW214 := bs_ HB hg; have GE214 := bs_ HB hg; have NB213_214 := bm_ BK213 hg; have NB214_213 := bn_ BK213 hg; replace BK213 := bb_ BK213 hb; replace HB := bt_ HB hb; clear hb hbox hg; have hnb89 := NB213_214.out; have hnc89 := NB214_213.out; have hcz90_0 : w88.cell? ⟨gb213, 0, none⟩ = some (.int .i64 a1_0) := cz_ BK213 0; have hcz90_1 : w88.cell? ⟨gb213, 1, none⟩ = some (.int .i64 a1_1) := cz_ BK213 1; have hcz90_2 : w88.cell? ⟨gb213, 2, none⟩ = some (.int .i64 a1_2) := cz_ BK213 2; have hfz90_0 := fz_ BK213 0; have hfz90_1 := fz_ BK213 1; have hfz90_2 := fz_ BK213 2) | ((with_reducible refine gate_dst (N := 23) rfl ?_); (try (refine gate_guard (by rfl) ?_; dsimp only)); refine Kd.R_lit k25 _ 25 ?hg (N := 23) ?hd (xs := ([(⟨a1_0, a1_1, a1_2⟩ : S25)] : List (S25))) (inner := [.int .i64 a1_0, .int .i64 a1_1, .int .i64 a1_2]) (ok := fun _ => True) (okp := fun _ => True) ?hr ?hp (fun _ hk => hk) trivial (Below.refl _ _) (Nat.le_refl _) (by simp) ?_; (case hd => rfl); (case hg => rfl); (case hr => first | (go_simp; done) | (go_simp; rfl)); (case hp => exact (Reps.c3 (show Kd.M k25 _ _ _ (⟨a1_0, a1_1, a1_2⟩ : S25) [.int .i64 a1_0, .int .i64 a1_1, .int .i64 a1_2] from (k25_mkM _ _ _ (⟨a1_0, a1_1, a1_2⟩ : S25) )) (Reps.none _ _))); intro v216 w91 ho92 hb hg_ hnew_; clear hg_ hnew_; (first | rw [← Ny215.out] at ho92 | (simp only [Int.reduceToNat] at ho92; rw [← Ny215.out] at ho92)); have HO217 := Aside0.mk (Kd.R_lower (Kd.R_newB ho92 (g := gb213) (o := .cells #[.int .i64 a1_0, .int .i64 a1_1, .int .i64 a1_2] 25 (0, 0)) (bl_ BK213).out) (below_size (bw_ HB).out)); replace BK213 := bb_ BK213 hb; replace BK214 := bb_ BK214 hb; replace HB := bt_ HB hb; clear hb ho92; obtain ⟨Ao93, co93, eo93⟩ := Kd.R_slice HO217.out; subst eo93) | (go_at_call 24; (with_reducible refine (spec_l01Code.calls k a0 _ _ y215 t218 _ ?side1 ?side2 A5.out).mono ?_); (case side1 => repeat (first | exact (Kd.R_reads' HO217.out).2.2 | (with_reducible refine Kd.C_alloc ?_ _) | (with_reducible refine Kd.C_drewN ?_ _) | (with_reducible refine Kd.C_drew ?_))); (case side2 => exact (Kd.R_reads' HO217.out).2.1); rintro e w94 ⟨rfl, hb⟩; replace HO217 := Aside0.mk (Kd.R_below (ra_ HO217.out) hb); replace BK213 := bb_ BK213 hb; replace BK214 := bb_ BK214 hb; replace HB := bt_ HB hb; (try clear hb); (try clear hb2); (try clear hk); (try clear hi); have hcz95_0 : w94.cell? ⟨gb214, 0, none⟩ = some (.int .i64 0) := cz_ BK214 0; have hcz95_1 : w94.cell? ⟨gb214, 1, none⟩ = some (.int .i64 0) := cz_ BK214 1; have hcz95_2 : w94.cell? ⟨gb214, 2, none⟩ = some (.int .i64 0) := cz_ BK214 2; have hcz95_3 : w94.cell? ⟨gb214, 3, none⟩ = some (.slice none 0 0) := cz_ BK214 3; have hfz95_0 := fz_ BK214 0; have hfz95_1 := fz_ BK214 1; have hfz95_2 := fz_ BK214 2; have hfz95_3 := fz_ BK214 3))
  repeat (go_quiet (first | ((with_reducible refine gate_dst (N := 5) rfl ?_); (try (refine gate_guard (by rfl) ?_; dsimp only)); refine bx_ 5 #[.int .i64 a1_0, .int .i64 a1_1, .int .i64 a1_2] 25 ?_; intro gb213 hg w87 hbox hb; have BK213 := Aside0.mk (hbox); have GW213 := bs_ HB hg; have GE213 := bs_ HB hg; replace HB := bt_ HB hb; clear hb hbox hg) | ((with_reducible refine gate_dst (N := 8) rfl ?_); (try (refine gate_guard (by rfl) ?_; dsimp only)); refine bx_ 8 #[.int .i64 0, .int .i64 0, .int .i64 0, .slice none 0 0] 28 ?_; intro gb214 hg w88 hbox hb; have BK214 := Aside0.mk (hbox); have GW214 := bs_ HB hg; have GE214 := bs_ HB hg; have NB213_214 := bm_ BK213 hg; have NB214_213 := bn_ BK213 hg; replace BK213 := bb_ BK213 hb; replace HB := bt_ HB hb; clear hb hbox hg; have hnb89 := NB213_214.out; have hnc89 := NB214_213.out; have hcz90_0 : w88.cell? ⟨gb213, 0, none⟩ = some (.int .i64 a1_0) := cz_ BK213 0; have hcz90_1 : w88.cell? ⟨gb213, 1, none⟩ = some (.int .i64 a1_1) := cz_ BK213 1; have hcz90_2 : w88.cell? ⟨gb213, 2, none⟩ = some (.int .i64 a1_2) := cz_ BK213 2; have hfz90_0 := fz_ BK213 0; have hfz90_1 := fz_ BK213 1; have hfz90_2 := fz_ BK213 2) | ((with_reducible refine gate_dst (N := 23) rfl ?_); (try (refine gate_guard (by rfl) ?_; dsimp only)); refine Kd.R_lit k25 _ 25 ?hg (N := 23) ?hd (xs := ([(⟨a1_0, a1_1, a1_2⟩ : S25)] : List (S25))) (inner := [.int .i64 a1_0, .int .i64 a1_1, .int .i64 a1_2]) (ok := fun _ => True) (okp := fun _ => True) ?hr ?hp (fun _ hk => hk) trivial (Below.refl _ _) (Nat.le_refl _) (by simp) ?_; (case hd => rfl); (case hg => rfl); (case hr => first | (go_simp; done) | (go_simp; rfl)); (case hp => exact (Reps.c3 (show Kd.M k25 _ _ _ (⟨a1_0, a1_1, a1_2⟩ : S25) [.int .i64 a1_0, .int .i64 a1_1, .int .i64 a1_2] from (k25_mkM _ _ _ (⟨a1_0, a1_1, a1_2⟩ : S25) )) (Reps.none _ _))); intro v216 w91 ho92 hb hg_ hnew_; clear hg_ hnew_; (first | rw [← Ny215.out] at ho92 | (simp only [Int.reduceToNat] at ho92; rw [← Ny215.out] at ho92)); have HO217 := Aside0.mk (Kd.R_lower (Kd.R_newB ho92 (g := gb213) (o := .cells #[.int .i64 a1_0, .int .i64 a1_1, .int .i64 a1_2] 25 (0, 0)) (bl_ BK213).out) (below_size (bw_ HB).out)); replace BK213 := bb_ BK213 hb; replace BK214 := bb_ BK214 hb; replace HB := bt_ HB hb; clear hb ho92; obtain ⟨Ao93, co93, eo93⟩ := Kd.R_slice HO217.out; subst eo93) | (go_at_call 24; (with_reducible refine (spec_l01Code.calls k a0 _ _ y215 t218 _ ?side1 ?side2 A5.out).mono ?_); (case side1 => repeat (first | exact (Kd.R_reads' HO217.out).2.2 | (with_reducible refine Kd.C_alloc ?_ _) | (with_reducible refine Kd.C_drewN ?_ _) | (with_reducible refine Kd.C_drew ?_))); (case side2 => exact (Kd.R_reads' HO217.out).2.1); rintro e w94 ⟨rfl, hb⟩; replace HO217 := Aside0.mk (Kd.R_below (ra_ HO217.out) hb); replace BK213 := bb_ BK213 hb; replace BK214 := bb_ BK214 hb; replace HB := bt_ HB hb; (try clear hb); (try clear hb2); (try clear hk); (try clear hi); have hcz95_0 : w94.cell? ⟨gb214, 0, none⟩ = some (.int .i64 0) := cz_ BK214 0; have hcz95_1 : w94.cell? ⟨gb214, 1, none⟩ = some (.int .i64 0) := cz_ BK214 1; have hcz95_2 : w94.cell? ⟨gb214, 2, none⟩ = some (.int .i64 0) := cz_ BK214 2; have hcz95_3 : w94.cell? ⟨gb214, 3, none⟩ = some (.slice none 0 0) := cz_ BK214 3; have hfz95_0 := fz_ BK214 0; have hfz95_1 := fz_ BK214 1; have hfz95_2 := fz_ BK214 2; have hfz95_3 := fz_ BK214 3)); try go_wp2_with (first | ((with_reducible refine gate_dst (N := 5) rfl ?_); (try (refine gate_guard (by rfl) ?_; dsimp only)); refine bx_ 5 #[.int .i64 a1_0, .int .i64 a1_1, .int .i64 a1_2] 25 ?_; intro gb213 hg w87 hbox hb; have BK213 := Aside0.mk (hbox); have GW213 := bs_ HB hg; have GE213 := bs_ HB hg; replace HB := bt_ HB hb; clear hb hbox hg) | ((with_reducible refine gate_dst (N := 8) rfl ?_); (try (refine gate_guard (by rfl) ?_; dsimp only)); refine bx_ 8 #[.int .i64 0, .int .i64 0, .int .i64 0, .slice none 0 0] 28 ?_; intro gb214 hg w88 hbox hb; have BK214 := Aside0.mk (hbox); have GW214 := bs_ HB hg; have GE214 := bs_ HB hg; have NB213_214 := bm_ BK213 hg; have NB214_213 := bn_ BK213 hg; replace BK213 := bb_ BK213 hb; replace HB := bt_ HB hb; clear hb hbox hg; have hnb89 := NB213_214.out; have hnc89 := NB214_213.out; have hcz90_0 : w88.cell? ⟨gb213, 0, none⟩ = some (.int .i64 a1_0) := cz_ BK213 0; have hcz90_1 : w88.cell? ⟨gb213, 1, none⟩ = some (.int .i64 a1_1) := cz_ BK213 1; have hcz90_2 : w88.cell? ⟨gb213, 2, none⟩ = some (.int .i64 a1_2) := cz_ BK213 2; have hfz90_0 := fz_ BK213 0; have hfz90_1 := fz_ BK213 1; have hfz90_2 := fz_ BK213 2) | ((with_reducible refine gate_dst (N := 23) rfl ?_); (try (refine gate_guard (by rfl) ?_; dsimp only)); refine Kd.R_lit k25 _ 25 ?hg (N := 23) ?hd (xs := ([(⟨a1_0, a1_1, a1_2⟩ : S25)] : List (S25))) (inner := [.int .i64 a1_0, .int .i64 a1_1, .int .i64 a1_2]) (ok := fun _ => True) (okp := fun _ => True) ?hr ?hp (fun _ hk => hk) trivial (Below.refl _ _) (Nat.le_refl _) (by simp) ?_; (case hd => rfl); (case hg => rfl); (case hr => first | (go_simp; done) | (go_simp; rfl)); (case hp => exact (Reps.c3 (show Kd.M k25 _ _ _ (⟨a1_0, a1_1, a1_2⟩ : S25) [.int .i64 a1_0, .int .i64 a1_1, .int .i64 a1_2] from (k25_mkM _ _ _ (⟨a1_0, a1_1, a1_2⟩ : S25) )) (Reps.none _ _))); intro v216 w91 ho92 hb hg_ hnew_; clear hg_ hnew_; (first | rw [← Ny215.out] at ho92 | (simp only [Int.reduceToNat] at ho92; rw [← Ny215.out] at ho92)); have HO217 := Aside0.mk (Kd.R_lower (Kd.R_newB ho92 (g := gb213) (o := .cells #[.int .i64 a1_0, .int .i64 a1_1, .int .i64 a1_2] 25 (0, 0)) (bl_ BK213).out) (below_size (bw_ HB).out)); replace BK213 := bb_ BK213 hb; replace BK214 := bb_ BK214 hb; replace HB := bt_ HB hb; clear hb ho92; obtain ⟨Ao93, co93, eo93⟩ := Kd.R_slice HO217.out; subst eo93) | (go_at_call 24; (with_reducible refine (spec_l01Code.calls k a0 _ _ y215 t218 _ ?side1 ?side2 A5.out).mono ?_); (case side1 => repeat (first | exact (Kd.R_reads' HO217.out).2.2 | (with_reducible refine Kd.C_alloc ?_ _) | (with_reducible refine Kd.C_drewN ?_ _) | (with_reducible refine Kd.C_drew ?_))); (case side2 => exact (Kd.R_reads' HO217.out).2.1); rintro e w94 ⟨rfl, hb⟩; replace HO217 := Aside0.mk (Kd.R_below (ra_ HO217.out) hb); replace BK213 := bb_ BK213 hb; replace BK214 := bb_ BK214 hb; replace HB := bt_ HB hb; (try clear hb); (try clear hb2); (try clear hk); (try clear hi); have hcz95_0 : w94.cell? ⟨gb214, 0, none⟩ = some (.int .i64 0) := cz_ BK214 0; have hcz95_1 : w94.cell? ⟨gb214, 1, none⟩ = some (.int .i64 0) := cz_ BK214 1; have hcz95_2 : w94.cell? ⟨gb214, 2, none⟩ = some (.int .i64 0) := cz_ BK214 2; have hcz95_3 : w94.cell? ⟨gb214, 3, none⟩ = some (.slice none 0 0) := cz_ BK214 3; have hfz95_0 := fz_ BK214 0; have hfz95_1 := fz_ BK214 1; have hfz95_2 := fz_ BK214 2; have hfz95_3 := fz_ BK214 3)))
  refine bodyPost_ret (results_ct rfl _ _ gb214 28 #[.int .i64 0, .int .i64 0, .int .i64 0, .slice none 0 0] (0, 0) _ rfl (by (with_reducible repeat first | apply blk_drewN | apply blk_drew | apply blk_alloc); refine blk_put (cs := #[.int .i64 0, .int .i64 0, .int .i64 0, .slice none 0 0]) ?_ 3 _ rfl; (with_reducible repeat first | apply blk_drewN | apply blk_drew | apply blk_alloc); refine blk_put (cs := #[.int .i64 0, .int .i64 0, .int .i64 0, .slice none 0 0]) ?_ 2 _ rfl; (with_reducible repeat first | apply blk_drewN | apply blk_drew | apply blk_alloc); refine blk_put (cs := #[.int .i64 0, .int .i64 0, .int .i64 0, .slice none 0 0]) ?_ 1 _ rfl; (with_reducible repeat first | apply blk_drewN | apply blk_drew | apply blk_alloc); refine blk_put (cs := #[.int .i64 0, .int .i64 0, .int .i64 0, .slice none 0 0]) ?_ 0 _ rfl; (with_reducible repeat first | apply blk_drewN | apply blk_drew | apply blk_alloc); exact BK214.out) Try.underlying28 rfl (by kernel_rfl)) rfl ?_
  exact ⟨_, by first | rfl | (simp [errW_none, errW_some] <;> rfl) | (simp [*, errW_none, errW_some] <;> rfl), by first | exact Kd.R_nil _ _ _ _ _ | exact Kd.N_nil _ _ _ _ _ | exact Kd.V_nil _ _ _ _ _ | exact Kd.Q_nil _ _ _ _ _ | exact Kd.S_nil _ _ _ _ _, by repeat (first | (with_reducible first | exact HB.out | apply below_alloc | apply pw_below_drewN | apply below_drew1 | refine below_set ?_ GE213.out | refine below_set ?_ GE214.out) | exact HB.out)⟩
end Go.Proofs.Ytbldceikdajdlaa.QC
