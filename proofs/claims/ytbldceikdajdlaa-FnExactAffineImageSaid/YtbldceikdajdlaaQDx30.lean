import Derived.Test.YtbldceikdajdlaaQDx4
import Derived.Test.YtbldceikdajdlaaQDx19
import Derived.Test.YtbldceikdajdlaaQDx24
import Derived.Test.YtbldceikdajdlaaQDx29
namespace Go.Proofs.Ytbldceikdajdlaa.QD
open Go.RowKit Go.Proofs.YtbldceikdajdlaaW.PrintWords Go.Proofs.YtbldceikdajdlaaW.PrintLast Go.Proofs.YtbldceikdajdlaaW.PrintMore
attribute [local go_sem] isSome_setCell max2_int min2_int max_two min_two max_three min_three max_four min_four
set_option linter.unusedVariables false
set_option linter.unusedSimpArgs false

/-! ### spec_l08Is: function 51 -/
mutual
def spec_l08Is.j0 : Nat → Int → Bool → Int → Int → Int → List (S52) → Option (Bool)
 | 0, _, _, _, _, _, _ => none
 | k + 1, x0, x28, x249000, x249001, x249002, x249003 => if x28 = true then (some false) else (spec_l08Is.l0 k x0 x249000 0 x249000 x249001 x249002 x249003)
def spec_l08Is.l0 : Nat → Int → Int → Int → Int → Int → Int → List (S52) → Option (Bool)
 | 0, _, _, _, _, _, _, _ => none
 | k + 1, x0, x5, x6, x249000, x249001, x249002, x249003 => if x6 < (x249003.length : Int) then (if 0 ≤ x6 then ((spec_l01Is.f k x0 ((rd_T52 x249003 x6).f0.f0) ((rd_T52 x249003 x6).f0.f1) ((rd_T52 x249003 x6).f0.f2)).bind fun t255 => (if t255 = true then ((spec_l01Holds.f k x0 x249000 x249001 x249002 ((rd_T52 x249003 x6).f0.f0) ((rd_T52 x249003 x6).f0.f1) ((rd_T52 x249003 x6).f0.f2)).bind fun t256 => (if t256 = true then ((spec_l01In.f ((rd_T52 x249003 x6).f1) (-1000000) 1000000).bind fun t257 => (spec_l08Is.j2 k x0 x5 x6 (!t257) x249000 x249001 x249002 x249003 ((rd_T52 x249003 x6).f0.f0) ((rd_T52 x249003 x6).f0.f1) ((rd_T52 x249003 x6).f0.f2) ((rd_T52 x249003 x6).f1))) else (spec_l08Is.j2 k x0 x5 x6 true x249000 x249001 x249002 x249003 ((rd_T52 x249003 x6).f0.f0) ((rd_T52 x249003 x6).f0.f1) ((rd_T52 x249003 x6).f0.f2) ((rd_T52 x249003 x6).f1)))) else (spec_l08Is.j2 k x0 x5 x6 true x249000 x249001 x249002 x249003 ((rd_T52 x249003 x6).f0.f0) ((rd_T52 x249003 x6).f0.f1) ((rd_T52 x249003 x6).f0.f2) ((rd_T52 x249003 x6).f1)))) else (none)) else (spec_l08Is.l1 k x0 x5 0 0 x249000 x249001 x249002 x249003)
def spec_l08Is.j2 : Nat → Int → Int → Int → Bool → Int → Int → Int → List (S52) → Int → Int → Int → Int → Option (Bool)
 | 0, _, _, _, _, _, _, _, _, _, _, _, _ => none
 | k + 1, x0, x5, x6, x63, x249000, x249001, x249002, x249003, x255000, x255001, x255002, x255003 => if x63 = true then (some false) else (if x6 > 0 then (if 0 ≤ (wrap64 (x6 - 1)) then (if (wrap64 (x6 - 1)) < (x249003.length : Int) then ((spec_l08Key.f k x0 ((rd_T52 x249003 (wrap64 (x6 - 1))).f0.f0) ((rd_T52 x249003 (wrap64 (x6 - 1))).f0.f1) ((rd_T52 x249003 (wrap64 (x6 - 1))).f0.f2)).bind fun t259 => ((spec_l08Key.f k x0 x255000 x255001 x255002).bind fun t260 => (if t259 ≥ t260 then (some false) else (spec_l08Is.l0 k x0 (mx x5 x255000) (wrap64 (x6 + 1)) x249000 x249001 x249002 x249003)))) else (none)) else (none)) else (spec_l08Is.l0 k x0 (mx x5 x255000) (wrap64 (x6 + 1)) x249000 x249001 x249002 x249003))
def spec_l08Is.l1 : Nat → Int → Int → Int → Int → Int → Int → Int → List (S52) → Option (Bool)
 | 0, _, _, _, _, _, _, _, _ => none
 | k + 1, x0, x5, x8, x9, x249000, x249001, x249002, x249003 => if x9 < (x249003.length : Int) then (spec_l08Is.l2 k x0 x5 x8 x9 0 x249000 x249001 x249002 x249003) else ((spec_l01Power.f k x0 (wrap64 (x5 - x249000))).bind fun t261 => (some (x8 == t261)))
def spec_l08Is.l2 : Nat → Int → Int → Int → Int → Int → Int → Int → Int → List (S52) → Option (Bool)
 | 0, _, _, _, _, _, _, _, _, _ => none
 | k + 1, x0, x5, x8, x9, x10, x249000, x249001, x249002, x249003 => if x10 < (x249003.length : Int) then (if x9 = x10 then (spec_l08Is.l2 k x0 x5 x8 x9 (wrap64 (x10 + 1)) x249000 x249001 x249002 x249003) else (if 0 ≤ x9 then (if x9 < (x249003.length : Int) then (if 0 ≤ x10 then ((spec_l01Holds.f k x0 ((rd_T52 x249003 x9).f0.f0) ((rd_T52 x249003 x9).f0.f1) ((rd_T52 x249003 x9).f0.f2) ((rd_T52 x249003 x10).f0.f0) ((rd_T52 x249003 x10).f0.f1) ((rd_T52 x249003 x10).f0.f2)).bind fun t264 => (if t264 = true then (some false) else (spec_l08Is.l2 k x0 x5 x8 x9 (wrap64 (x10 + 1)) x249000 x249001 x249002 x249003))) else (none)) else (none)) else (none))) else (if 0 ≤ x9 then (if x9 < (x249003.length : Int) then ((spec_l01Power.f k x0 (wrap64 (x5 - ((rd_T52 x249003 x9).f0.f0)))).bind fun t266 => (spec_l08Is.l1 k x0 x5 (wrap64 (x8 + t266)) (wrap64 (x9 + 1)) x249000 x249001 x249002 x249003)) else (none)) else (none))
end
def spec_l08Is.f (k : Nat) (a0 : Int) (a1_0 : Int) (a1_1 : Int) (a1_2 : Int) (l1_3 : List (S52)) : Option (Bool) := (spec_l01Code.f k a0 (([(⟨a1_0, a1_1, a1_2⟩ : S25)] : List (S25)))).bind fun t252 => (if t252 = 0 then (if (l1_3.length : Int) < 1 then (spec_l08Is.j0 k a0 true a1_0 a1_1 a1_2 l1_3) else (spec_l08Is.j0 k a0 (decide ((l1_3.length : Int) > 64)) a1_0 a1_1 a1_2 l1_3)) else (spec_l08Is.j0 k a0 true a1_0 a1_1 a1_2 l1_3))
def spec_l08Is.T10 : Bool × List (List Nat × List Nat) := (true, [([], []), ([0], [0]), ([1], [1]), ([2], [2]), ([2], [2]), ([4, 2], [2, 4]), ([2], [2]), ([6, 2], [2, 6]), ([5, 7, 2], [2, 5, 7]), ([8, 2], [2, 8]), ([9, 2], [2, 9]), ([3, 10, 2, 2], [2, 3, 10]), ([2], [2]), ([2], [2]), ([13, 2], [2, 13]), ([12, 14, 11, 2], [2, 12, 14]), ([11, 15, 2], [2, 11, 15]), ([2, 16], [2, 16])])
def spec_l08Is.B10 : List Nat := [0, 1, 3, 7, 7, 23, 7, 71, 247, 503, 1015, 2047, 7, 7, 8199, 32767, 65535, 131071]
theorem spec_l08Is.tab10 : rtab .any (opsOf Try.f51 10) = spec_l08Is.T10 := by kernel_rfl
theorem spec_l08Is.bits10 : waitsOk spec_l08Is.T10.2 spec_l08Is.B10 = true := by kernel_rfl
def spec_l08Is.T20 : Bool × List (List Nat × List Nat) := (true, [([], []), ([], []), ([0, 1], [0, 1]), ([2], [2]), ([3], [3]), ([3], [3]), ([5, 3], [3, 5]), ([3], [3]), ([6, 7, 3], [3, 6, 7]), ([8, 3], [3, 8]), ([9, 3], [3, 9]), ([3], [3]), ([11, 3], [3, 11]), ([3], [3]), ([12, 13, 3], [3, 12, 13]), ([14, 3], [3, 14]), ([15, 3], [3, 15]), ([4, 10, 16, 3, 3], [3, 4, 10, 16]), ([3, 17], [3, 17])])
def spec_l08Is.B20 : List Nat := [0, 0, 3, 7, 15, 15, 47, 15, 239, 495, 1007, 15, 2063, 15, 14351, 30735, 63503, 131071, 262143]
theorem spec_l08Is.tab20 : rtab .any (opsOf Try.f51 20) = spec_l08Is.T20 := by kernel_rfl
theorem spec_l08Is.bits20 : waitsOk spec_l08Is.T20.2 spec_l08Is.B20 = true := by kernel_rfl
set_option maxHeartbeats 8000000 in
set_option maxRecDepth 100000 in
theorem spec_l08Is.calls (k : Nat) (a0 : Int) (a1_0 : Int) (a1_1 : Int) (a1_2 : Int) (A1_3 : Option Addr) (c1_3 : Nat) (l1_3 : List (S52)) (r : Bool) (w : World) (hr1_3 : Kd.C k52 w A1_3 l1_3.length l1_3) (hc1_3 : l1_3.length ≤ c1_3) (h : spec_l08Is.f k a0 a1_0 a1_1 a1_2 l1_3 = some r) :
  Calls Try.prog 51 #[.int .i64 a0, .agg #[.int .i64 a1_0, .int .i64 a1_1, .int .i64 a1_2, .slice A1_3 l1_3.length c1_3]] w fun e w' => e = .returned (.bool r) ∧ Below w.heap.size w w' := by
 have hu28 := Try.underlying28
 have hu25 := Try.underlying25
 have hu52 := Try.underlying52
 have HR1_3 := Aside0.mk hr1_3
 have HC1_3 := Aside0.mk hc1_3
 clear hr1_3 hc1_3
 have HB := Aside0.mk (Below.refl w.heap.size w)
 have H : ((spec_l01Code.f k a0 (([(⟨a1_0, a1_1, a1_2⟩ : S25)] : List (S25)))).bind fun t252 => (if t252 = 0 then (if (l1_3.length : Int) < 1 then (spec_l08Is.j0 k a0 true a1_0 a1_1 a1_2 l1_3) else (spec_l08Is.j0 k a0 (decide ((l1_3.length : Int) > 64)) a1_0 a1_1 a1_2 l1_3)) else (spec_l08Is.j0 k a0 true a1_0 a1_1 a1_2 l1_3))) = some r := h
 clear h
 have HC3 := Aside0.mk H
 clear H
 go_enter Try.func51, Try.ntmps51
 go_upto_region 1 with (first | ((with_reducible refine gate_dst (N := 3) rfl ?_); (try (refine gate_guard (by rfl) ?_; dsimp only)); refine bx_ 3 #[.int .i64 a1_0, .int .i64 a1_1, .int .i64 a1_2, .slice A1_3 l1_3.length c1_3] 28 ?_; intro gb248 hg w4 hbox hb; have BK248 := Aside0.mk (hbox); have GW248 := bs_ HB hg; have GE248 := bs_ HB hg; replace HB := bt_ HB hb; clear hb hbox hg))
 (try simp only [Act.put, lstS, lstZ, lstC])
 go_cut [28] (fun v28 wc => ∃ (kq : Nat) (x28_2 : Bool), v28 = .bool x28_2 ∧ Aside0 (spec_l08Is.j0 kq a0 x28_2 a1_0 a1_1 a1_2 l1_3 = some r) ∧ Aside0 (kq ≤ k) ∧ Aside0 (wc.heap[gb248]? = some (.cells #[.int .i64 a1_0, .int .i64 a1_1, .int .i64 a1_2, (.slice A1_3 l1_3.length c1_3)] 28 (0, 0))) ∧ Aside0 (Below w.heap.size w wc))
 case first =>
  have H := HC3.out
  clear HC3
  obtain ⟨y249, hy249⟩ : ∃ y_ : List (S25), y_ = (([(⟨a1_0, a1_1, a1_2⟩ : S25)] : List (S25))) := ⟨_, rfl⟩
  replace H : ((spec_l01Code.f k a0 y249).bind fun t252 => (if t252 = 0 then (if (l1_3.length : Int) < 1 then (spec_l08Is.j0 k a0 true a1_0 a1_1 a1_2 l1_3) else (spec_l08Is.j0 k a0 (decide ((l1_3.length : Int) > 64)) a1_0 a1_1 a1_2 l1_3)) else (spec_l08Is.j0 k a0 true a1_0 a1_1 a1_2 l1_3))) = some r := by first | (rw [hy249]; with_reducible exact H) | (have H2_ := (Option.bind_some _ _).symm.trans H; rw [hy249]; with_reducible exact H2_) | (have H2_ := (Option.bind_some _ _).symm.trans H; with_reducible exact H2_) | with_reducible exact H | (rw [hy249]; exact H) | exact H
  have Ny249 := Aside0.mk hy249
  clear hy249
  replace H := ob_ H
  obtain ⟨t252, A50, H⟩ := H
  have A5 := Aside0.mk A50
  clear A50
  by_cases c6 : t252 = 0
  ·rw [if_pos c6] at H
   have c6b0 : (t252 == 0) = true := beq_iff_eq.mpr c6
   have c6b1 : (t252 != 0) = false := bne_eq_false_iff_eq.mpr c6
   clear c6
   (first | rw [c6b0] | (simp only [i64_w, i32_w]; rw [c6b0]) | skip)
   by_cases c7 : (l1_3.length : Int) < 1
   ·rw [if_pos c7] at H
    have c7b0 : decide ((l1_3.length : Int) < 1) = true := decide_eq_true c7
    have c7b1 : decide (l1_3.length < 1) = true := decide_eq_true (by omega)
    clear c7
    have H' := Aside0.mk H
    clear H
    obtain ⟨hcz8_0, hcz8_1, hcz8_2, hcz8_3, hfz8_0, hfz8_1, hfz8_2, hfz8_3⟩ := ch4_ BK248
    go_wp2_with (first | ((with_reducible refine gate_dst (N := 14) rfl ?_); (try (refine gate_guard (by rfl) ?_; dsimp only)); refine Kd.R_lit k25 _ 25 ?hg (N := 14) ?hd (xs := ([(⟨a1_0, a1_1, a1_2⟩ : S25)] : List (S25))) (inner := [.int .i64 a1_0, .int .i64 a1_1, .int .i64 a1_2]) (ok := fun _ => True) (okp := fun _ => True) ?hr ?hp (fun _ hk => hk) trivial (Below.refl _ _) (Nat.le_refl _) (by simp) ?_; (case hd => rfl); (case hg => rfl); (case hr => first | (go_simp; done) | (go_simp; rfl)); (case hp => exact (Reps.c3 (show Kd.M k25 _ _ _ (⟨a1_0, a1_1, a1_2⟩ : S25) [.int .i64 a1_0, .int .i64 a1_1, .int .i64 a1_2] from (k25_mkM _ _ _ (⟨a1_0, a1_1, a1_2⟩ : S25) )) (Reps.none _ _))); intro v250 w9 ho10 hb hg_ hnew_; clear hg_ hnew_; (first | rw [← Ny249.out] at ho10 | (simp only [Int.reduceToNat] at ho10; rw [← Ny249.out] at ho10)); have HO251 := Aside0.mk (Kd.R_lower ho10 (below_size (bw_ HB).out)); replace BK248 := bb_ BK248 hb; replace HB := bt_ HB hb; clear hb ho10; obtain ⟨Ao11, co11, eo11⟩ := Kd.R_slice HO251.out; subst eo11) | (refine ge_ 15 Try.func24 #[.int .i64 a0, .slice Ao11 y249.length co11] ?_; (with_reducible refine (spec_l01Code.calls k a0 _ _ y249 t252 _ ?side1 ?side2 A5.out).mono ?_); (case side1 => exact ca_ (Kd.R_reads' HO251.out).2.2); (case side2 => exact (Kd.R_reads' HO251.out).2.1); rintro e w12 ⟨rfl, hb⟩; refine ⟨_, rfl, ?_⟩; replace HO251 := Aside0.mk (Kd.R_below (ra_ HO251.out) hb); replace BK248 := bb_ BK248 hb; replace HB := bt_ HB hb; (try clear hb); (try clear hb2); (try clear hk); (try clear hi); obtain ⟨hcz13_0, hcz13_1, hcz13_2, hcz13_3, hfz13_0, hfz13_1, hfz13_2, hfz13_3⟩ := ch4_ BK248))
    go_meet
    case rel => exact ⟨_, (true), en_, H', ⟨by first | omega | exact Nat.le_refl _⟩, bl_ BK248, bw_ HB⟩
   ·rw [if_neg c7] at H
    have c7b0 : decide ((l1_3.length : Int) < 1) = false := decide_eq_false c7
    have c7b1 : decide (l1_3.length < 1) = false := decide_eq_false (by omega)
    clear c7
    have H' := Aside0.mk H
    clear H
    obtain ⟨hcz14_0, hcz14_1, hcz14_2, hcz14_3, hfz14_0, hfz14_1, hfz14_2, hfz14_3⟩ := ch4_ BK248
    go_wp2_with (first | ((with_reducible refine gate_dst (N := 14) rfl ?_); (try (refine gate_guard (by rfl) ?_; dsimp only)); refine Kd.R_lit k25 _ 25 ?hg (N := 14) ?hd (xs := ([(⟨a1_0, a1_1, a1_2⟩ : S25)] : List (S25))) (inner := [.int .i64 a1_0, .int .i64 a1_1, .int .i64 a1_2]) (ok := fun _ => True) (okp := fun _ => True) ?hr ?hp (fun _ hk => hk) trivial (Below.refl _ _) (Nat.le_refl _) (by simp) ?_; (case hd => rfl); (case hg => rfl); (case hr => first | (go_simp; done) | (go_simp; rfl)); (case hp => exact (Reps.c3 (show Kd.M k25 _ _ _ (⟨a1_0, a1_1, a1_2⟩ : S25) [.int .i64 a1_0, .int .i64 a1_1, .int .i64 a1_2] from (k25_mkM _ _ _ (⟨a1_0, a1_1, a1_2⟩ : S25) )) (Reps.none _ _))); intro v250 w15 ho16 hb hg_ hnew_; clear hg_ hnew_; (first | rw [← Ny249.out] at ho16 | (simp only [Int.reduceToNat] at ho16; rw [← Ny249.out] at ho16)); have HO251 := Aside0.mk (Kd.R_lower ho16 (below_size (bw_ HB).out)); replace BK248 := bb_ BK248 hb; replace HB := bt_ HB hb; clear hb ho16; obtain ⟨Ao17, co17, eo17⟩ := Kd.R_slice HO251.out; subst eo17) | (refine ge_ 15 Try.func24 #[.int .i64 a0, .slice Ao17 y249.length co17] ?_; (with_reducible refine (spec_l01Code.calls k a0 _ _ y249 t252 _ ?side1 ?side2 A5.out).mono ?_); (case side1 => exact ca_ (Kd.R_reads' HO251.out).2.2); (case side2 => exact (Kd.R_reads' HO251.out).2.1); rintro e w18 ⟨rfl, hb⟩; refine ⟨_, rfl, ?_⟩; replace HO251 := Aside0.mk (Kd.R_below (ra_ HO251.out) hb); replace BK248 := bb_ BK248 hb; replace HB := bt_ HB hb; (try clear hb); (try clear hb2); (try clear hk); (try clear hi); obtain ⟨hcz19_0, hcz19_1, hcz19_2, hcz19_3, hfz19_0, hfz19_1, hfz19_2, hfz19_3⟩ := ch4_ BK248))
    go_meet
    case rel => exact ⟨_, (decide ((l1_3.length : Int) > 64)), en_, H', ⟨by first | omega | exact Nat.le_refl _⟩, bl_ BK248, bw_ HB⟩
  ·rw [if_neg c6] at H
   have c6b0 : (t252 == 0) = false := beq_eq_false_iff_ne.mpr c6
   have c6b1 : (t252 != 0) = true := bne_iff_ne.mpr c6
   (first | rw [c6b0] | (simp only [i64_w, i32_w]; rw [c6b0]) | skip)
   have H' := Aside0.mk H
   clear H
   obtain ⟨hcz20_0, hcz20_1, hcz20_2, hcz20_3, hfz20_0, hfz20_1, hfz20_2, hfz20_3⟩ := ch4_ BK248
   go_wp2_with (first | ((with_reducible refine gate_dst (N := 14) rfl ?_); (try (refine gate_guard (by rfl) ?_; dsimp only)); refine Kd.R_lit k25 _ 25 ?hg (N := 14) ?hd (xs := ([(⟨a1_0, a1_1, a1_2⟩ : S25)] : List (S25))) (inner := [.int .i64 a1_0, .int .i64 a1_1, .int .i64 a1_2]) (ok := fun _ => True) (okp := fun _ => True) ?hr ?hp (fun _ hk => hk) trivial (Below.refl _ _) (Nat.le_refl _) (by simp) ?_; (case hd => rfl); (case hg => rfl); (case hr => first | (go_simp; done) | (go_simp; rfl)); (case hp => exact (Reps.c3 (show Kd.M k25 _ _ _ (⟨a1_0, a1_1, a1_2⟩ : S25) [.int .i64 a1_0, .int .i64 a1_1, .int .i64 a1_2] from (k25_mkM _ _ _ (⟨a1_0, a1_1, a1_2⟩ : S25) )) (Reps.none _ _))); intro v250 w21 ho22 hb hg_ hnew_; clear hg_ hnew_; (first | rw [← Ny249.out] at ho22 | (simp only [Int.reduceToNat] at ho22; rw [← Ny249.out] at ho22)); have HO251 := Aside0.mk (Kd.R_lower ho22 (below_size (bw_ HB).out)); replace BK248 := bb_ BK248 hb; replace HB := bt_ HB hb; clear hb ho22; obtain ⟨Ao23, co23, eo23⟩ := Kd.R_slice HO251.out; subst eo23) | (refine ge_ 15 Try.func24 #[.int .i64 a0, .slice Ao23 y249.length co23] ?_; (with_reducible refine (spec_l01Code.calls k a0 _ _ y249 t252 _ ?side1 ?side2 A5.out).mono ?_); (case side1 => exact ca_ (Kd.R_reads' HO251.out).2.2); (case side2 => exact (Kd.R_reads' HO251.out).2.1); rintro e w24 ⟨rfl, hb⟩; refine ⟨_, rfl, ?_⟩; replace HO251 := Aside0.mk (Kd.R_below (ra_ HO251.out) hb); replace BK248 := bb_ BK248 hb; replace HB := bt_ HB hb; (try clear hb); (try clear hb2); (try clear hk); (try clear hi)))
   go_meet
   case rel => exact ⟨_, (true), en_, H', ⟨by first | omega | exact Nat.le_refl _⟩, bl_ BK248, bw_ HB⟩
 case rest =>
  clear HC3
  try clear c1
  try clear c2
  try clear p2
  try clear c3
  try clear c5
  try clear c6
  try clear c6b0
  try clear c6b1
  try clear c7
  try clear c7b0
  try clear c7b1
  try clear c24
  try clear hcz13_0 hcz13_1 hcz13_2 hcz13_3
  try clear hcz14_0 hcz14_1 hcz14_2 hcz14_3
  try clear hcz19_0 hcz19_1 hcz19_2 hcz19_3
  try clear hcz20_0 hcz20_1 hcz20_2 hcz20_3
  try clear hcz8_0 hcz8_1 hcz8_2 hcz8_3
  try clear hfz13_0 hfz13_1 hfz13_2 hfz13_3
  try clear hfz14_0 hfz14_1 hfz14_2 hfz14_3
  try clear hfz19_0 hfz19_1 hfz19_2 hfz19_3
  try clear hfz20_0 hfz20_1 hfz20_2 hfz20_3
  try clear hfz8_0 hfz8_1 hfz8_2 hfz8_3
  obtain ⟨kq, x28_2, rfl, HA, HJ2, BK248, HB⟩ := hcut
  cases kq with
  | zero => exact absurd HA.out (by simp [spec_l08Is.j0])
  | succ kj2 =>
   have H := HA.out
   clear HA
   simp only [spec_l08Is.j0] at H
   by_cases c25 : x28_2 = true
   ·subst c25
    have H1 : (some false) = some r := by rw [if_pos rfl] at H; exact H
    clear H
    have H := H1
    clear H1
    obtain rfl := si_ H
    go_wp2
    go_ret
    exact ⟨es_, (bw_ HB).out⟩
   ·replace c25 := Bool.eq_false_iff.mpr c25
    subst c25
    have H1 : (spec_l08Is.l0 kj2 a0 a1_0 0 a1_0 a1_1 a1_2 l1_3) = some r := by rw [if_neg (show ¬ (false = true) by decide)] at H; exact H
    clear H
    have H := H1
    clear H1
    have H' := Aside0.mk H
    clear H
    obtain ⟨hcz26_0, hcz26_1, hcz26_2, hcz26_3, hfz26_0, hfz26_1, hfz26_2, hfz26_3⟩ := ch4_ BK248
    go_wp2
    go_loopg [5, 6] kj2 (fun kq v5 v6 w' => ∃ (x5_2 : Int) (x6_2 : Int), v5 = .int .i64 x5_2 ∧ v6 = .int .i64 x6_2 ∧ Aside0 (spec_l08Is.l0 kq a0 x5_2 x6_2 a1_0 a1_1 a1_2 l1_3 = some r) ∧ Aside0 (kq ≤ kj2) ∧ Aside0 (w'.heap[gb248]? = some (.cells #[.int .i64 a1_0, .int .i64 a1_1, .int .i64 a1_2, (.slice A1_3 l1_3.length c1_3)] 28 (0, 0))) ∧ Aside0 (Below w.heap.size w w'))
    case atStart => exact ⟨(a1_0), (0), en_, en_, H', ⟨Nat.le_refl _⟩, bl_ BK248, bw_ HB⟩
    case round =>
     clear H'
     try clear c1
     try clear c2
     try clear p2
     try clear c3
     try clear c5
     try clear c6
     try clear c6b0
     try clear c6b1
     try clear c7
     try clear c7b0
     try clear c7b1
     try clear c24
     try clear c25
     try clear hcz13_0 hcz13_1 hcz13_2 hcz13_3
     try clear hcz14_0 hcz14_1 hcz14_2 hcz14_3
     try clear hcz19_0 hcz19_1 hcz19_2 hcz19_3
     try clear hcz20_0 hcz20_1 hcz20_2 hcz20_3
     try clear hcz26_0 hcz26_1 hcz26_2 hcz26_3
     try clear hcz8_0 hcz8_1 hcz8_2 hcz8_3
     try clear hfz13_0 hfz13_1 hfz13_2 hfz13_3
     try clear hfz14_0 hfz14_1 hfz14_2 hfz14_3
     try clear hfz19_0 hfz19_1 hfz19_2 hfz19_3
     try clear hfz20_0 hfz20_1 hfz20_2 hfz20_3
     try clear hfz26_0 hfz26_1 hfz26_2 hfz26_3
     try clear hfz8_0 hfz8_1 hfz8_2 hfz8_3
     try clear p2
     obtain ⟨x5_2, x6_2, rfl, rfl, HA, HK2, BK248, HB⟩ := hrel
     cases gk with
     | zero => exact absurd HA.out (by simp [spec_l08Is.l0])
     | succ k2 =>
      have H := HA.out
      clear HA
      simp only [spec_l08Is.l0] at H
      by_cases c27 : x6_2 < (l1_3.length : Int)
      ·rw [if_pos c27] at H
       have c27b0 : decide (x6_2 < (l1_3.length : Int)) = true := decide_eq_true c27
       clear c27
       by_cases c28 : 0 ≤ x6_2
       ·rw [if_pos c28] at H
        have c28b0 : decide (0 ≤ x6_2) = true := decide_eq_true c28
        clear c28
        have HC29 := Aside0.mk H
        clear H
        obtain ⟨hcz30_0, hcz30_1, hcz30_2, hcz30_3, hfz30_0, hfz30_1, hfz30_2, hfz30_3⟩ := ch4_ BK248
        have p253 : 0 ≤ (x6_2 : Int) := od_
        have q253 : x6_2 < (l1_3.length : Int) := od_
        obtain ⟨ad253, e253, hx253_0, hx253_1, hx253_2, hx253_3⟩ := at_T52 HR1_3.out x6_2 p253 q253
        cases e253
        replace hx253_0 := clTr HB.out hx253_0
        replace hx253_1 := clTr HB.out hx253_1
        replace hx253_2 := clTr HB.out hx253_2
        replace hx253_3 := clTr HB.out hx253_3
        replace p253 := eq_true p253
        replace q253 := eq_true q253
        go_upto_region 8 with (first | ((with_reducible refine gate_dst (N := 7) rfl ?_); (try (refine gate_guard (by rfl) ?_; dsimp only)); refine bx_ 7 #[.int .i64 0, .int .i64 0, .int .i64 0, .int .i64 0] 52 ?_; intro gb254 hg w31 hbox hb; have BK254 := Aside0.mk (hbox); have GW254 := bs_ HB hg; have GE254 := bs_ HB hg; have NB248_254 := bm_ BK248 hg; have NB254_248 := bn_ BK248 hg; replace BK248 := bb_ BK248 hb; replace HB := bt_ HB hb; clear hb hbox hg; have hnb32 := NB254_248.out; have hnc32 := NB248_254.out; obtain ⟨hcz33_0, hcz33_1, hcz33_2, hcz33_3, hfz33_0, hfz33_1, hfz33_2, hfz33_3⟩ := ch4_ BK254))
        (try simp only [Act.put, lstS, lstZ, lstC])
        go_cut [63] (fun v63 wc => ∃ (kq : Nat) (x63_28 : Bool), v63 = .bool x63_28 ∧ Aside0 (spec_l08Is.j2 kq a0 x5_2 x6_2 x63_28 a1_0 a1_1 a1_2 l1_3 ((rd_T52 l1_3 x6_2).f0.f0) ((rd_T52 l1_3 x6_2).f0.f1) ((rd_T52 l1_3 x6_2).f0.f2) ((rd_T52 l1_3 x6_2).f1) = some r) ∧ Aside0 (kq ≤ k2) ∧ Aside0 (wc.heap[gb248]? = some (.cells #[.int .i64 a1_0, .int .i64 a1_1, .int .i64 a1_2, (.slice (some ad253) l1_3.length c1_3)] 28 (0, 0))) ∧ Aside0 (wc.heap[gb254]? = some (.cells #[.int .i64 ((rd_T52 l1_3 x6_2).f0.f0), .int .i64 ((rd_T52 l1_3 x6_2).f0.f1), .int .i64 ((rd_T52 l1_3 x6_2).f0.f2), .int .i64 ((rd_T52 l1_3 x6_2).f1)] 52 (0, 0))) ∧ Aside0 (Below w.heap.size w wc))
        case first =>
         have H := HC29.out
         clear HC29
         replace H := ob_ H
         obtain ⟨t255, A340, H⟩ := H
         have A34 := Aside0.mk A340
         clear A340
         by_cases c35 : t255 = true
         ·subst c35
          have H1 : ((spec_l01Holds.f k2 a0 a1_0 a1_1 a1_2 ((rd_T52 l1_3 x6_2).f0.f0) ((rd_T52 l1_3 x6_2).f0.f1) ((rd_T52 l1_3 x6_2).f0.f2)).bind fun t256 => (if t256 = true then ((spec_l01In.f ((rd_T52 l1_3 x6_2).f1) (-1000000) 1000000).bind fun t257 => (spec_l08Is.j2 k2 a0 x5_2 x6_2 (!t257) a1_0 a1_1 a1_2 l1_3 ((rd_T52 l1_3 x6_2).f0.f0) ((rd_T52 l1_3 x6_2).f0.f1) ((rd_T52 l1_3 x6_2).f0.f2) ((rd_T52 l1_3 x6_2).f1))) else (spec_l08Is.j2 k2 a0 x5_2 x6_2 true a1_0 a1_1 a1_2 l1_3 ((rd_T52 l1_3 x6_2).f0.f0) ((rd_T52 l1_3 x6_2).f0.f1) ((rd_T52 l1_3 x6_2).f0.f2) ((rd_T52 l1_3 x6_2).f1)))) = some r := by rw [if_pos rfl] at H; exact H
          clear H
          have H := H1
          clear H1
          replace H := ob_ H
          obtain ⟨t256, A360, H⟩ := H
          have A36 := Aside0.mk A360
          clear A360
          by_cases c37 : t256 = true
          ·subst c37
           have H1 : ((spec_l01In.f ((rd_T52 l1_3 x6_2).f1) (-1000000) 1000000).bind fun t257 => (spec_l08Is.j2 k2 a0 x5_2 x6_2 (!t257) a1_0 a1_1 a1_2 l1_3 ((rd_T52 l1_3 x6_2).f0.f0) ((rd_T52 l1_3 x6_2).f0.f1) ((rd_T52 l1_3 x6_2).f0.f2) ((rd_T52 l1_3 x6_2).f1))) = some r := by rw [if_pos rfl] at H; exact H
           clear H
           have H := H1
           clear H1
           replace H := ob_ H
           obtain ⟨t257, A380, H⟩ := H
           have A38 := Aside0.mk A380
           clear A380
           have H' := Aside0.mk H
           clear H
           have hnb39 := NB254_248.out
           have hnc39 := NB248_254.out
           obtain ⟨hcz40_0, hcz40_1, hcz40_2, hcz40_3, hfz40_0, hfz40_1, hfz40_2, hfz40_3⟩ := ch4_ BK254
           go_wp2_with (first | (refine ge_ 47 Try.func60 #[.int .i64 a0, .agg #[.int .i64 ((rd_T52 l1_3 x6_2).f0.f0), .int .i64 ((rd_T52 l1_3 x6_2).f0.f1), .int .i64 ((rd_T52 l1_3 x6_2).f0.f2)]] ?_; (with_reducible refine (spec_l01Is.calls k2 a0 ((rd_T52 l1_3 x6_2).f0.f0) ((rd_T52 l1_3 x6_2).f0.f1) ((rd_T52 l1_3 x6_2).f0.f2) true _ A34.out).mono ?_); rintro e w41 ⟨rfl, hb⟩; refine ⟨_, rfl, ?_⟩; replace BK248 := fb_ BK248 NB248_254 hb; replace BK254 := Aside0.mk (blk_below (g := gb254) (o := .cells #[.int .i64 ((rd_T52 l1_3 x6_2).f0.f0), .int .i64 ((rd_T52 l1_3 x6_2).f0.f1), .int .i64 ((rd_T52 l1_3 x6_2).f0.f2), .int .i64 ((rd_T52 l1_3 x6_2).f1)] 52 (0, 0)) (bp_ BK254).out hb); replace HB := bt_ HB hb; (try clear hb); (try clear hb2); (try clear hk); (try clear hi); obtain ⟨hcz42_0, hcz42_1, hcz42_2, hcz42_3, hfz42_0, hfz42_1, hfz42_2, hfz42_3⟩ := ch4_ BK248; obtain ⟨hcz43_0, hcz43_1, hcz43_2, hcz43_3, hfz43_0, hfz43_1, hfz43_2, hfz43_3⟩ := ch4_ BK254) | (go_at_call 41; (with_reducible refine (spec_l01Holds.calls k2 a0 a1_0 a1_1 a1_2 ((rd_T52 l1_3 x6_2).f0.f0) ((rd_T52 l1_3 x6_2).f0.f1) ((rd_T52 l1_3 x6_2).f0.f2) true _ A36.out).mono ?_); rintro e w44 ⟨rfl, hb⟩; replace BK248 := bb_ BK248 hb; replace BK254 := bb_ BK254 hb; replace HB := bt_ HB hb; (try clear hb); (try clear hb2); (try clear hk); (try clear hi); obtain ⟨hcz45_0, hcz45_1, hcz45_2, hcz45_3, hfz45_0, hfz45_1, hfz45_2, hfz45_3⟩ := ch4_ BK254) | (go_at_call 25; (with_reducible refine (spec_l01In.calls ((rd_T52 l1_3 x6_2).f1) (-1000000) 1000000 t257 _ A38.out).mono ?_); rintro e w' ⟨rfl, ⟨nd, rfl⟩⟩))
           go_meet
           case rel => exact ⟨_, (!t257), en_, H', ⟨by have := HJ2.out; have := HK2.out; first | omega | exact Nat.le_refl _⟩, bl_ BK248, bl_ BK254, bw_ HB⟩
          ·replace c37 := Bool.eq_false_iff.mpr c37
           subst c37
           have H1 : (spec_l08Is.j2 k2 a0 x5_2 x6_2 true a1_0 a1_1 a1_2 l1_3 ((rd_T52 l1_3 x6_2).f0.f0) ((rd_T52 l1_3 x6_2).f0.f1) ((rd_T52 l1_3 x6_2).f0.f2) ((rd_T52 l1_3 x6_2).f1)) = some r := by rw [if_neg (show ¬ (false = true) by decide)] at H; exact H
           clear H
           have H := H1
           clear H1
           have H' := Aside0.mk H
           clear H
           have hnb46 := NB254_248.out
           have hnc46 := NB248_254.out
           obtain ⟨hcz47_0, hcz47_1, hcz47_2, hcz47_3, hfz47_0, hfz47_1, hfz47_2, hfz47_3⟩ := ch4_ BK254
           go_wp2_with (first | (refine ge_ 47 Try.func60 #[.int .i64 a0, .agg #[.int .i64 ((rd_T52 l1_3 x6_2).f0.f0), .int .i64 ((rd_T52 l1_3 x6_2).f0.f1), .int .i64 ((rd_T52 l1_3 x6_2).f0.f2)]] ?_; (with_reducible refine (spec_l01Is.calls k2 a0 ((rd_T52 l1_3 x6_2).f0.f0) ((rd_T52 l1_3 x6_2).f0.f1) ((rd_T52 l1_3 x6_2).f0.f2) true _ A34.out).mono ?_); rintro e w48 ⟨rfl, hb⟩; refine ⟨_, rfl, ?_⟩; replace BK248 := fb_ BK248 NB248_254 hb; replace BK254 := Aside0.mk (blk_below (g := gb254) (o := .cells #[.int .i64 ((rd_T52 l1_3 x6_2).f0.f0), .int .i64 ((rd_T52 l1_3 x6_2).f0.f1), .int .i64 ((rd_T52 l1_3 x6_2).f0.f2), .int .i64 ((rd_T52 l1_3 x6_2).f1)] 52 (0, 0)) (bp_ BK254).out hb); replace HB := bt_ HB hb; (try clear hb); (try clear hb2); (try clear hk); (try clear hi); obtain ⟨hcz49_0, hcz49_1, hcz49_2, hcz49_3, hfz49_0, hfz49_1, hfz49_2, hfz49_3⟩ := ch4_ BK248; obtain ⟨hcz50_0, hcz50_1, hcz50_2, hcz50_3, hfz50_0, hfz50_1, hfz50_2, hfz50_3⟩ := ch4_ BK254) | (go_at_call 41; (with_reducible refine (spec_l01Holds.calls k2 a0 a1_0 a1_1 a1_2 ((rd_T52 l1_3 x6_2).f0.f0) ((rd_T52 l1_3 x6_2).f0.f1) ((rd_T52 l1_3 x6_2).f0.f2) false _ A36.out).mono ?_); rintro e w51 ⟨rfl, hb⟩; replace BK248 := bb_ BK248 hb; replace BK254 := bb_ BK254 hb; replace HB := bt_ HB hb; (try clear hb); (try clear hb2); (try clear hk); (try clear hi)))
           go_meet
           case rel => exact ⟨_, (true), en_, H', ⟨by have := HJ2.out; have := HK2.out; first | omega | exact Nat.le_refl _⟩, bl_ BK248, bl_ BK254, bw_ HB⟩
         ·replace c35 := Bool.eq_false_iff.mpr c35
          subst c35
          have H1 : (spec_l08Is.j2 k2 a0 x5_2 x6_2 true a1_0 a1_1 a1_2 l1_3 ((rd_T52 l1_3 x6_2).f0.f0) ((rd_T52 l1_3 x6_2).f0.f1) ((rd_T52 l1_3 x6_2).f0.f2) ((rd_T52 l1_3 x6_2).f1)) = some r := by rw [if_neg (show ¬ (false = true) by decide)] at H; exact H
          clear H
          have H := H1
          clear H1
          have H' := Aside0.mk H
          clear H
          have hnb52 := NB254_248.out
          have hnc52 := NB248_254.out
          obtain ⟨hcz53_0, hcz53_1, hcz53_2, hcz53_3, hfz53_0, hfz53_1, hfz53_2, hfz53_3⟩ := ch4_ BK254
          go_wp2_with (first | (refine ge_ 47 Try.func60 #[.int .i64 a0, .agg #[.int .i64 ((rd_T52 l1_3 x6_2).f0.f0), .int .i64 ((rd_T52 l1_3 x6_2).f0.f1), .int .i64 ((rd_T52 l1_3 x6_2).f0.f2)]] ?_; (with_reducible refine (spec_l01Is.calls k2 a0 ((rd_T52 l1_3 x6_2).f0.f0) ((rd_T52 l1_3 x6_2).f0.f1) ((rd_T52 l1_3 x6_2).f0.f2) false _ A34.out).mono ?_); rintro e w54 ⟨rfl, hb⟩; refine ⟨_, rfl, ?_⟩; replace BK248 := fb_ BK248 NB248_254 hb; replace BK254 := Aside0.mk (blk_below (g := gb254) (o := .cells #[.int .i64 ((rd_T52 l1_3 x6_2).f0.f0), .int .i64 ((rd_T52 l1_3 x6_2).f0.f1), .int .i64 ((rd_T52 l1_3 x6_2).f0.f2), .int .i64 ((rd_T52 l1_3 x6_2).f1)] 52 (0, 0)) (bp_ BK254).out hb); replace HB := bt_ HB hb; (try clear hb); (try clear hb2); (try clear hk); (try clear hi)))
          go_meet
          case rel => exact ⟨_, (true), en_, H', ⟨by have := HJ2.out; have := HK2.out; first | omega | exact Nat.le_refl _⟩, bl_ BK248, bl_ BK254, bw_ HB⟩
        case rest =>
         clear HC29
         try clear c1
         try clear c2
         try clear p2
         try clear q2
         try clear hx2
         try clear c3
         try clear c4
         try clear c5
         try clear c6
         try clear c6b0
         try clear c6b1
         try clear c7
         try clear c7b0
         try clear c7b1
         try clear c24
         try clear c25
         try clear p25
         try clear q25
         try clear hx25
         try clear c27
         try clear c27b0
         try clear c28
         try clear c28b0
         try clear c32
         try clear c35
         try clear c37
         try clear c39
         try clear c46
         try clear c51
         try clear c52
         try clear hcz13_0 hcz13_1 hcz13_2 hcz13_3
         try clear hcz14_0 hcz14_1 hcz14_2 hcz14_3
         try clear hcz19_0 hcz19_1 hcz19_2 hcz19_3
         try clear hcz20_0 hcz20_1 hcz20_2 hcz20_3
         try clear hcz26_0 hcz26_1 hcz26_2 hcz26_3
         try clear hcz30_0 hcz30_1 hcz30_2 hcz30_3
         try clear hcz33_0 hcz33_1 hcz33_2 hcz33_3
         try clear hcz40_0 hcz40_1 hcz40_2 hcz40_3
         try clear hcz42_0 hcz42_1 hcz42_2 hcz42_3
         try clear hcz43_0 hcz43_1 hcz43_2 hcz43_3
         try clear hcz45_0 hcz45_1 hcz45_2 hcz45_3
         try clear hcz47_0 hcz47_1 hcz47_2 hcz47_3
         try clear hcz49_0 hcz49_1 hcz49_2 hcz49_3
         try clear hcz50_0 hcz50_1 hcz50_2 hcz50_3
         try clear hcz53_0 hcz53_1 hcz53_2 hcz53_3
         try clear hcz8_0 hcz8_1 hcz8_2 hcz8_3
         try clear hfz13_0 hfz13_1 hfz13_2 hfz13_3
         try clear hfz14_0 hfz14_1 hfz14_2 hfz14_3
         try clear hfz19_0 hfz19_1 hfz19_2 hfz19_3
         try clear hfz20_0 hfz20_1 hfz20_2 hfz20_3
         try clear hfz26_0 hfz26_1 hfz26_2 hfz26_3
         try clear hfz30_0 hfz30_1 hfz30_2 hfz30_3
         try clear hfz33_0 hfz33_1 hfz33_2 hfz33_3
         try clear hfz40_0 hfz40_1 hfz40_2 hfz40_3
         try clear hfz42_0 hfz42_1 hfz42_2 hfz42_3
         try clear hfz43_0 hfz43_1 hfz43_2 hfz43_3
         try clear hfz45_0 hfz45_1 hfz45_2 hfz45_3
         try clear hfz47_0 hfz47_1 hfz47_2 hfz47_3
         try clear hfz49_0 hfz49_1 hfz49_2 hfz49_3
         try clear hfz50_0 hfz50_1 hfz50_2 hfz50_3
         try clear hfz53_0 hfz53_1 hfz53_2 hfz53_3
         try clear hfz8_0 hfz8_1 hfz8_2 hfz8_3
         try clear hx253_0
         try clear hx253_1
         try clear hx253_2
         try clear hx253_3
         try clear p2
         try clear p253
         try clear q253
         obtain ⟨kq, x63_28, rfl, HA, HJ28, BK248, BK254, HB⟩ := hcut
         cases kq with
         | zero => exact absurd HA.out (by simp [spec_l08Is.j2])
         | succ kj28 =>
          have H := HA.out
          clear HA
          simp only [spec_l08Is.j2] at H
          by_cases c55 : x63_28 = true
          ·subst c55
           have H1 : (some false) = some r := by rw [if_pos rfl] at H; exact H
           clear H
           have H := H1
           clear H1
           obtain rfl := si_ H
           go_wp2
           go_ret
           exact ⟨es_, (bw_ HB).out⟩
          ·replace c55 := Bool.eq_false_iff.mpr c55
           subst c55
           have H1 : (if x6_2 > 0 then (if 0 ≤ (wrap64 (x6_2 - 1)) then (if (wrap64 (x6_2 - 1)) < (l1_3.length : Int) then ((spec_l08Key.f kj28 a0 ((rd_T52 l1_3 (wrap64 (x6_2 - 1))).f0.f0) ((rd_T52 l1_3 (wrap64 (x6_2 - 1))).f0.f1) ((rd_T52 l1_3 (wrap64 (x6_2 - 1))).f0.f2)).bind fun t259 => ((spec_l08Key.f kj28 a0 ((rd_T52 l1_3 x6_2).f0.f0) ((rd_T52 l1_3 x6_2).f0.f1) ((rd_T52 l1_3 x6_2).f0.f2)).bind fun t260 => (if t259 ≥ t260 then (some false) else (spec_l08Is.l0 kj28 a0 (mx x5_2 ((rd_T52 l1_3 x6_2).f0.f0)) (wrap64 (x6_2 + 1)) a1_0 a1_1 a1_2 l1_3)))) else (none)) else (none)) else (spec_l08Is.l0 kj28 a0 (mx x5_2 ((rd_T52 l1_3 x6_2).f0.f0)) (wrap64 (x6_2 + 1)) a1_0 a1_1 a1_2 l1_3)) = some r := by rw [if_neg (show ¬ (false = true) by decide)] at H; exact H
           clear H
           have H := H1
           clear H1
           by_cases c56 : x6_2 > 0
           ·rw [if_pos c56] at H
            have c56b0 : decide (0 < x6_2) = true := decide_eq_true c56
            clear c56
            obtain ⟨ji57, hji57⟩ : ∃ j_ : Int, (wrap64 (x6_2 - 1)) = j_ := ⟨_, rfl⟩
            replace H : (if 0 ≤ (ji57) then (if (ji57) < (l1_3.length : Int) then ((spec_l08Key.f kj28 a0 ((rd_T52 l1_3 (ji57)).f0.f0) ((rd_T52 l1_3 (ji57)).f0.f1) ((rd_T52 l1_3 (ji57)).f0.f2)).bind fun t259 => ((spec_l08Key.f kj28 a0 ((rd_T52 l1_3 x6_2).f0.f0) ((rd_T52 l1_3 x6_2).f0.f1) ((rd_T52 l1_3 x6_2).f0.f2)).bind fun t260 => (if t259 ≥ t260 then (some false) else (spec_l08Is.l0 kj28 a0 (mx x5_2 ((rd_T52 l1_3 x6_2).f0.f0)) (wrap64 (x6_2 + 1)) a1_0 a1_1 a1_2 l1_3)))) else (none)) else (none)) = some r := by first | (rw [hji57] at H; exact H) | (simp only [hji57] at H ⊢; exact H)
            have hji57w : (IntKind.i64.wrap (x6_2 - 1)) = ji57 := (i64_w _).trans hji57
            by_cases c58 : 0 ≤ (ji57)
            ·rw [if_pos c58] at H
             have c58b0 : decide (0 ≤ (ji57)) = true := decide_eq_true c58
             clear c58
             by_cases c59 : (ji57) < (l1_3.length : Int)
             ·rw [if_pos c59] at H
              have c59b0 : decide ((ji57) < (l1_3.length : Int)) = true := decide_eq_true c59
              clear c59
              replace H := ob_ H
              obtain ⟨t259, A600, H⟩ := H
              have A60 := Aside0.mk A600
              clear A600
              replace H := ob_ H
              obtain ⟨t260, A610, H⟩ := H
              have A61 := Aside0.mk A610
              clear A610
              by_cases c62 : t259 ≥ t260
              ·rw [if_pos c62] at H
               have c62b0 : decide (t260 ≤ t259) = true := decide_eq_true c62
               clear c62
               obtain rfl := si_ H
               try go_wp2
               replace BK248 := Aside0.mk (blk_drew BK248.out)
               replace BK254 := Aside0.mk (blk_drew BK254.out)
               replace HB := Aside0.mk (below_drew1 HB.out)
               have p258 : 0 ≤ ((ji57) : Int) := od_
               have q258 : (ji57) < (l1_3.length : Int) := od_
               obtain ⟨ad258, e258, hx258_0, hx258_1, hx258_2, hx258_3⟩ := at_T52 HR1_3.out (ji57) p258 q258
               have hw258_3 := hx258_3
               have hw258_2 := hx258_2
               have hw258_1 := hx258_1
               have hw258_0 := hx258_0
               obtain rfl : ad253 = ad258 := (by injection e258)
               replace hx258_0 := clTr HB.out hx258_0
               replace hx258_1 := clTr HB.out hx258_1
               replace hx258_2 := clTr HB.out hx258_2
               replace hx258_3 := clTr HB.out hx258_3
               replace p258 := eq_true p258
               replace q258 := eq_true q258
               refine start_ (n := 18) (S := fun w' => w'.cell? ⟨gb248, 0, none⟩ = some (.int .i64 a1_0) ∧ w'.cell? ⟨gb248, 1, none⟩ = some (.int .i64 a1_1) ∧ w'.cell? ⟨gb248, 2, none⟩ = some (.int .i64 a1_2) ∧ w'.cell? ⟨gb248, 3, none⟩ = some (.slice (some ad253) l1_3.length c1_3) ∧ w'.cell? ⟨gb254, 0, none⟩ = some (.int .i64 ((rd_T52 l1_3 x6_2).f0.f0)) ∧ w'.cell? ⟨gb254, 1, none⟩ = some (.int .i64 ((rd_T52 l1_3 x6_2).f0.f1)) ∧ w'.cell? ⟨gb254, 2, none⟩ = some (.int .i64 ((rd_T52 l1_3 x6_2).f0.f2)) ∧ w'.cell? ⟨gb254, 3, none⟩ = some (.int .i64 ((rd_T52 l1_3 x6_2).f1)) ∧ w'.cell? (ad253.add (((ji57)).toNat * 4)) = some (.int .i64 ((rd_T52 l1_3 (ji57)).f0.f0)) ∧ w'.cell? ⟨(ad253.add (((ji57)).toNat * 4)).block, (ad253.add (((ji57)).toNat * 4)).off + 1, none⟩ = some (.int .i64 ((rd_T52 l1_3 (ji57)).f0.f1)) ∧ w'.cell? ⟨(ad253.add (((ji57)).toNat * 4)).block, (ad253.add (((ji57)).toNat * 4)).off + 2, none⟩ = some (.int .i64 ((rd_T52 l1_3 (ji57)).f0.f2)) ∧ w'.cell? ⟨(ad253.add (((ji57)).toNat * 4)).block, (ad253.add (((ji57)).toNat * 4)).off + 3, none⟩ = some (.int .i64 ((rd_T52 l1_3 (ji57)).f1))) (ds := []) (bv_ 18 0) (by kernel_rfl) rfl rfl ⟨cz_ BK248 0, cz_ BK248 1, cz_ BK248 2, cz_ BK248 3, cz_ BK254 0, cz_ BK254 1, cz_ BK254 2, cz_ BK254 3, (clTr HB.out hw258_0 :), (clTr HB.out hw258_1 :), (clTr HB.out hw258_2 :), (clTr HB.out hw258_3 :)⟩ (fun hHeld => ?_); refine with_tabW spec_l08Is.tab10 spec_l08Is.bits10 (fun HT_ HW_ => ?_)
               generalize wc.drew = w63 at BK248 BK254 HB hx258_0 hx258_1 hx258_2 hx258_3 hHeld ⊢
               refine pu_ HT_ 0 (some 64) (bv_ 18 1) ?_
               refine pu_ HT_ 1 (some 65) (bv_ 18 3) ?_
               refine pu_ HT_ 2 (some 66) (bv_ 18 7) ?_
               refine pu_ HT_ 3 (some 67) (bv_ 18 15) ?_
               refine pu_ HT_ 4 (some 68) (bv_ 18 31) ?_
               refine pu_ HT_ 6 (some 70) (bv_ 18 95) ?_
               refine pu_ HT_ 7 (some 71) (bv_ 18 223) ?_
               refine pu_ HT_ 12 (some 76) (bv_ 18 4319) ?_
               refine pu_ HT_ 13 (some 77) (bv_ 18 12511) ?_
               refine ta_ HT_ HW_ 5 (some 69) (bv_ 18 12543) hHeld ?_ (hy := by rintro w' ⟨s0, s1, s2, s3, s4, s5, s6, s7, s8, s9, s10, s11⟩; go_simp; with_reducible rfl)
               refine pu_ HT_ 8 (some 72) (bv_ 18 12799) ?_
               refine pu_ HT_ 9 (some 73) (bv_ 18 13311) ?_
               refine ta_ HT_ HW_ 10 (some 74) (bv_ 18 14335) hHeld ?_ (hy := by rintro w' ⟨s0, s1, s2, s3, s4, s5, s6, s7, s8, s9, s10, s11⟩; go_simp; with_reducible rfl)
               refine ta_ HT_ HW_ 14 (some 78) (bv_ 18 30719) hHeld ?_ (hy := by rintro w' ⟨s0, s1, s2, s3, s4, s5, s6, s7, s8, s9, s10, s11⟩; go_simp; with_reducible rfl)
               refine one_ (i := 11) (N := some 75) (bv_ 18 32767) rfl rfl (one_of HT_.out (by kernel_rfl)) (by decide) (fun K hK => ?_)
               refine goes_ Try.func77 (by kernel_rfl) rfl #[.int .i64 a0, .agg #[.int .i64 ((rd_T52 l1_3 (ji57)).f0.f0), .int .i64 ((rd_T52 l1_3 (ji57)).f0.f1), .int .i64 ((rd_T52 l1_3 (ji57)).f0.f2)]] (by rfl) rfl rfl (by (try simp only [List.map_toArray, List.map_cons, List.map_nil]); first | done | (simp only [hji57]; rfl) | rfl | (simp only [List.length_drop, List.length_take]; rfl)) ?_
               with_reducible refine (spec_l08Key.calls kj28 a0 ((rd_T52 l1_3 (ji57)).f0.f0) ((rd_T52 l1_3 (ji57)).f0.f1) ((rd_T52 l1_3 (ji57)).f0.f2) t259 _ A60.out).mono ?_
               rintro e w64 ⟨rfl, hb⟩
               refine ⟨_, rfl, ?_⟩
               replace BK248 := bb_ BK248 hb
               replace BK254 := bb_ BK254 hb
               replace HB := bt_ HB hb
               (try clear hb)
               (try clear hb2)
               (try clear hk)
               (try clear hi)
               refine hK.out _ _ ⟨cz_ BK248 0, cz_ BK248 1, cz_ BK248 2, cz_ BK248 3, cz_ BK254 0, cz_ BK254 1, cz_ BK254 2, cz_ BK254 3, (clTr HB.out hw258_0 :), (clTr HB.out hw258_1 :), (clTr HB.out hw258_2 :), (clTr HB.out hw258_3 :)⟩ (fun hHeld => ?_)
               clear hK K
               refine norm_ (a' := ?_) ?_ ?_
               rotate_left
               ·show Act.put _ (some 75) _ = _
                simp only [Act.put, lstS, lstZ, lstC, i64_w, i32_w]
                rfl
               refine one_ (i := 15) (N := some 79) (bv_ 18 65535) rfl rfl (one_of HT_.out (by kernel_rfl)) (by decide) (fun K hK => ?_)
               refine goes_ Try.func77 (by kernel_rfl) rfl #[.int .i64 a0, .agg #[.int .i64 ((rd_T52 l1_3 x6_2).f0.f0), .int .i64 ((rd_T52 l1_3 x6_2).f0.f1), .int .i64 ((rd_T52 l1_3 x6_2).f0.f2)]] (by rfl) rfl rfl (by (try simp only [List.map_toArray, List.map_cons, List.map_nil]); first | done | rfl | (simp only [List.length_drop, List.length_take]; rfl)) ?_
               with_reducible refine (spec_l08Key.calls kj28 a0 ((rd_T52 l1_3 x6_2).f0.f0) ((rd_T52 l1_3 x6_2).f0.f1) ((rd_T52 l1_3 x6_2).f0.f2) t260 _ A61.out).mono ?_
               rintro e w65 ⟨rfl, hb⟩
               refine ⟨_, rfl, ?_⟩
               replace BK248 := bb_ BK248 hb
               replace BK254 := bb_ BK254 hb
               replace HB := bt_ HB hb
               (try clear hb)
               (try clear hb2)
               (try clear hk)
               (try clear hi)
               refine hK.out _ _ ⟨cz_ BK248 0, cz_ BK248 1, cz_ BK248 2, cz_ BK248 3, cz_ BK254 0, cz_ BK254 1, cz_ BK254 2, cz_ BK254 3, (clTr HB.out hw258_0 :), (clTr HB.out hw258_1 :), (clTr HB.out hw258_2 :), (clTr HB.out hw258_3 :)⟩ (fun hHeld => ?_)
               clear hK K
               refine norm_ (a' := ?_) ?_ ?_
               rotate_left
               ·show Act.put _ (some 79) _ = _
                simp only [Act.put, lstS, lstZ, lstC, i64_w, i32_w]
                rfl
               refine pu_ HT_ 16 (some 80) (bv_ 18 131071) ?_
               refine pu_ HT_ 17 (some 81) (bv_ 18 262143) ?_
               refine done_ (done_of HT_.out (by kernel_rfl)) ?_
               try go_wp2
               go_ret
               exact ⟨by first | rfl | (simp [errW_none, errW_some] <;> rfl) | (simp only [← hji57]; first | rfl | (simp [errW_none, errW_some] <;> rfl)) | (simp [*, errW_none, errW_some] <;> rfl), (bw_ HB).out⟩
              ·rw [if_neg c62] at H
               have c62b0 : decide (t260 ≤ t259) = false := decide_eq_false c62
               clear c62
               obtain ⟨ji66, hji66⟩ : ∃ j_ : Int, (mx x5_2 ((rd_T52 l1_3 x6_2).f0.f0)) = j_ := ⟨_, rfl⟩
               replace H : (spec_l08Is.l0 kj28 a0 ji66 (wrap64 (x6_2 + 1)) a1_0 a1_1 a1_2 l1_3) = some r := by first | (rw [hji66] at H; exact H) | (simp only [hji66] at H ⊢; exact H)
               (try rw [hji66] at A60)
               (try rw [hji66] at A61)
               have hji66_ : (if x5_2 < ((rd_T52 l1_3 x6_2).f0.f0) then ((rd_T52 l1_3 x6_2).f0.f0) else x5_2) = ji66 := hji66
               have H' := Aside0.mk H
               clear H
               try go_wp2
               replace BK248 := Aside0.mk (blk_drew BK248.out)
               replace BK254 := Aside0.mk (blk_drew BK254.out)
               replace HB := Aside0.mk (below_drew1 HB.out)
               have p258 : 0 ≤ ((ji57) : Int) := od_
               have q258 : (ji57) < (l1_3.length : Int) := od_
               obtain ⟨ad258, e258, hx258_0, hx258_1, hx258_2, hx258_3⟩ := at_T52 HR1_3.out (ji57) p258 q258
               have hw258_3 := hx258_3
               have hw258_2 := hx258_2
               have hw258_1 := hx258_1
               have hw258_0 := hx258_0
               obtain rfl : ad253 = ad258 := (by injection e258)
               replace hx258_0 := clTr HB.out hx258_0
               replace hx258_1 := clTr HB.out hx258_1
               replace hx258_2 := clTr HB.out hx258_2
               replace hx258_3 := clTr HB.out hx258_3
               replace p258 := eq_true p258
               replace q258 := eq_true q258
               refine start_ (n := 18) (S := fun w' => w'.cell? ⟨gb248, 0, none⟩ = some (.int .i64 a1_0) ∧ w'.cell? ⟨gb248, 1, none⟩ = some (.int .i64 a1_1) ∧ w'.cell? ⟨gb248, 2, none⟩ = some (.int .i64 a1_2) ∧ w'.cell? ⟨gb248, 3, none⟩ = some (.slice (some ad253) l1_3.length c1_3) ∧ w'.cell? ⟨gb254, 0, none⟩ = some (.int .i64 ((rd_T52 l1_3 x6_2).f0.f0)) ∧ w'.cell? ⟨gb254, 1, none⟩ = some (.int .i64 ((rd_T52 l1_3 x6_2).f0.f1)) ∧ w'.cell? ⟨gb254, 2, none⟩ = some (.int .i64 ((rd_T52 l1_3 x6_2).f0.f2)) ∧ w'.cell? ⟨gb254, 3, none⟩ = some (.int .i64 ((rd_T52 l1_3 x6_2).f1)) ∧ w'.cell? (ad253.add (((ji57)).toNat * 4)) = some (.int .i64 ((rd_T52 l1_3 (ji57)).f0.f0)) ∧ w'.cell? ⟨(ad253.add (((ji57)).toNat * 4)).block, (ad253.add (((ji57)).toNat * 4)).off + 1, none⟩ = some (.int .i64 ((rd_T52 l1_3 (ji57)).f0.f1)) ∧ w'.cell? ⟨(ad253.add (((ji57)).toNat * 4)).block, (ad253.add (((ji57)).toNat * 4)).off + 2, none⟩ = some (.int .i64 ((rd_T52 l1_3 (ji57)).f0.f2)) ∧ w'.cell? ⟨(ad253.add (((ji57)).toNat * 4)).block, (ad253.add (((ji57)).toNat * 4)).off + 3, none⟩ = some (.int .i64 ((rd_T52 l1_3 (ji57)).f1))) (ds := []) (bv_ 18 0) (by kernel_rfl) rfl rfl ⟨cz_ BK248 0, cz_ BK248 1, cz_ BK248 2, cz_ BK248 3, cz_ BK254 0, cz_ BK254 1, cz_ BK254 2, cz_ BK254 3, (clTr HB.out hw258_0 :), (clTr HB.out hw258_1 :), (clTr HB.out hw258_2 :), (clTr HB.out hw258_3 :)⟩ (fun hHeld => ?_); refine with_tabW spec_l08Is.tab10 spec_l08Is.bits10 (fun HT_ HW_ => ?_)
               generalize wc.drew = w67 at BK248 BK254 HB hx258_0 hx258_1 hx258_2 hx258_3 hHeld ⊢
               refine pu_ HT_ 0 (some 64) (bv_ 18 1) ?_
               refine pu_ HT_ 1 (some 65) (bv_ 18 3) ?_
               refine pu_ HT_ 2 (some 66) (bv_ 18 7) ?_
               refine pu_ HT_ 3 (some 67) (bv_ 18 15) ?_
               refine pu_ HT_ 4 (some 68) (bv_ 18 31) ?_
               refine pu_ HT_ 6 (some 70) (bv_ 18 95) ?_
               refine pu_ HT_ 7 (some 71) (bv_ 18 223) ?_
               refine pu_ HT_ 12 (some 76) (bv_ 18 4319) ?_
               refine pu_ HT_ 13 (some 77) (bv_ 18 12511) ?_
               refine ta_ HT_ HW_ 5 (some 69) (bv_ 18 12543) hHeld ?_ (hy := by rintro w' ⟨s0, s1, s2, s3, s4, s5, s6, s7, s8, s9, s10, s11⟩; go_simp; with_reducible rfl)
               refine pu_ HT_ 8 (some 72) (bv_ 18 12799) ?_
               refine pu_ HT_ 9 (some 73) (bv_ 18 13311) ?_
               refine ta_ HT_ HW_ 10 (some 74) (bv_ 18 14335) hHeld ?_ (hy := by rintro w' ⟨s0, s1, s2, s3, s4, s5, s6, s7, s8, s9, s10, s11⟩; go_simp; with_reducible rfl)
               refine ta_ HT_ HW_ 14 (some 78) (bv_ 18 30719) hHeld ?_ (hy := by rintro w' ⟨s0, s1, s2, s3, s4, s5, s6, s7, s8, s9, s10, s11⟩; go_simp; with_reducible rfl)
               refine one_ (i := 11) (N := some 75) (bv_ 18 32767) rfl rfl (one_of HT_.out (by kernel_rfl)) (by decide) (fun K hK => ?_)
               refine goes_ Try.func77 (by kernel_rfl) rfl #[.int .i64 a0, .agg #[.int .i64 ((rd_T52 l1_3 (ji57)).f0.f0), .int .i64 ((rd_T52 l1_3 (ji57)).f0.f1), .int .i64 ((rd_T52 l1_3 (ji57)).f0.f2)]] (by rfl) rfl rfl (by (try simp only [List.map_toArray, List.map_cons, List.map_nil]); first | done | (simp only [hji57]; rfl) | rfl | (simp only [List.length_drop, List.length_take]; rfl)) ?_
               with_reducible refine (spec_l08Key.calls kj28 a0 ((rd_T52 l1_3 (ji57)).f0.f0) ((rd_T52 l1_3 (ji57)).f0.f1) ((rd_T52 l1_3 (ji57)).f0.f2) t259 _ A60.out).mono ?_
               rintro e w68 ⟨rfl, hb⟩
               refine ⟨_, rfl, ?_⟩
               replace BK248 := bb_ BK248 hb
               replace BK254 := bb_ BK254 hb
               replace HB := bt_ HB hb
               (try clear hb)
               (try clear hb2)
               (try clear hk)
               (try clear hi)
               refine hK.out _ _ ⟨cz_ BK248 0, cz_ BK248 1, cz_ BK248 2, cz_ BK248 3, cz_ BK254 0, cz_ BK254 1, cz_ BK254 2, cz_ BK254 3, (clTr HB.out hw258_0 :), (clTr HB.out hw258_1 :), (clTr HB.out hw258_2 :), (clTr HB.out hw258_3 :)⟩ (fun hHeld => ?_)
               clear hK K
               refine norm_ (a' := ?_) ?_ ?_
               rotate_left
               ·show Act.put _ (some 75) _ = _
                simp only [Act.put, lstS, lstZ, lstC, i64_w, i32_w]
                rfl
               refine one_ (i := 15) (N := some 79) (bv_ 18 65535) rfl rfl (one_of HT_.out (by kernel_rfl)) (by decide) (fun K hK => ?_)
               refine goes_ Try.func77 (by kernel_rfl) rfl #[.int .i64 a0, .agg #[.int .i64 ((rd_T52 l1_3 x6_2).f0.f0), .int .i64 ((rd_T52 l1_3 x6_2).f0.f1), .int .i64 ((rd_T52 l1_3 x6_2).f0.f2)]] (by rfl) rfl rfl (by (try simp only [List.map_toArray, List.map_cons, List.map_nil]); first | done | rfl | (simp only [List.length_drop, List.length_take]; rfl)) ?_
               with_reducible refine (spec_l08Key.calls kj28 a0 ((rd_T52 l1_3 x6_2).f0.f0) ((rd_T52 l1_3 x6_2).f0.f1) ((rd_T52 l1_3 x6_2).f0.f2) t260 _ A61.out).mono ?_
               rintro e w69 ⟨rfl, hb⟩
               refine ⟨_, rfl, ?_⟩
               replace BK248 := bb_ BK248 hb
               replace BK254 := bb_ BK254 hb
               replace HB := bt_ HB hb
               (try clear hb)
               (try clear hb2)
               (try clear hk)
               (try clear hi)
               refine hK.out _ _ ⟨cz_ BK248 0, cz_ BK248 1, cz_ BK248 2, cz_ BK248 3, cz_ BK254 0, cz_ BK254 1, cz_ BK254 2, cz_ BK254 3, (clTr HB.out hw258_0 :), (clTr HB.out hw258_1 :), (clTr HB.out hw258_2 :), (clTr HB.out hw258_3 :)⟩ (fun hHeld => ?_)
               clear hK K
               refine norm_ (a' := ?_) ?_ ?_
               rotate_left
               ·show Act.put _ (some 79) _ = _
                simp only [Act.put, lstS, lstZ, lstC, i64_w, i32_w]
                rfl
               refine pu_ HT_ 16 (some 80) (bv_ 18 131071) ?_
               refine pu_ HT_ 17 (some 81) (bv_ 18 262143) ?_
               refine done_ (done_of HT_.out (by kernel_rfl)) ?_
               have hnb70 := NB254_248.out
               have hnc70 := NB248_254.out
               obtain ⟨hcz71_0, hcz71_1, hcz71_2, hcz71_3, hfz71_0, hfz71_1, hfz71_2, hfz71_3⟩ := ch4_ BK254
               try go_wp2
               go_roundg kj28
               case measure => have := HJ2.out; have := HK2.out; have := HJ28.out; omega
               case rel => exact ⟨(ji66), (wrap64 (x6_2 + 1)), (by first | rfl | (simp; done) | (simp only [← hji66] <;> (first | rfl | simp)) | (simp [*]; done)), en_, H', ⟨by have := HJ2.out; have := HK2.out; have := HJ28.out; omega⟩, bl_ BK248, bw_ HB⟩
             ·rw [if_neg c59] at H
              exact absurd H (by simp)
            ·rw [if_neg c58] at H
             exact absurd H (by simp)
           ·rw [if_neg c56] at H
            have c56b0 : decide (0 < x6_2) = false := decide_eq_false c56
            clear c56
            obtain ⟨ji72, hji72⟩ : ∃ j_ : Int, (mx x5_2 ((rd_T52 l1_3 x6_2).f0.f0)) = j_ := ⟨_, rfl⟩
            replace H : (spec_l08Is.l0 kj28 a0 ji72 (wrap64 (x6_2 + 1)) a1_0 a1_1 a1_2 l1_3) = some r := by first | (rw [hji72] at H; exact H) | (simp only [hji72] at H ⊢; exact H)
            have hji72_ : (if x5_2 < ((rd_T52 l1_3 x6_2).f0.f0) then ((rd_T52 l1_3 x6_2).f0.f0) else x5_2) = ji72 := hji72
            have H' := Aside0.mk H
            clear H
            try go_wp2
            replace BK248 := Aside0.mk (blk_drew BK248.out)
            replace BK254 := Aside0.mk (blk_drew BK254.out)
            replace HB := Aside0.mk (below_drew1 HB.out)
            refine start_ (n := 18) (S := fun w' => True) (ds := []) (bv_ 18 0) (by kernel_rfl) rfl rfl trivial (fun hHeld => ?_); refine with_tabW spec_l08Is.tab10 spec_l08Is.bits10 (fun HT_ HW_ => ?_)
            generalize wc.drew = w73 at BK248 BK254 HB hHeld ⊢
            refine pu_ HT_ 0 (some 64) (bv_ 18 1) ?_
            refine pu_ HT_ 1 (some 65) (bv_ 18 3) ?_
            refine pu_ HT_ 2 (some 66) (bv_ 18 7) ?_
            refine pv_ HT_ 3 (some 67) (bv_ 18 15) ?_
            refine pv_ HT_ 4 (some 68) (bv_ 18 31) ?_
            refine pv_ HT_ 5 (some 69) (bv_ 18 63) ?_
            refine pv_ HT_ 6 (some 70) (bv_ 18 127) ?_
            refine pv_ HT_ 7 (some 71) (bv_ 18 255) ?_
            refine pv_ HT_ 8 (some 72) (bv_ 18 511) ?_
            refine pv_ HT_ 9 (some 73) (bv_ 18 1023) ?_
            refine pv_ HT_ 10 (some 74) (bv_ 18 2047) ?_
            refine pv_ HT_ 11 (some 75) (bv_ 18 4095) ?_
            refine pv_ HT_ 12 (some 76) (bv_ 18 8191) ?_
            refine pv_ HT_ 13 (some 77) (bv_ 18 16383) ?_
            refine pv_ HT_ 14 (some 78) (bv_ 18 32767) ?_
            refine pv_ HT_ 15 (some 79) (bv_ 18 65535) ?_
            refine pv_ HT_ 16 (some 80) (bv_ 18 131071) ?_
            refine pu_ HT_ 17 (some 81) (bv_ 18 262143) ?_
            refine done_ (done_of HT_.out (by kernel_rfl)) ?_
            have hnb74 := NB254_248.out
            have hnc74 := NB248_254.out
            obtain ⟨hcz75_0, hcz75_1, hcz75_2, hcz75_3, hfz75_0, hfz75_1, hfz75_2, hfz75_3⟩ := ch4_ BK254
            try go_wp2
            go_roundg kj28
            case measure => have := HJ2.out; have := HK2.out; have := HJ28.out; omega
            case rel => exact ⟨(ji72), (wrap64 (x6_2 + 1)), (by first | rfl | (simp; done) | (simp only [← hji72] <;> (first | rfl | simp)) | (simp [*]; done)), en_, H', ⟨by have := HJ2.out; have := HK2.out; have := HJ28.out; omega⟩, bl_ BK248, bw_ HB⟩
       ·rw [if_neg c28] at H
        exact absurd H (by simp)
      ·rw [if_neg c27] at H
       have c27b0 : decide (x6_2 < (l1_3.length : Int)) = false := decide_eq_false c27
       clear c27
       have H' := Aside0.mk H
       clear H
       obtain ⟨hcz76_0, hcz76_1, hcz76_2, hcz76_3, hfz76_0, hfz76_1, hfz76_2, hfz76_3⟩ := ch4_ BK248
       go_wp2
       go_loopg [8, 9] k2 (fun kq v8 v9 w' => ∃ (x8_3 : Int) (x9_3 : Int), v8 = .int .i64 x8_3 ∧ v9 = .int .i64 x9_3 ∧ Aside0 (spec_l08Is.l1 kq a0 x5_2 x8_3 x9_3 a1_0 a1_1 a1_2 l1_3 = some r) ∧ Aside0 (kq ≤ k2) ∧ Aside0 (w'.heap[gb248]? = some (.cells #[.int .i64 a1_0, .int .i64 a1_1, .int .i64 a1_2, (.slice A1_3 l1_3.length c1_3)] 28 (0, 0))) ∧ Aside0 (Below w.heap.size w w'))
       case atStart => exact ⟨(0), (0), en_, en_, H', ⟨Nat.le_refl _⟩, bl_ BK248, bw_ HB⟩
       case round =>
        clear H'
        try clear c1
        try clear c2
        try clear p2
        try clear q2
        try clear hx2
        try clear c5
        try clear c6
        try clear p6
        try clear c7
        try clear p25
        try clear q25
        try clear hx25
        try clear c27
        try clear c27b0
        try clear c28
        try clear c56
        try clear c56b0
        try clear c58
        try clear c59
        try clear c62
        try clear c62b0
        try clear p64
        try clear c70
        try clear c74
        try clear hcz71_0 hcz71_1 hcz71_2 hcz71_3
        try clear hcz75_0 hcz75_1 hcz75_2 hcz75_3
        try clear hcz76_0 hcz76_1 hcz76_2 hcz76_3
        try clear hfz71_0 hfz71_1 hfz71_2 hfz71_3
        try clear hfz75_0 hfz75_1 hfz75_2 hfz75_3
        try clear hfz76_0 hfz76_1 hfz76_2 hfz76_3
        try clear hx258_0
        try clear hx258_1
        try clear hx258_2
        try clear hx258_3
        try clear p258
        try clear q258
        obtain ⟨x8_3, x9_3, rfl, rfl, HA, HK3, BK248, HB⟩ := hrel
        cases gk with
        | zero => exact absurd HA.out (by simp [spec_l08Is.l1])
        | succ k3 =>
         have H := HA.out
         clear HA
         simp only [spec_l08Is.l1] at H
         by_cases c77 : x9_3 < (l1_3.length : Int)
         ·rw [if_pos c77] at H
          have c77b0 : decide (x9_3 < (l1_3.length : Int)) = true := decide_eq_true c77
          clear c77
          have H' := Aside0.mk H
          clear H
          obtain ⟨hcz78_0, hcz78_1, hcz78_2, hcz78_3, hfz78_0, hfz78_1, hfz78_2, hfz78_3⟩ := ch4_ BK248
          go_wp2
          go_loopg [10] k3 (fun kq v10 w' => ∃ (x10_4 : Int), v10 = .int .i64 x10_4 ∧ Aside0 (spec_l08Is.l2 kq a0 x5_2 x8_3 x9_3 x10_4 a1_0 a1_1 a1_2 l1_3 = some r) ∧ Aside0 (kq ≤ k3) ∧ Aside0 (w'.heap[gb248]? = some (.cells #[.int .i64 a1_0, .int .i64 a1_1, .int .i64 a1_2, (.slice A1_3 l1_3.length c1_3)] 28 (0, 0))) ∧ Aside0 (Below w.heap.size w w'))
          case atStart => exact ⟨(0), en_, H', ⟨Nat.le_refl _⟩, bl_ BK248, bw_ HB⟩
          case round =>
           clear H'
           try clear c1
           try clear c2
           try clear p2
           try clear q2
           try clear hx2
           try clear c5
           try clear c6
           try clear p6
           try clear c7
           try clear p25
           try clear q25
           try clear hx25
           try clear c27
           try clear c27b0
           try clear c28
           try clear c56
           try clear c56b0
           try clear c58
           try clear c59
           try clear c62
           try clear c62b0
           try clear p64
           try clear c70
           try clear c74
           try clear c77
           try clear c77b0
           try clear hcz71_0 hcz71_1 hcz71_2 hcz71_3
           try clear hcz75_0 hcz75_1 hcz75_2 hcz75_3
           try clear hcz76_0 hcz76_1 hcz76_2 hcz76_3
           try clear hcz78_0 hcz78_1 hcz78_2 hcz78_3
           try clear hfz71_0 hfz71_1 hfz71_2 hfz71_3
           try clear hfz75_0 hfz75_1 hfz75_2 hfz75_3
           try clear hfz76_0 hfz76_1 hfz76_2 hfz76_3
           try clear hfz78_0 hfz78_1 hfz78_2 hfz78_3
           try clear hx258_0
           try clear hx258_1
           try clear hx258_2
           try clear hx258_3
           try clear p2
           try clear p25
           try clear p258
           try clear p6
           try clear p64
           try clear q2
           try clear q25
           try clear q258
           obtain ⟨x10_4, rfl, HA, HK4, BK248, HB⟩ := hrel
           cases gk with
           | zero => exact absurd HA.out (by simp [spec_l08Is.l2])
           | succ k4 =>
            have H := HA.out
            clear HA
            simp only [spec_l08Is.l2] at H
            by_cases c79 : x10_4 < (l1_3.length : Int)
            ·rw [if_pos c79] at H
             have c79b0 : decide (x10_4 < (l1_3.length : Int)) = true := decide_eq_true c79
             clear c79
             by_cases c80 : x9_3 = x10_4
             ·rw [if_pos c80] at H
              have c80b0 : (x9_3 == x10_4) = true := beq_iff_eq.mpr c80
              have c80b1 : (x9_3 != x10_4) = false := bne_eq_false_iff_eq.mpr c80
              clear c80
              have H' := Aside0.mk H
              clear H
              obtain ⟨hcz81_0, hcz81_1, hcz81_2, hcz81_3, hfz81_0, hfz81_1, hfz81_2, hfz81_3⟩ := ch4_ BK248
              try go_wp2
              replace BK248 := Aside0.mk (blk_drew BK248.out)
              replace HB := Aside0.mk (below_drew1 HB.out)
              refine start_ (n := 19) (S := fun w' => True) (ds := []) (bv_ 19 0) (by kernel_rfl) rfl rfl trivial (fun hHeld => ?_); refine with_tabW spec_l08Is.tab20 spec_l08Is.bits20 (fun HT_ HW_ => ?_)
              generalize wr.drew = w82 at BK248 HB hHeld ⊢
              refine pu_ HT_ 0 (some 101) (bv_ 19 1) ?_
              refine pu_ HT_ 1 (some 102) (bv_ 19 3) ?_
              refine pu_ HT_ 2 (some 103) (bv_ 19 7) ?_
              refine pu_ HT_ 3 (some 104) (bv_ 19 15) ?_
              refine pv_ HT_ 4 (some 105) (bv_ 19 31) ?_
              refine pv_ HT_ 5 (some 106) (bv_ 19 63) ?_
              refine pv_ HT_ 6 (some 107) (bv_ 19 127) ?_
              refine pv_ HT_ 7 (some 108) (bv_ 19 255) ?_
              refine pv_ HT_ 8 (some 109) (bv_ 19 511) ?_
              refine pv_ HT_ 9 (some 110) (bv_ 19 1023) ?_
              refine pv_ HT_ 10 (some 111) (bv_ 19 2047) ?_
              refine pv_ HT_ 11 (some 112) (bv_ 19 4095) ?_
              refine pv_ HT_ 12 (some 113) (bv_ 19 8191) ?_
              refine pv_ HT_ 13 (some 114) (bv_ 19 16383) ?_
              refine pv_ HT_ 14 (some 115) (bv_ 19 32767) ?_
              refine pv_ HT_ 15 (some 116) (bv_ 19 65535) ?_
              refine pv_ HT_ 16 (some 117) (bv_ 19 131071) ?_
              refine pv_ HT_ 17 (some 118) (bv_ 19 262143) ?_
              refine pu_ HT_ 18 (some 119) (bv_ 19 524287) ?_
              refine done_ (done_of HT_.out (by kernel_rfl)) ?_
              try go_wp2
              go_roundg k4
              case measure => have := HJ2.out; have := HK2.out; have := HK3.out; have := HK4.out; omega
              case rel => exact ⟨(wrap64 (x10_4 + 1)), en_, H', ⟨by have := HJ2.out; have := HK2.out; have := HK3.out; have := HK4.out; omega⟩, bl_ BK248, bw_ HB⟩
             ·rw [if_neg c80] at H
              have c80b0 : (x9_3 == x10_4) = false := beq_eq_false_iff_ne.mpr c80
              have c80b1 : (x9_3 != x10_4) = true := bne_iff_ne.mpr c80
              by_cases c83 : 0 ≤ x9_3
              ·rw [if_pos c83] at H
               have c83b0 : decide (0 ≤ x9_3) = true := decide_eq_true c83
               clear c83
               by_cases c84 : x9_3 < (l1_3.length : Int)
               ·rw [if_pos c84] at H
                have c84b0 : decide (x9_3 < (l1_3.length : Int)) = true := decide_eq_true c84
                clear c84
                by_cases c85 : 0 ≤ x10_4
                ·rw [if_pos c85] at H
                 have c85b0 : decide (0 ≤ x10_4) = true := decide_eq_true c85
                 clear c85
                 replace H := ob_ H
                 obtain ⟨t264, A860, H⟩ := H
                 have A86 := Aside0.mk A860
                 clear A860
                 by_cases c87 : t264 = true
                 ·subst c87
                  have H1 : (some false) = some r := by rw [if_pos rfl] at H; exact H
                  clear H
                  have H := H1
                  clear H1
                  obtain rfl := si_ H
                  obtain ⟨hcz88_0, hcz88_1, hcz88_2, hcz88_3, hfz88_0, hfz88_1, hfz88_2, hfz88_3⟩ := ch4_ BK248
                  try go_wp2
                  replace BK248 := Aside0.mk (blk_drew BK248.out)
                  replace HB := Aside0.mk (below_drew1 HB.out)
                  have p262 : 0 ≤ (x9_3 : Int) := od_
                  have q262 : x9_3 < (l1_3.length : Int) := od_
                  obtain ⟨ad262, e262, hx262_0, hx262_1, hx262_2, hx262_3⟩ := at_T52 HR1_3.out x9_3 p262 q262
                  have hw262_3 := hx262_3
                  have hw262_2 := hx262_2
                  have hw262_1 := hx262_1
                  have hw262_0 := hx262_0
                  cases e262
                  replace hx262_0 := clTr HB.out hx262_0
                  replace hx262_1 := clTr HB.out hx262_1
                  replace hx262_2 := clTr HB.out hx262_2
                  replace hx262_3 := clTr HB.out hx262_3
                  replace p262 := eq_true p262
                  replace q262 := eq_true q262
                  have p263 : 0 ≤ (x10_4 : Int) := od_
                  have q263 : x10_4 < (l1_3.length : Int) := od_
                  obtain ⟨ad263, e263, hx263_0, hx263_1, hx263_2, hx263_3⟩ := at_T52 HR1_3.out x10_4 p263 q263
                  have hw263_3 := hx263_3
                  have hw263_2 := hx263_2
                  have hw263_1 := hx263_1
                  have hw263_0 := hx263_0
                  obtain rfl : ad262 = ad263 := (by injection e263)
                  replace hx263_0 := clTr HB.out hx263_0
                  replace hx263_1 := clTr HB.out hx263_1
                  replace hx263_2 := clTr HB.out hx263_2
                  replace hx263_3 := clTr HB.out hx263_3
                  replace p263 := eq_true p263
                  replace q263 := eq_true q263
                  refine start_ (n := 19) (S := fun w' => w'.cell? ⟨gb248, 0, none⟩ = some (.int .i64 a1_0) ∧ w'.cell? ⟨gb248, 1, none⟩ = some (.int .i64 a1_1) ∧ w'.cell? ⟨gb248, 2, none⟩ = some (.int .i64 a1_2) ∧ w'.cell? ⟨gb248, 3, none⟩ = some (.slice (some ad262) l1_3.length c1_3) ∧ w'.cell? (ad262.add ((x9_3).toNat * 4)) = some (.int .i64 ((rd_T52 l1_3 x9_3).f0.f0)) ∧ w'.cell? ⟨(ad262.add ((x9_3).toNat * 4)).block, (ad262.add ((x9_3).toNat * 4)).off + 1, none⟩ = some (.int .i64 ((rd_T52 l1_3 x9_3).f0.f1)) ∧ w'.cell? ⟨(ad262.add ((x9_3).toNat * 4)).block, (ad262.add ((x9_3).toNat * 4)).off + 2, none⟩ = some (.int .i64 ((rd_T52 l1_3 x9_3).f0.f2)) ∧ w'.cell? ⟨(ad262.add ((x9_3).toNat * 4)).block, (ad262.add ((x9_3).toNat * 4)).off + 3, none⟩ = some (.int .i64 ((rd_T52 l1_3 x9_3).f1)) ∧ w'.cell? (ad262.add ((x10_4).toNat * 4)) = some (.int .i64 ((rd_T52 l1_3 x10_4).f0.f0)) ∧ w'.cell? ⟨(ad262.add ((x10_4).toNat * 4)).block, (ad262.add ((x10_4).toNat * 4)).off + 1, none⟩ = some (.int .i64 ((rd_T52 l1_3 x10_4).f0.f1)) ∧ w'.cell? ⟨(ad262.add ((x10_4).toNat * 4)).block, (ad262.add ((x10_4).toNat * 4)).off + 2, none⟩ = some (.int .i64 ((rd_T52 l1_3 x10_4).f0.f2)) ∧ w'.cell? ⟨(ad262.add ((x10_4).toNat * 4)).block, (ad262.add ((x10_4).toNat * 4)).off + 3, none⟩ = some (.int .i64 ((rd_T52 l1_3 x10_4).f1))) (ds := []) (bv_ 19 0) (by kernel_rfl) rfl rfl ⟨cz_ BK248 0, cz_ BK248 1, cz_ BK248 2, cz_ BK248 3, (clTr HB.out hw262_0 :), (clTr HB.out hw262_1 :), (clTr HB.out hw262_2 :), (clTr HB.out hw262_3 :), (clTr HB.out hw263_0 :), (clTr HB.out hw263_1 :), (clTr HB.out hw263_2 :), (clTr HB.out hw263_3 :)⟩ (fun hHeld => ?_); refine with_tabW spec_l08Is.tab20 spec_l08Is.bits20 (fun HT_ HW_ => ?_)
                  generalize wr.drew = w89 at BK248 HB hx262_0 hx262_1 hx262_2 hx262_3 hx263_0 hx263_1 hx263_2 hx263_3 hHeld ⊢
                  refine pu_ HT_ 0 (some 101) (bv_ 19 1) ?_
                  refine pu_ HT_ 1 (some 102) (bv_ 19 3) ?_
                  refine pu_ HT_ 2 (some 103) (bv_ 19 7) ?_
                  refine pu_ HT_ 3 (some 104) (bv_ 19 15) ?_
                  refine pu_ HT_ 4 (some 105) (bv_ 19 31) ?_
                  refine pu_ HT_ 5 (some 106) (bv_ 19 63) ?_
                  refine pu_ HT_ 7 (some 108) (bv_ 19 191) ?_
                  refine pu_ HT_ 11 (some 112) (bv_ 19 2239) ?_
                  refine pu_ HT_ 13 (some 114) (bv_ 19 10431) ?_
                  refine ta_ HT_ HW_ 6 (some 107) (bv_ 19 10495) hHeld ?_ (hy := by rintro w' ⟨s0, s1, s2, s3, s4, s5, s6, s7, s8, s9, s10, s11⟩; go_simp; with_reducible rfl)
                  refine pu_ HT_ 8 (some 109) (bv_ 19 10751) ?_
                  refine pu_ HT_ 9 (some 110) (bv_ 19 11263) ?_
                  refine ta_ HT_ HW_ 10 (some 111) (bv_ 19 12287) hHeld ?_ (hy := by rintro w' ⟨s0, s1, s2, s3, s4, s5, s6, s7, s8, s9, s10, s11⟩; go_simp; with_reducible rfl)
                  refine ta_ HT_ HW_ 12 (some 113) (bv_ 19 16383) hHeld ?_ (hy := by rintro w' ⟨s0, s1, s2, s3, s4, s5, s6, s7, s8, s9, s10, s11⟩; go_simp; with_reducible rfl)
                  refine pu_ HT_ 14 (some 115) (bv_ 19 32767) ?_
                  refine pu_ HT_ 15 (some 116) (bv_ 19 65535) ?_
                  refine ta_ HT_ HW_ 16 (some 117) (bv_ 19 131071) hHeld ?_ (hy := by rintro w' ⟨s0, s1, s2, s3, s4, s5, s6, s7, s8, s9, s10, s11⟩; go_simp; with_reducible rfl)
                  refine one_ (i := 17) (N := some 118) (bv_ 19 262143) rfl rfl (one_of HT_.out (by kernel_rfl)) (by decide) (fun K hK => ?_)
                  refine goes_ Try.func41 (by kernel_rfl) rfl #[.int .i64 a0, .agg #[.int .i64 ((rd_T52 l1_3 x9_3).f0.f0), .int .i64 ((rd_T52 l1_3 x9_3).f0.f1), .int .i64 ((rd_T52 l1_3 x9_3).f0.f2)], .agg #[.int .i64 ((rd_T52 l1_3 x10_4).f0.f0), .int .i64 ((rd_T52 l1_3 x10_4).f0.f1), .int .i64 ((rd_T52 l1_3 x10_4).f0.f2)]] (by rfl) rfl rfl (by (try simp only [List.map_toArray, List.map_cons, List.map_nil]); first | done | rfl | (simp only [List.length_drop, List.length_take]; rfl)) ?_
                  with_reducible refine (spec_l01Holds.calls k4 a0 ((rd_T52 l1_3 x9_3).f0.f0) ((rd_T52 l1_3 x9_3).f0.f1) ((rd_T52 l1_3 x9_3).f0.f2) ((rd_T52 l1_3 x10_4).f0.f0) ((rd_T52 l1_3 x10_4).f0.f1) ((rd_T52 l1_3 x10_4).f0.f2) true _ A86.out).mono ?_
                  rintro e w90 ⟨rfl, hb⟩
                  refine ⟨_, rfl, ?_⟩
                  replace BK248 := bb_ BK248 hb
                  replace HB := bt_ HB hb
                  (try clear hb)
                  (try clear hb2)
                  (try clear hk)
                  (try clear hi)
                  refine hK.out _ _ ⟨cz_ BK248 0, cz_ BK248 1, cz_ BK248 2, cz_ BK248 3, (clTr HB.out hw262_0 :), (clTr HB.out hw262_1 :), (clTr HB.out hw262_2 :), (clTr HB.out hw262_3 :), (clTr HB.out hw263_0 :), (clTr HB.out hw263_1 :), (clTr HB.out hw263_2 :), (clTr HB.out hw263_3 :)⟩ (fun hHeld => ?_)
                  clear hK K
                  refine norm_ (a' := ?_) ?_ ?_
                  rotate_left
                  ·show Act.put _ (some 118) _ = _
                   simp only [Act.put, lstS, lstZ, lstC, i64_w, i32_w]
                   rfl
                  refine pu_ HT_ 18 (some 119) (bv_ 19 524287) ?_
                  refine done_ (done_of HT_.out (by kernel_rfl)) ?_
                  try go_wp2
                  go_ret
                  exact ⟨es_, (bw_ HB).out⟩
                 ·replace c87 := Bool.eq_false_iff.mpr c87
                  subst c87
                  have H1 : (spec_l08Is.l2 k4 a0 x5_2 x8_3 x9_3 (wrap64 (x10_4 + 1)) a1_0 a1_1 a1_2 l1_3) = some r := by rw [if_neg (show ¬ (false = true) by decide)] at H; exact H
                  clear H
                  have H := H1
                  clear H1
                  have H' := Aside0.mk H
                  clear H
                  obtain ⟨hcz91_0, hcz91_1, hcz91_2, hcz91_3, hfz91_0, hfz91_1, hfz91_2, hfz91_3⟩ := ch4_ BK248
                  try go_wp2
                  replace BK248 := Aside0.mk (blk_drew BK248.out)
                  replace HB := Aside0.mk (below_drew1 HB.out)
                  have p262 : 0 ≤ (x9_3 : Int) := od_
                  have q262 : x9_3 < (l1_3.length : Int) := od_
                  obtain ⟨ad262, e262, hx262_0, hx262_1, hx262_2, hx262_3⟩ := at_T52 HR1_3.out x9_3 p262 q262
                  have hw262_3 := hx262_3
                  have hw262_2 := hx262_2
                  have hw262_1 := hx262_1
                  have hw262_0 := hx262_0
                  cases e262
                  replace hx262_0 := clTr HB.out hx262_0
                  replace hx262_1 := clTr HB.out hx262_1
                  replace hx262_2 := clTr HB.out hx262_2
                  replace hx262_3 := clTr HB.out hx262_3
                  replace p262 := eq_true p262
                  replace q262 := eq_true q262
                  have p263 : 0 ≤ (x10_4 : Int) := od_
                  have q263 : x10_4 < (l1_3.length : Int) := od_
                  obtain ⟨ad263, e263, hx263_0, hx263_1, hx263_2, hx263_3⟩ := at_T52 HR1_3.out x10_4 p263 q263
                  have hw263_3 := hx263_3
                  have hw263_2 := hx263_2
                  have hw263_1 := hx263_1
                  have hw263_0 := hx263_0
                  obtain rfl : ad262 = ad263 := (by injection e263)
                  replace hx263_0 := clTr HB.out hx263_0
                  replace hx263_1 := clTr HB.out hx263_1
                  replace hx263_2 := clTr HB.out hx263_2
                  replace hx263_3 := clTr HB.out hx263_3
                  replace p263 := eq_true p263
                  replace q263 := eq_true q263
                  refine start_ (n := 19) (S := fun w' => w'.cell? ⟨gb248, 0, none⟩ = some (.int .i64 a1_0) ∧ w'.cell? ⟨gb248, 1, none⟩ = some (.int .i64 a1_1) ∧ w'.cell? ⟨gb248, 2, none⟩ = some (.int .i64 a1_2) ∧ w'.cell? ⟨gb248, 3, none⟩ = some (.slice (some ad262) l1_3.length c1_3) ∧ w'.cell? (ad262.add ((x9_3).toNat * 4)) = some (.int .i64 ((rd_T52 l1_3 x9_3).f0.f0)) ∧ w'.cell? ⟨(ad262.add ((x9_3).toNat * 4)).block, (ad262.add ((x9_3).toNat * 4)).off + 1, none⟩ = some (.int .i64 ((rd_T52 l1_3 x9_3).f0.f1)) ∧ w'.cell? ⟨(ad262.add ((x9_3).toNat * 4)).block, (ad262.add ((x9_3).toNat * 4)).off + 2, none⟩ = some (.int .i64 ((rd_T52 l1_3 x9_3).f0.f2)) ∧ w'.cell? ⟨(ad262.add ((x9_3).toNat * 4)).block, (ad262.add ((x9_3).toNat * 4)).off + 3, none⟩ = some (.int .i64 ((rd_T52 l1_3 x9_3).f1)) ∧ w'.cell? (ad262.add ((x10_4).toNat * 4)) = some (.int .i64 ((rd_T52 l1_3 x10_4).f0.f0)) ∧ w'.cell? ⟨(ad262.add ((x10_4).toNat * 4)).block, (ad262.add ((x10_4).toNat * 4)).off + 1, none⟩ = some (.int .i64 ((rd_T52 l1_3 x10_4).f0.f1)) ∧ w'.cell? ⟨(ad262.add ((x10_4).toNat * 4)).block, (ad262.add ((x10_4).toNat * 4)).off + 2, none⟩ = some (.int .i64 ((rd_T52 l1_3 x10_4).f0.f2)) ∧ w'.cell? ⟨(ad262.add ((x10_4).toNat * 4)).block, (ad262.add ((x10_4).toNat * 4)).off + 3, none⟩ = some (.int .i64 ((rd_T52 l1_3 x10_4).f1))) (ds := []) (bv_ 19 0) (by kernel_rfl) rfl rfl ⟨cz_ BK248 0, cz_ BK248 1, cz_ BK248 2, cz_ BK248 3, (clTr HB.out hw262_0 :), (clTr HB.out hw262_1 :), (clTr HB.out hw262_2 :), (clTr HB.out hw262_3 :), (clTr HB.out hw263_0 :), (clTr HB.out hw263_1 :), (clTr HB.out hw263_2 :), (clTr HB.out hw263_3 :)⟩ (fun hHeld => ?_); refine with_tabW spec_l08Is.tab20 spec_l08Is.bits20 (fun HT_ HW_ => ?_)
                  generalize wr.drew = w92 at BK248 HB hx262_0 hx262_1 hx262_2 hx262_3 hx263_0 hx263_1 hx263_2 hx263_3 hHeld ⊢
                  refine pu_ HT_ 0 (some 101) (bv_ 19 1) ?_
                  refine pu_ HT_ 1 (some 102) (bv_ 19 3) ?_
                  refine pu_ HT_ 2 (some 103) (bv_ 19 7) ?_
                  refine pu_ HT_ 3 (some 104) (bv_ 19 15) ?_
                  refine pu_ HT_ 4 (some 105) (bv_ 19 31) ?_
                  refine pu_ HT_ 5 (some 106) (bv_ 19 63) ?_
                  refine pu_ HT_ 7 (some 108) (bv_ 19 191) ?_
                  refine pu_ HT_ 11 (some 112) (bv_ 19 2239) ?_
                  refine pu_ HT_ 13 (some 114) (bv_ 19 10431) ?_
                  refine ta_ HT_ HW_ 6 (some 107) (bv_ 19 10495) hHeld ?_ (hy := by rintro w' ⟨s0, s1, s2, s3, s4, s5, s6, s7, s8, s9, s10, s11⟩; go_simp; with_reducible rfl)
                  refine pu_ HT_ 8 (some 109) (bv_ 19 10751) ?_
                  refine pu_ HT_ 9 (some 110) (bv_ 19 11263) ?_
                  refine ta_ HT_ HW_ 10 (some 111) (bv_ 19 12287) hHeld ?_ (hy := by rintro w' ⟨s0, s1, s2, s3, s4, s5, s6, s7, s8, s9, s10, s11⟩; go_simp; with_reducible rfl)
                  refine ta_ HT_ HW_ 12 (some 113) (bv_ 19 16383) hHeld ?_ (hy := by rintro w' ⟨s0, s1, s2, s3, s4, s5, s6, s7, s8, s9, s10, s11⟩; go_simp; with_reducible rfl)
                  refine pu_ HT_ 14 (some 115) (bv_ 19 32767) ?_
                  refine pu_ HT_ 15 (some 116) (bv_ 19 65535) ?_
                  refine ta_ HT_ HW_ 16 (some 117) (bv_ 19 131071) hHeld ?_ (hy := by rintro w' ⟨s0, s1, s2, s3, s4, s5, s6, s7, s8, s9, s10, s11⟩; go_simp; with_reducible rfl)
                  refine one_ (i := 17) (N := some 118) (bv_ 19 262143) rfl rfl (one_of HT_.out (by kernel_rfl)) (by decide) (fun K hK => ?_)
                  refine goes_ Try.func41 (by kernel_rfl) rfl #[.int .i64 a0, .agg #[.int .i64 ((rd_T52 l1_3 x9_3).f0.f0), .int .i64 ((rd_T52 l1_3 x9_3).f0.f1), .int .i64 ((rd_T52 l1_3 x9_3).f0.f2)], .agg #[.int .i64 ((rd_T52 l1_3 x10_4).f0.f0), .int .i64 ((rd_T52 l1_3 x10_4).f0.f1), .int .i64 ((rd_T52 l1_3 x10_4).f0.f2)]] (by rfl) rfl rfl (by (try simp only [List.map_toArray, List.map_cons, List.map_nil]); first | done | rfl | (simp only [List.length_drop, List.length_take]; rfl)) ?_
                  with_reducible refine (spec_l01Holds.calls k4 a0 ((rd_T52 l1_3 x9_3).f0.f0) ((rd_T52 l1_3 x9_3).f0.f1) ((rd_T52 l1_3 x9_3).f0.f2) ((rd_T52 l1_3 x10_4).f0.f0) ((rd_T52 l1_3 x10_4).f0.f1) ((rd_T52 l1_3 x10_4).f0.f2) false _ A86.out).mono ?_
                  rintro e w93 ⟨rfl, hb⟩
                  refine ⟨_, rfl, ?_⟩
                  replace BK248 := bb_ BK248 hb
                  replace HB := bt_ HB hb
                  (try clear hb)
                  (try clear hb2)
                  (try clear hk)
                  (try clear hi)
                  refine hK.out _ _ ⟨cz_ BK248 0, cz_ BK248 1, cz_ BK248 2, cz_ BK248 3, (clTr HB.out hw262_0 :), (clTr HB.out hw262_1 :), (clTr HB.out hw262_2 :), (clTr HB.out hw262_3 :), (clTr HB.out hw263_0 :), (clTr HB.out hw263_1 :), (clTr HB.out hw263_2 :), (clTr HB.out hw263_3 :)⟩ (fun hHeld => ?_)
                  clear hK K
                  refine norm_ (a' := ?_) ?_ ?_
                  rotate_left
                  ·show Act.put _ (some 118) _ = _
                   simp only [Act.put, lstS, lstZ, lstC, i64_w, i32_w]
                   rfl
                  refine pu_ HT_ 18 (some 119) (bv_ 19 524287) ?_
                  refine done_ (done_of HT_.out (by kernel_rfl)) ?_
                  try go_wp2
                  go_roundg k4
                  case measure => have := HJ2.out; have := HK2.out; have := HK3.out; have := HK4.out; omega
                  case rel => exact ⟨(wrap64 (x10_4 + 1)), en_, H', ⟨by have := HJ2.out; have := HK2.out; have := HK3.out; have := HK4.out; omega⟩, bl_ BK248, bw_ HB⟩
                ·rw [if_neg c85] at H
                 exact absurd H (by simp)
               ·rw [if_neg c84] at H
                exact absurd H (by simp)
              ·rw [if_neg c83] at H
               exact absurd H (by simp)
            ·rw [if_neg c79] at H
             have c79b0 : decide (x10_4 < (l1_3.length : Int)) = false := decide_eq_false c79
             clear c79
             by_cases c94 : 0 ≤ x9_3
             ·rw [if_pos c94] at H
              have c94b0 : decide (0 ≤ x9_3) = true := decide_eq_true c94
              clear c94
              by_cases c95 : x9_3 < (l1_3.length : Int)
              ·rw [if_pos c95] at H
               have c95b0 : decide (x9_3 < (l1_3.length : Int)) = true := decide_eq_true c95
               clear c95
               replace H := ob_ H
               obtain ⟨t266, A960, H⟩ := H
               have A96 := Aside0.mk A960
               clear A960
               have H' := Aside0.mk H
               clear H
               obtain ⟨hcz97_0, hcz97_1, hcz97_2, hcz97_3, hfz97_0, hfz97_1, hfz97_2, hfz97_3⟩ := ch4_ BK248
               have p265 : 0 ≤ (x9_3 : Int) := od_
               have q265 : x9_3 < (l1_3.length : Int) := od_
               obtain ⟨ad265, e265, hx265_0, hx265_1, hx265_2, hx265_3⟩ := at_T52 HR1_3.out x9_3 p265 q265
               cases e265
               replace hx265_0 := clTr HB.out hx265_0
               replace hx265_1 := clTr HB.out hx265_1
               replace hx265_2 := clTr HB.out hx265_2
               replace hx265_3 := clTr HB.out hx265_3
               replace p265 := eq_true p265
               replace q265 := eq_true q265
               go_wp2_with (first | (refine ge_ 131 Try.func71 #[.int .i64 a0, .int .i64 (wrap64 (x5_2 - ((rd_T52 l1_3 x9_3).f0.f0)))] ?_; (with_reducible refine (spec_l01Power.calls k4 a0 (wrap64 (x5_2 - ((rd_T52 l1_3 x9_3).f0.f0))) t266 _ A96.out).mono ?_); rintro e w' ⟨rfl, ⟨nd, rfl⟩⟩; refine ⟨_, rfl, ?_⟩))
               go_roundg k4
               case measure => have := HJ2.out; have := HK2.out; have := HK3.out; have := HK4.out; omega
               case rel => exact ⟨(wrap64 (x8_3 + t266)), (wrap64 (x9_3 + 1)), en_, en_, H', ⟨by have := HJ2.out; have := HK2.out; have := HK3.out; have := HK4.out; omega⟩, bl_ BK248, bw_ HB⟩
              ·rw [if_neg c95] at H
               exact absurd H (by simp)
             ·rw [if_neg c94] at H
              exact absurd H (by simp)
         ·rw [if_neg c77] at H
          have c77b0 : decide (x9_3 < (l1_3.length : Int)) = false := decide_eq_false c77
          clear c77
          replace H := ob_ H
          obtain ⟨t261, A980, H⟩ := H
          have A98 := Aside0.mk A980
          clear A980
          obtain rfl := si_ H
          obtain ⟨hcz99_0, hcz99_1, hcz99_2, hcz99_3, hfz99_0, hfz99_1, hfz99_2, hfz99_3⟩ := ch4_ BK248
          go_wp2_with (first | (refine ge_ 140 Try.func71 #[.int .i64 a0, .int .i64 (wrap64 (x5_2 - a1_0))] ?_; (with_reducible refine (spec_l01Power.calls k3 a0 (wrap64 (x5_2 - a1_0)) t261 _ A98.out).mono ?_); rintro e w' ⟨rfl, ⟨nd, rfl⟩⟩; refine ⟨_, rfl, ?_⟩))
          go_ret
          exact ⟨es_, (bw_ HB).out⟩
end Go.Proofs.Ytbldceikdajdlaa.QD
