import Derived.Test.YtdfcoebadjhjlaaQIx5
import Derived.Test.YtdfcoebadjhjlaaQIx22
import Derived.Test.YtdfcoebadjhjlaaQIx24
import Derived.Test.YtdfcoebadjhjlaaQIx27
namespace Go.Proofs.Ytdfcoebadjhjlaa.QI
open Go.RowKit Go.Proofs.YtdfcoebadjhjlaaW.PrintWords Go.Proofs.YtdfcoebadjhjlaaW.PrintLast Go.Proofs.YtdfcoebadjhjlaaW.PrintMore
attribute [local go_sem] isSome_setCell max2_int min2_int max_two min_two max_three min_three max_four min_four
set_option linter.unusedVariables false
set_option linter.unusedSimpArgs false

/-! ### spec_l08Is: function 30 -/
mutual
def spec_l08Is.j0 : Nat → Int → Bool → Int → Int → Int → List (S72) → Option (Bool)
 | 0, _, _, _, _, _, _ => none
 | k + 1, x0, x28, x171000, x171001, x171002, x171003 => if x28 = true then (some false) else (spec_l08Is.l0 k x0 x171000 0 x171000 x171001 x171002 x171003)
def spec_l08Is.l0 : Nat → Int → Int → Int → Int → Int → Int → List (S72) → Option (Bool)
 | 0, _, _, _, _, _, _, _ => none
 | k + 1, x0, x5, x6, x171000, x171001, x171002, x171003 => if x6 < (x171003.length : Int) then (if 0 ≤ x6 then ((spec_l01Is.f k x0 ((rd_T72 x171003 x6).f0.f0) ((rd_T72 x171003 x6).f0.f1) ((rd_T72 x171003 x6).f0.f2)).bind fun t177 => (if t177 = true then ((spec_l01Holds.f k x0 x171000 x171001 x171002 ((rd_T72 x171003 x6).f0.f0) ((rd_T72 x171003 x6).f0.f1) ((rd_T72 x171003 x6).f0.f2)).bind fun t178 => (if t178 = true then ((spec_l01In.f ((rd_T72 x171003 x6).f1) (-1000000) 1000000).bind fun t179 => (spec_l08Is.j2 k x0 x5 x6 (!t179) x171000 x171001 x171002 x171003 ((rd_T72 x171003 x6).f0.f0) ((rd_T72 x171003 x6).f0.f1) ((rd_T72 x171003 x6).f0.f2) ((rd_T72 x171003 x6).f1))) else (spec_l08Is.j2 k x0 x5 x6 true x171000 x171001 x171002 x171003 ((rd_T72 x171003 x6).f0.f0) ((rd_T72 x171003 x6).f0.f1) ((rd_T72 x171003 x6).f0.f2) ((rd_T72 x171003 x6).f1)))) else (spec_l08Is.j2 k x0 x5 x6 true x171000 x171001 x171002 x171003 ((rd_T72 x171003 x6).f0.f0) ((rd_T72 x171003 x6).f0.f1) ((rd_T72 x171003 x6).f0.f2) ((rd_T72 x171003 x6).f1)))) else (none)) else (spec_l08Is.l1 k x0 x5 0 0 x171000 x171001 x171002 x171003)
def spec_l08Is.j2 : Nat → Int → Int → Int → Bool → Int → Int → Int → List (S72) → Int → Int → Int → Int → Option (Bool)
 | 0, _, _, _, _, _, _, _, _, _, _, _, _ => none
 | k + 1, x0, x5, x6, x63, x171000, x171001, x171002, x171003, x177000, x177001, x177002, x177003 => if x63 = true then (some false) else (if x6 > 0 then (if 0 ≤ (wrap64 (x6 - 1)) then (if (wrap64 (x6 - 1)) < (x171003.length : Int) then ((spec_l08Key.f k x0 ((rd_T72 x171003 (wrap64 (x6 - 1))).f0.f0) ((rd_T72 x171003 (wrap64 (x6 - 1))).f0.f1) ((rd_T72 x171003 (wrap64 (x6 - 1))).f0.f2)).bind fun t181 => ((spec_l08Key.f k x0 x177000 x177001 x177002).bind fun t182 => (if t181 ≥ t182 then (some false) else (spec_l08Is.l0 k x0 (mx x5 x177000) (wrap64 (x6 + 1)) x171000 x171001 x171002 x171003)))) else (none)) else (none)) else (spec_l08Is.l0 k x0 (mx x5 x177000) (wrap64 (x6 + 1)) x171000 x171001 x171002 x171003))
def spec_l08Is.l1 : Nat → Int → Int → Int → Int → Int → Int → Int → List (S72) → Option (Bool)
 | 0, _, _, _, _, _, _, _, _ => none
 | k + 1, x0, x5, x8, x9, x171000, x171001, x171002, x171003 => if x9 < (x171003.length : Int) then (spec_l08Is.l2 k x0 x5 x8 x9 0 x171000 x171001 x171002 x171003) else ((spec_l01Power.f k x0 (wrap64 (x5 - x171000))).bind fun t183 => (some (x8 == t183)))
def spec_l08Is.l2 : Nat → Int → Int → Int → Int → Int → Int → Int → Int → List (S72) → Option (Bool)
 | 0, _, _, _, _, _, _, _, _, _ => none
 | k + 1, x0, x5, x8, x9, x10, x171000, x171001, x171002, x171003 => if x10 < (x171003.length : Int) then (if x9 = x10 then (spec_l08Is.l2 k x0 x5 x8 x9 (wrap64 (x10 + 1)) x171000 x171001 x171002 x171003) else (if 0 ≤ x9 then (if x9 < (x171003.length : Int) then (if 0 ≤ x10 then ((spec_l01Holds.f k x0 ((rd_T72 x171003 x9).f0.f0) ((rd_T72 x171003 x9).f0.f1) ((rd_T72 x171003 x9).f0.f2) ((rd_T72 x171003 x10).f0.f0) ((rd_T72 x171003 x10).f0.f1) ((rd_T72 x171003 x10).f0.f2)).bind fun t186 => (if t186 = true then (some false) else (spec_l08Is.l2 k x0 x5 x8 x9 (wrap64 (x10 + 1)) x171000 x171001 x171002 x171003))) else (none)) else (none)) else (none))) else (if 0 ≤ x9 then (if x9 < (x171003.length : Int) then ((spec_l01Power.f k x0 (wrap64 (x5 - ((rd_T72 x171003 x9).f0.f0)))).bind fun t188 => (spec_l08Is.l1 k x0 x5 (wrap64 (x8 + t188)) (wrap64 (x9 + 1)) x171000 x171001 x171002 x171003)) else (none)) else (none))
end
def spec_l08Is.f (k : Nat) (a0 a1_0 a1_1 a1_2 : Int) (l1_3 : List (S72)) : Option (Bool) := (spec_l01Code.f k a0 (([(⟨a1_0, a1_1, a1_2⟩ : S31)] : List (S31)))).bind fun t174 => (if t174 = 0 then (if (l1_3.length : Int) < 1 then (spec_l08Is.j0 k a0 true a1_0 a1_1 a1_2 l1_3) else (spec_l08Is.j0 k a0 (decide ((l1_3.length : Int) > 64)) a1_0 a1_1 a1_2 l1_3)) else (spec_l08Is.j0 k a0 true a1_0 a1_1 a1_2 l1_3))
def spec_l08Is.T10 : Bool × List (List Nat × List Nat) := (true, [([], []), ([0], [0]), ([1], [1]), ([2], [2]), ([2], [2]), ([4, 2], [2, 4]), ([2], [2]), ([6, 2], [2, 6]), ([5, 7, 2], [2, 5, 7]), ([8, 2], [2, 8]), ([9, 2], [2, 9]), ([3, 10, 2, 2], [2, 3, 10]), ([2], [2]), ([2], [2]), ([13, 2], [2, 13]), ([12, 14, 11, 2], [2, 12, 14]), ([11, 15, 2], [2, 11, 15]), ([2, 16], [2, 16])])
def spec_l08Is.B10 : List Nat := [0, 1, 3, 7, 7, 23, 7, 71, 247, 503, 1015, 2047, 7, 7, 8199, 32767, 65535, 131071]
theorem spec_l08Is.tab10 : rtab .any (opsOf Try.f30 10) = spec_l08Is.T10 := by kernel_rfl
theorem spec_l08Is.bits10 : waitsOk spec_l08Is.T10.2 spec_l08Is.B10 = true := by kernel_rfl
def spec_l08Is.T20 : Bool × List (List Nat × List Nat) := (true, [([], []), ([], []), ([0, 1], [0, 1]), ([2], [2]), ([3], [3]), ([3], [3]), ([5, 3], [3, 5]), ([3], [3]), ([6, 7, 3], [3, 6, 7]), ([8, 3], [3, 8]), ([9, 3], [3, 9]), ([3], [3]), ([11, 3], [3, 11]), ([3], [3]), ([12, 13, 3], [3, 12, 13]), ([14, 3], [3, 14]), ([15, 3], [3, 15]), ([4, 10, 16, 3, 3], [3, 4, 10, 16]), ([3, 17], [3, 17])])
def spec_l08Is.B20 : List Nat := [0, 0, 3, 7, 15, 15, 47, 15, 239, 495, 1007, 15, 2063, 15, 14351, 30735, 63503, 131071, 262143]
theorem spec_l08Is.tab20 : rtab .any (opsOf Try.f30 20) = spec_l08Is.T20 := by kernel_rfl
theorem spec_l08Is.bits20 : waitsOk spec_l08Is.T20.2 spec_l08Is.B20 = true := by kernel_rfl
set_option maxHeartbeats 8000000 in
set_option maxRecDepth 100000 in
theorem spec_l08Is.calls (k : Nat) (a0 a1_0 a1_1 a1_2 : Int) (A1_3 : Option Addr) (c1_3 : Nat) (l1_3 : List (S72)) (r : Bool) (w : World) (hr1_3 : Kd.C k72 w A1_3 l1_3.length l1_3) (hc1_3 : l1_3.length ≤ c1_3) (h : spec_l08Is.f k a0 a1_0 a1_1 a1_2 l1_3 = some r) :
  Calls Try.prog 30 #[.int .i64 a0, .agg #[.int .i64 a1_0, .int .i64 a1_1, .int .i64 a1_2, .slice A1_3 l1_3.length c1_3]] w fun e w' => e = .returned (.bool r) ∧ Below w.heap.size w w' := by
 have hu34 := Try.underlying34
 have hu31 := Try.underlying31
 have hu72 := Try.underlying72
 have HR1_3 := Aside0.mk hr1_3
 have HC1_3 := Aside0.mk hc1_3
 clear hr1_3 hc1_3
 have HB := Aside0.mk (Below.refl w.heap.size w)
 unfold spec_l08Is.f at h
 have H := h
 clear h
 have HC3 := Aside0.mk H
 clear H
 go_enter Try.func30, Try.ntmps30
 go_upto_region 1 with (first | ((refine gd_ 3 ?_); (try (refine gate_guard (by rfl) ?_; dsimp only)); refine by_ 3 #[.int .i64 a1_0, .int .i64 a1_1, .int .i64 a1_2, .slice A1_3 l1_3.length c1_3] 34 HB ?_; intro gb170 hg w4 BK170 hb GW170 HB_; replace HB := HB_; clear hb hg))
 (try simp only [Act.put, lstS, lstZ, lstC])
 go_cut [28] (fun v28 wc => ∃ (kq : Nat) (x28_2 : Bool), v28 = .bool x28_2 ∧ Aside0 (spec_l08Is.j0 kq a0 x28_2 a1_0 a1_1 a1_2 l1_3 = some r) ∧ Aside0 (kq ≤ k) ∧ Aside0 (wc.heap[gb170]? = some (.cells #[.int .i64 a1_0, .int .i64 a1_1, .int .i64 a1_2, (.slice A1_3 l1_3.length c1_3)] 34 (0, 0))) ∧ Aside0 (Below w.heap.size w wc))
 case first =>
  have H := HC3.out
  clear HC3
  obtain ⟨y171, hy171⟩ : ∃ y_ : List (S31), y_ = (([(⟨a1_0, a1_1, a1_2⟩ : S31)] : List (S31))) := ⟨_, rfl⟩
  replace H : ((spec_l01Code.f k a0 y171).bind fun t174 => (if t174 = 0 then (if (l1_3.length : Int) < 1 then (spec_l08Is.j0 k a0 true a1_0 a1_1 a1_2 l1_3) else (spec_l08Is.j0 k a0 (decide ((l1_3.length : Int) > 64)) a1_0 a1_1 a1_2 l1_3)) else (spec_l08Is.j0 k a0 true a1_0 a1_1 a1_2 l1_3))) = some r := by first | (rw [hy171]; with_reducible exact H) | (have H2_ := (Option.bind_some _ _).symm.trans H; rw [hy171]; with_reducible exact H2_) | (have H2_ := (Option.bind_some _ _).symm.trans H; with_reducible exact H2_) | with_reducible exact H | (rw [hy171]; exact H) | exact H
  have Ny171 := Aside0.mk hy171
  clear hy171
  replace H := oc_ H
  obtain ⟨t174, A5, H⟩ := H
  replace H := ie_ H
  rcases H with ⟨c6b0, c6b1, H⟩ | ⟨c6, c6b0, c6b1, H⟩
  ·(first | rw [c6b0] | (simp only [i64_w, i32_w]; rw [c6b0]) | skip)
   by_cases c7 : (l1_3.length : Int) < 1
   ·rw [if_pos c7] at H
    have c7b0 : decide ((l1_3.length : Int) < 1) = true := decide_eq_true c7
    have c7b1 : decide (l1_3.length < 1) = true := decide_eq_true (by omega)
    clear c7
    have H' := Aside0.mk H
    clear H
    obtain ⟨hcz8_0, hcz8_1, hcz8_2, hcz8_3, hfz8_0, hfz8_1, hfz8_2, hfz8_3⟩ := ch4_ BK170
    go_wp2_with (first | ((refine gd_ 14 ?_); (try (refine gate_guard (by rfl) ?_; dsimp only)); refine Kd.R_lit k31 _ 31 ?hg (N := 14) ?hd (xs := ([(⟨a1_0, a1_1, a1_2⟩ : S31)] : List (S31))) (inner := [.int .i64 a1_0, .int .i64 a1_1, .int .i64 a1_2]) (ok := fun _ => True) (okp := fun _ => True) ?hr ?hp (fun _ hk => hk) trivial (Below.refl _ _) (Nat.le_refl _) (by simp) ?_; (case hd => rfl); (case hg => rfl); (case hr => first | (go_simp; done) | (go_simp; rfl)); (case hp => exact (Reps.c3 (show Kd.M k31 _ _ _ (⟨a1_0, a1_1, a1_2⟩ : S31) [.int .i64 a1_0, .int .i64 a1_1, .int .i64 a1_2] from (k31_mkM _ _ _ (⟨a1_0, a1_1, a1_2⟩ : S31) )) (Reps.none _ _))); intro v172 w9 ho10 hb hg_ hnew_; clear hg_ hnew_; (first | rw [← Ny171.out] at ho10 | (simp only [Int.reduceToNat] at ho10; rw [← Ny171.out] at ho10)); have HO173 := Aside0.mk (Kd.R_lower ho10 (below_size (bw_ HB).out)); replace BK170 := bb_ BK170 hb; replace HB := bt_ HB hb; clear hb ho10; obtain ⟨Ao11, co11, eo11⟩ := Kd.R_slice HO173.out; subst eo11) | ((refine gc_ 59 ?_); refine ge_ 15 Try.func59 #[.int .i64 a0, .slice Ao11 y171.length co11] ?_; (with_reducible refine (spec_l01Code.calls k a0 _ _ y171 t174 _ ?side1 ?side2 A5.out).mono ?_); (case side1 => exact ca_ (Kd.R_reads' HO173.out).2.2); (case side2 => exact (Kd.R_reads' HO173.out).2.1); rintro e w12 ⟨rfl, hb⟩; refine ⟨_, rfl, ?_⟩; replace HO173 := rb_ HO173 hb; replace BK170 := bb_ BK170 hb; replace HB := bt_ HB hb; (try clear hb); obtain ⟨hcz13_0, hcz13_1, hcz13_2, hcz13_3, hfz13_0, hfz13_1, hfz13_2, hfz13_3⟩ := ch4_ BK170))
    go_meet
    case rel => exact ⟨_, (true), en_, H', ⟨by first | omega | exact Nat.le_refl _⟩, bl_ BK170, bw_ HB⟩
   rw [if_neg c7] at H
   have c7b0 : decide ((l1_3.length : Int) < 1) = false := decide_eq_false c7
   have c7b1 : decide (l1_3.length < 1) = false := decide_eq_false (by omega)
   clear c7
   have H' := Aside0.mk H
   clear H
   obtain ⟨hcz14_0, hcz14_1, hcz14_2, hcz14_3, hfz14_0, hfz14_1, hfz14_2, hfz14_3⟩ := ch4_ BK170
   go_wp2_with (first | ((refine gd_ 14 ?_); (try (refine gate_guard (by rfl) ?_; dsimp only)); refine Kd.R_lit k31 _ 31 ?hg (N := 14) ?hd (xs := ([(⟨a1_0, a1_1, a1_2⟩ : S31)] : List (S31))) (inner := [.int .i64 a1_0, .int .i64 a1_1, .int .i64 a1_2]) (ok := fun _ => True) (okp := fun _ => True) ?hr ?hp (fun _ hk => hk) trivial (Below.refl _ _) (Nat.le_refl _) (by simp) ?_; (case hd => rfl); (case hg => rfl); (case hr => first | (go_simp; done) | (go_simp; rfl)); (case hp => exact (Reps.c3 (show Kd.M k31 _ _ _ (⟨a1_0, a1_1, a1_2⟩ : S31) [.int .i64 a1_0, .int .i64 a1_1, .int .i64 a1_2] from (k31_mkM _ _ _ (⟨a1_0, a1_1, a1_2⟩ : S31) )) (Reps.none _ _))); intro v172 w15 ho16 hb hg_ hnew_; clear hg_ hnew_; (first | rw [← Ny171.out] at ho16 | (simp only [Int.reduceToNat] at ho16; rw [← Ny171.out] at ho16)); have HO173 := Aside0.mk (Kd.R_lower ho16 (below_size (bw_ HB).out)); replace BK170 := bb_ BK170 hb; replace HB := bt_ HB hb; clear hb ho16; obtain ⟨Ao17, co17, eo17⟩ := Kd.R_slice HO173.out; subst eo17) | ((refine gc_ 59 ?_); refine ge_ 15 Try.func59 #[.int .i64 a0, .slice Ao17 y171.length co17] ?_; (with_reducible refine (spec_l01Code.calls k a0 _ _ y171 t174 _ ?side1 ?side2 A5.out).mono ?_); (case side1 => exact ca_ (Kd.R_reads' HO173.out).2.2); (case side2 => exact (Kd.R_reads' HO173.out).2.1); rintro e w18 ⟨rfl, hb⟩; refine ⟨_, rfl, ?_⟩; replace HO173 := rb_ HO173 hb; replace BK170 := bb_ BK170 hb; replace HB := bt_ HB hb; (try clear hb); obtain ⟨hcz19_0, hcz19_1, hcz19_2, hcz19_3, hfz19_0, hfz19_1, hfz19_2, hfz19_3⟩ := ch4_ BK170))
   go_meet
   case rel => exact ⟨_, (decide ((l1_3.length : Int) > 64)), en_, H', ⟨by first | omega | exact Nat.le_refl _⟩, bl_ BK170, bw_ HB⟩
  (first | rw [c6b0] | (simp only [i64_w, i32_w]; rw [c6b0]) | skip)
  have H' := Aside0.mk H
  clear H
  obtain ⟨hcz20_0, hcz20_1, hcz20_2, hcz20_3, hfz20_0, hfz20_1, hfz20_2, hfz20_3⟩ := ch4_ BK170
  go_wp2_with (first | ((refine gd_ 14 ?_); (try (refine gate_guard (by rfl) ?_; dsimp only)); refine Kd.R_lit k31 _ 31 ?hg (N := 14) ?hd (xs := ([(⟨a1_0, a1_1, a1_2⟩ : S31)] : List (S31))) (inner := [.int .i64 a1_0, .int .i64 a1_1, .int .i64 a1_2]) (ok := fun _ => True) (okp := fun _ => True) ?hr ?hp (fun _ hk => hk) trivial (Below.refl _ _) (Nat.le_refl _) (by simp) ?_; (case hd => rfl); (case hg => rfl); (case hr => first | (go_simp; done) | (go_simp; rfl)); (case hp => exact (Reps.c3 (show Kd.M k31 _ _ _ (⟨a1_0, a1_1, a1_2⟩ : S31) [.int .i64 a1_0, .int .i64 a1_1, .int .i64 a1_2] from (k31_mkM _ _ _ (⟨a1_0, a1_1, a1_2⟩ : S31) )) (Reps.none _ _))); intro v172 w21 ho22 hb hg_ hnew_; clear hg_ hnew_; (first | rw [← Ny171.out] at ho22 | (simp only [Int.reduceToNat] at ho22; rw [← Ny171.out] at ho22)); have HO173 := Aside0.mk (Kd.R_lower ho22 (below_size (bw_ HB).out)); replace BK170 := bb_ BK170 hb; replace HB := bt_ HB hb; clear hb ho22; obtain ⟨Ao23, co23, eo23⟩ := Kd.R_slice HO173.out; subst eo23) | ((refine gc_ 59 ?_); refine ge_ 15 Try.func59 #[.int .i64 a0, .slice Ao23 y171.length co23] ?_; (with_reducible refine (spec_l01Code.calls k a0 _ _ y171 t174 _ ?side1 ?side2 A5.out).mono ?_); (case side1 => exact ca_ (Kd.R_reads' HO173.out).2.2); (case side2 => exact (Kd.R_reads' HO173.out).2.1); rintro e w24 ⟨rfl, hb⟩; refine ⟨_, rfl, ?_⟩; replace HO173 := rb_ HO173 hb; replace BK170 := bb_ BK170 hb; replace HB := bt_ HB hb; (try clear hb)))
  go_meet
  case rel => exact ⟨_, (true), en_, H', ⟨by first | omega | exact Nat.le_refl _⟩, bl_ BK170, bw_ HB⟩
 clear HC3
 try clear c3
 try clear c6
 try clear c6b0
 try clear c6b1
 try clear c7
 try clear c7b0
 try clear c7b1
 try clear hcz13_0 hcz13_1 hcz13_2 hcz13_3
 try clear hcz14_0 hcz14_1 hcz14_2 hcz14_3
 try clear hcz19_0 hcz19_1 hcz19_2 hcz19_3
 try clear hcz20_0 hcz20_1 hcz20_2 hcz20_3
 try clear hcz8_0 hcz8_1 hcz8_2 hcz8_3
 try clear hfz13_0 hfz13_1 hfz13_2 hfz13_3
 try clear hfz14_0 hfz14_1 hfz14_2 hfz14_3
 try clear hfz19_0 hfz19_1 hfz19_2 hfz19_3
 try clear hfz20_0 hfz20_1 hfz20_2 hfz20_3
 try clear hfz8_0 hfz8_1 hfz8_2 hfz8_3
 obtain ⟨kq, x28_2, rfl, HA, HJ2, BK170, HB⟩ := hcut
 cases kq with
 | zero => exact absurd HA.out (by simp [spec_l08Is.j0])
 | succ kj2 =>
  have H := HA.out
  clear HA
  simp only [spec_l08Is.j0] at H
  replace H := ib_ H
  rcases H with ⟨rfl, H⟩ | ⟨rfl, H⟩
  ·obtain rfl := si_ H
   go_wp2
   go_ret
   exact ⟨es_, (bw_ HB).out⟩
  have H' := Aside0.mk H
  clear H
  obtain ⟨hcz26_0, hcz26_1, hcz26_2, hcz26_3, hfz26_0, hfz26_1, hfz26_2, hfz26_3⟩ := ch4_ BK170
  go_wp2
  go_loopg [5, 6] kj2 (fun kq v5 v6 w' => ∃ (x5_2 : Int) (x6_2 : Int), v5 = .int .i64 x5_2 ∧ v6 = .int .i64 x6_2 ∧ Aside0 (spec_l08Is.l0 kq a0 x5_2 x6_2 a1_0 a1_1 a1_2 l1_3 = some r) ∧ Aside0 (kq ≤ kj2) ∧ Aside0 (w'.heap[gb170]? = some (.cells #[.int .i64 a1_0, .int .i64 a1_1, .int .i64 a1_2, (.slice A1_3 l1_3.length c1_3)] 34 (0, 0))) ∧ Aside0 (Below w.heap.size w w'))
  case atStart => exact ⟨(a1_0), (0), en_, en_, H', ⟨Nat.le_refl _⟩, bl_ BK170, bw_ HB⟩
  clear H'
  try clear c3
  try clear c6
  try clear c6b0
  try clear c6b1
  try clear c7
  try clear c7b0
  try clear c7b1
  try clear hcz13_0 hcz13_1 hcz13_2 hcz13_3
  try clear hcz14_0 hcz14_1 hcz14_2 hcz14_3
  try clear hcz19_0 hcz19_1 hcz19_2 hcz19_3
  try clear hcz20_0 hcz20_1 hcz20_2 hcz20_3
  try clear hcz26_0 hcz26_1 hcz26_2 hcz26_3
  try clear hcz8_0 hcz8_1 hcz8_2 hcz8_3
  try clear hfz13_0 hfz13_1 hfz13_2 hfz13_3
  try clear hfz14_0 hfz14_1 hfz14_2 hfz14_3
  try clear hfz19_0 hfz19_1 hfz19_2 hfz19_3
  try clear hfz20_0 hfz20_1 hfz20_2 hfz20_3
  try clear hfz26_0 hfz26_1 hfz26_2 hfz26_3
  try clear hfz8_0 hfz8_1 hfz8_2 hfz8_3
  obtain ⟨x5_2, x6_2, rfl, rfl, HA, HK2, BK170, HB⟩ := hrel
  cases gk with
  | zero => exact absurd HA.out (by simp [spec_l08Is.l0])
  | succ k2 =>
   have H := HA.out
   clear HA
   simp only [spec_l08Is.l0] at H
   replace H := il_ H
   rcases H with ⟨c27b0, H⟩ | ⟨c27b0, H⟩
   ·replace H := imn_ H
    obtain ⟨c28b0, H⟩ := H
    have HC29 := Aside0.mk H
    clear H
    obtain ⟨hcz30_0, hcz30_1, hcz30_2, hcz30_3, hfz30_0, hfz30_1, hfz30_2, hfz30_3⟩ := ch4_ BK170
    have p175 : 0 ≤ (x6_2 : Int) := od_
    have q175 : x6_2 < (l1_3.length : Int) := od_
    obtain ⟨ad175, e175, hx175_0, hx175_1, hx175_2, hx175_3⟩ := at_T72 HR1_3.out x6_2 p175 q175
    cases e175
    replace hx175_0 := clTr HB.out hx175_0
    replace hx175_1 := clTr HB.out hx175_1
    replace hx175_2 := clTr HB.out hx175_2
    replace hx175_3 := clTr HB.out hx175_3
    replace p175 := eq_true p175
    replace q175 := eq_true q175
    go_upto_region 8 with (first | ((refine gd_ 7 ?_); (try (refine gate_guard (by rfl) ?_; dsimp only)); refine by_ 7 #[.int .i64 0, .int .i64 0, .int .i64 0, .int .i64 0] 72 HB ?_; intro gb176 hg w31 BK176 hb GW176 HB_; have NB170_176 := bm_ BK170 hg; have NB176_170 := bn_ BK170 hg; replace BK170 := bb_ BK170 hb; replace HB := HB_; clear hb hg; have hnb32 := NB176_170.out; have hnc32 := NB170_176.out; obtain ⟨hcz33_0, hcz33_1, hcz33_2, hcz33_3, hfz33_0, hfz33_1, hfz33_2, hfz33_3⟩ := ch4_ BK176))
    (try simp only [Act.put, lstS, lstZ, lstC])
    go_cut [63] (fun v63 wc => ∃ (kq : Nat) (x63_28 : Bool), v63 = .bool x63_28 ∧ Aside0 (spec_l08Is.j2 kq a0 x5_2 x6_2 x63_28 a1_0 a1_1 a1_2 l1_3 ((rd_T72 l1_3 x6_2).f0.f0) ((rd_T72 l1_3 x6_2).f0.f1) ((rd_T72 l1_3 x6_2).f0.f2) ((rd_T72 l1_3 x6_2).f1) = some r) ∧ Aside0 (kq ≤ k2) ∧ Aside0 (wc.heap[gb170]? = some (.cells #[.int .i64 a1_0, .int .i64 a1_1, .int .i64 a1_2, (.slice (some ad175) l1_3.length c1_3)] 34 (0, 0))) ∧ Aside0 (wc.heap[gb176]? = some (.cells #[.int .i64 ((rd_T72 l1_3 x6_2).f0.f0), .int .i64 ((rd_T72 l1_3 x6_2).f0.f1), .int .i64 ((rd_T72 l1_3 x6_2).f0.f2), .int .i64 ((rd_T72 l1_3 x6_2).f1)] 72 (0, 0))) ∧ Aside0 (Below w.heap.size w wc))
    case first =>
     have H := HC29.out
     clear HC29
     replace H := oc_ H
     obtain ⟨t177, A34, H⟩ := H
     replace H := ib_ H
     rcases H with ⟨rfl, H⟩ | ⟨rfl, H⟩
     ·replace H := oc_ H
      obtain ⟨t178, A36, H⟩ := H
      replace H := ib_ H
      rcases H with ⟨rfl, H⟩ | ⟨rfl, H⟩
      ·replace H := oc_ H
       obtain ⟨t179, A38, H⟩ := H
       have H' := Aside0.mk H
       clear H
       have hnb39 := NB176_170.out
       have hnc39 := NB170_176.out
       obtain ⟨hcz40_0, hcz40_1, hcz40_2, hcz40_3, hfz40_0, hfz40_1, hfz40_2, hfz40_3⟩ := ch4_ BK176
       go_wp2_with (first | ((refine gc_ 60 ?_); refine ge_ 47 Try.func60 #[.int .i64 a0, .agg #[.int .i64 ((rd_T72 l1_3 x6_2).f0.f0), .int .i64 ((rd_T72 l1_3 x6_2).f0.f1), .int .i64 ((rd_T72 l1_3 x6_2).f0.f2)]] ?_; (with_reducible refine (spec_l01Is.calls k2 a0 ((rd_T72 l1_3 x6_2).f0.f0) ((rd_T72 l1_3 x6_2).f0.f1) ((rd_T72 l1_3 x6_2).f0.f2) true _ A34.out).mono ?_); rintro e w41 ⟨rfl, hb⟩; refine ⟨_, rfl, ?_⟩; replace BK170 := fb_ BK170 NB170_176 hb; replace BK176 := Aside0.mk (blk_below (g := gb176) (o := .cells #[.int .i64 ((rd_T72 l1_3 x6_2).f0.f0), .int .i64 ((rd_T72 l1_3 x6_2).f0.f1), .int .i64 ((rd_T72 l1_3 x6_2).f0.f2), .int .i64 ((rd_T72 l1_3 x6_2).f1)] 72 (0, 0)) (bp_ BK176).out hb); replace HB := bt_ HB hb; (try clear hb); obtain ⟨hcz42_0, hcz42_1, hcz42_2, hcz42_3, hfz42_0, hfz42_1, hfz42_2, hfz42_3⟩ := ch4_ BK170; obtain ⟨hcz43_0, hcz43_1, hcz43_2, hcz43_3, hfz43_0, hfz43_1, hfz43_2, hfz43_3⟩ := ch4_ BK176) | (go_at_call 41; (with_reducible refine (spec_l01Holds.calls k2 a0 a1_0 a1_1 a1_2 ((rd_T72 l1_3 x6_2).f0.f0) ((rd_T72 l1_3 x6_2).f0.f1) ((rd_T72 l1_3 x6_2).f0.f2) true _ A36.out).mono ?_); rintro e w44 ⟨rfl, hb⟩; replace BK170 := bb_ BK170 hb; replace BK176 := bb_ BK176 hb; replace HB := bt_ HB hb; (try clear hb); obtain ⟨hcz45_0, hcz45_1, hcz45_2, hcz45_3, hfz45_0, hfz45_1, hfz45_2, hfz45_3⟩ := ch4_ BK176) | (go_at_call 42; (with_reducible refine (spec_l01In.calls ((rd_T72 l1_3 x6_2).f1) (-1000000) 1000000 t179 _ A38.out).mono ?_); rintro e w' ⟨rfl, ⟨nd, rfl⟩⟩))
       go_meet
       case rel => exact ⟨_, (!t179), en_, H', ⟨by have := HJ2.out; have := HK2.out; first | omega | exact Nat.le_refl _⟩, bl_ BK170, bl_ BK176, bw_ HB⟩
      have H' := Aside0.mk H
      clear H
      have hnb46 := NB176_170.out
      have hnc46 := NB170_176.out
      obtain ⟨hcz47_0, hcz47_1, hcz47_2, hcz47_3, hfz47_0, hfz47_1, hfz47_2, hfz47_3⟩ := ch4_ BK176
      go_wp2_with (first | ((refine gc_ 60 ?_); refine ge_ 47 Try.func60 #[.int .i64 a0, .agg #[.int .i64 ((rd_T72 l1_3 x6_2).f0.f0), .int .i64 ((rd_T72 l1_3 x6_2).f0.f1), .int .i64 ((rd_T72 l1_3 x6_2).f0.f2)]] ?_; (with_reducible refine (spec_l01Is.calls k2 a0 ((rd_T72 l1_3 x6_2).f0.f0) ((rd_T72 l1_3 x6_2).f0.f1) ((rd_T72 l1_3 x6_2).f0.f2) true _ A34.out).mono ?_); rintro e w48 ⟨rfl, hb⟩; refine ⟨_, rfl, ?_⟩; replace BK170 := fb_ BK170 NB170_176 hb; replace BK176 := Aside0.mk (blk_below (g := gb176) (o := .cells #[.int .i64 ((rd_T72 l1_3 x6_2).f0.f0), .int .i64 ((rd_T72 l1_3 x6_2).f0.f1), .int .i64 ((rd_T72 l1_3 x6_2).f0.f2), .int .i64 ((rd_T72 l1_3 x6_2).f1)] 72 (0, 0)) (bp_ BK176).out hb); replace HB := bt_ HB hb; (try clear hb); obtain ⟨hcz49_0, hcz49_1, hcz49_2, hcz49_3, hfz49_0, hfz49_1, hfz49_2, hfz49_3⟩ := ch4_ BK170; obtain ⟨hcz50_0, hcz50_1, hcz50_2, hcz50_3, hfz50_0, hfz50_1, hfz50_2, hfz50_3⟩ := ch4_ BK176) | (go_at_call 41; (with_reducible refine (spec_l01Holds.calls k2 a0 a1_0 a1_1 a1_2 ((rd_T72 l1_3 x6_2).f0.f0) ((rd_T72 l1_3 x6_2).f0.f1) ((rd_T72 l1_3 x6_2).f0.f2) false _ A36.out).mono ?_); rintro e w51 ⟨rfl, hb⟩; replace BK170 := bb_ BK170 hb; replace BK176 := bb_ BK176 hb; replace HB := bt_ HB hb; (try clear hb)))
      go_meet
      case rel => exact ⟨_, (true), en_, H', ⟨by have := HJ2.out; have := HK2.out; first | omega | exact Nat.le_refl _⟩, bl_ BK170, bl_ BK176, bw_ HB⟩
     have H' := Aside0.mk H
     clear H
     have hnb52 := NB176_170.out
     have hnc52 := NB170_176.out
     obtain ⟨hcz53_0, hcz53_1, hcz53_2, hcz53_3, hfz53_0, hfz53_1, hfz53_2, hfz53_3⟩ := ch4_ BK176
     go_wp2_with (first | ((refine gc_ 60 ?_); refine ge_ 47 Try.func60 #[.int .i64 a0, .agg #[.int .i64 ((rd_T72 l1_3 x6_2).f0.f0), .int .i64 ((rd_T72 l1_3 x6_2).f0.f1), .int .i64 ((rd_T72 l1_3 x6_2).f0.f2)]] ?_; (with_reducible refine (spec_l01Is.calls k2 a0 ((rd_T72 l1_3 x6_2).f0.f0) ((rd_T72 l1_3 x6_2).f0.f1) ((rd_T72 l1_3 x6_2).f0.f2) false _ A34.out).mono ?_); rintro e w54 ⟨rfl, hb⟩; refine ⟨_, rfl, ?_⟩; replace BK170 := fb_ BK170 NB170_176 hb; replace BK176 := Aside0.mk (blk_below (g := gb176) (o := .cells #[.int .i64 ((rd_T72 l1_3 x6_2).f0.f0), .int .i64 ((rd_T72 l1_3 x6_2).f0.f1), .int .i64 ((rd_T72 l1_3 x6_2).f0.f2), .int .i64 ((rd_T72 l1_3 x6_2).f1)] 72 (0, 0)) (bp_ BK176).out hb); replace HB := bt_ HB hb; (try clear hb)))
     go_meet
     case rel => exact ⟨_, (true), en_, H', ⟨by have := HJ2.out; have := HK2.out; first | omega | exact Nat.le_refl _⟩, bl_ BK170, bl_ BK176, bw_ HB⟩
    clear HC29
    try clear c3
    try clear c6
    try clear c6b0
    try clear c6b1
    try clear c7
    try clear c7b0
    try clear c7b1
    try clear c27b0
    try clear c28b0
    try clear hcz13_0 hcz13_1 hcz13_2 hcz13_3
    try clear hcz14_0 hcz14_1 hcz14_2 hcz14_3
    try clear hcz19_0 hcz19_1 hcz19_2 hcz19_3
    try clear hcz20_0 hcz20_1 hcz20_2 hcz20_3
    try clear hcz26_0 hcz26_1 hcz26_2 hcz26_3
    try clear hcz30_0 hcz30_1 hcz30_2 hcz30_3
    try clear hcz33_0 hcz33_1 hcz33_2 hcz33_3
    try clear hcz40_0 hcz40_1 hcz40_2 hcz40_3
    try clear hcz42_0 hcz42_1 hcz42_2 hcz42_3
    try clear hcz43_0 hcz43_1 hcz43_2 hcz43_3
    try clear hcz45_0 hcz45_1 hcz45_2 hcz45_3
    try clear hcz47_0 hcz47_1 hcz47_2 hcz47_3
    try clear hcz49_0 hcz49_1 hcz49_2 hcz49_3
    try clear hcz50_0 hcz50_1 hcz50_2 hcz50_3
    try clear hcz53_0 hcz53_1 hcz53_2 hcz53_3
    try clear hcz8_0 hcz8_1 hcz8_2 hcz8_3
    try clear hfz13_0 hfz13_1 hfz13_2 hfz13_3
    try clear hfz14_0 hfz14_1 hfz14_2 hfz14_3
    try clear hfz19_0 hfz19_1 hfz19_2 hfz19_3
    try clear hfz20_0 hfz20_1 hfz20_2 hfz20_3
    try clear hfz26_0 hfz26_1 hfz26_2 hfz26_3
    try clear hfz30_0 hfz30_1 hfz30_2 hfz30_3
    try clear hfz33_0 hfz33_1 hfz33_2 hfz33_3
    try clear hfz40_0 hfz40_1 hfz40_2 hfz40_3
    try clear hfz42_0 hfz42_1 hfz42_2 hfz42_3
    try clear hfz43_0 hfz43_1 hfz43_2 hfz43_3
    try clear hfz45_0 hfz45_1 hfz45_2 hfz45_3
    try clear hfz47_0 hfz47_1 hfz47_2 hfz47_3
    try clear hfz49_0 hfz49_1 hfz49_2 hfz49_3
    try clear hfz50_0 hfz50_1 hfz50_2 hfz50_3
    try clear hfz53_0 hfz53_1 hfz53_2 hfz53_3
    try clear hfz8_0 hfz8_1 hfz8_2 hfz8_3
    try clear hx175_0
    try clear hx175_1
    try clear hx175_2
    try clear hx175_3
    try clear p175
    try clear q175
    obtain ⟨kq, x63_28, rfl, HA, HJ28, BK170, BK176, HB⟩ := hcut
    cases kq with
    | zero => exact absurd HA.out (by simp [spec_l08Is.j2])
    | succ kj28 =>
     have H := HA.out
     clear HA
     simp only [spec_l08Is.j2] at H
     replace H := ib_ H
     rcases H with ⟨rfl, H⟩ | ⟨rfl, H⟩
     ·obtain rfl := si_ H
      go_wp2
      go_ret
      exact ⟨es_, (bw_ HB).out⟩
     replace H := ig_ H
     rcases H with ⟨c56b0, H⟩ | ⟨c56b0, H⟩
     ·obtain ⟨ji57, hji57⟩ : ∃ j_ : Int, (wrap64 (x6_2 - 1)) = j_ := ⟨_, rfl⟩
      replace H : (if 0 ≤ (ji57) then (if (ji57) < (l1_3.length : Int) then ((spec_l08Key.f kj28 a0 ((rd_T72 l1_3 (ji57)).f0.f0) ((rd_T72 l1_3 (ji57)).f0.f1) ((rd_T72 l1_3 (ji57)).f0.f2)).bind fun t181 => ((spec_l08Key.f kj28 a0 ((rd_T72 l1_3 x6_2).f0.f0) ((rd_T72 l1_3 x6_2).f0.f1) ((rd_T72 l1_3 x6_2).f0.f2)).bind fun t182 => (if t181 ≥ t182 then (some false) else (spec_l08Is.l0 kj28 a0 (mx x5_2 ((rd_T72 l1_3 x6_2).f0.f0)) (wrap64 (x6_2 + 1)) a1_0 a1_1 a1_2 l1_3)))) else (none)) else (none)) = some r := by first | (rw [hji57] at H; exact H) | (simp only [hji57] at H ⊢; exact H)
      have hji57w : (IntKind.i64.wrap (x6_2 - 1)) = ji57 := (i64_w _).trans hji57
      replace H := imn_ H
      obtain ⟨c58b0, H⟩ := H
      replace H := iln_ H
      obtain ⟨c59b0, H⟩ := H
      replace H := oc_ H
      obtain ⟨t181, A60, H⟩ := H
      replace H := oc_ H
      obtain ⟨t182, A61, H⟩ := H
      replace H := in_ H
      rcases H with ⟨c62b0, H⟩ | ⟨c62b0, H⟩
      ·obtain rfl := si_ H
       try go_wp2
       replace BK170 := bd_ BK170
       replace BK176 := bd_ BK176
       replace HB := be_ HB
       have p180 : 0 ≤ ((ji57) : Int) := od_
       have q180 : (ji57) < (l1_3.length : Int) := od_
       obtain ⟨ad180, e180, hx180_0, hx180_1, hx180_2, hx180_3⟩ := at_T72 HR1_3.out (ji57) p180 q180
       have hw180_3 := hx180_3
       have hw180_2 := hx180_2
       have hw180_1 := hx180_1
       have hw180_0 := hx180_0
       obtain rfl : ad175 = ad180 := (by injection e180)
       replace hx180_0 := clTr HB.out hx180_0
       replace hx180_1 := clTr HB.out hx180_1
       replace hx180_2 := clTr HB.out hx180_2
       replace hx180_3 := clTr HB.out hx180_3
       replace p180 := eq_true p180
       replace q180 := eq_true q180
       refine start_ (n := 18) (S := fun w' => w'.cell? ⟨gb170, 0, none⟩ = some (.int .i64 a1_0) ∧ w'.cell? ⟨gb170, 1, none⟩ = some (.int .i64 a1_1) ∧ w'.cell? ⟨gb170, 2, none⟩ = some (.int .i64 a1_2) ∧ w'.cell? ⟨gb170, 3, none⟩ = some (.slice (some ad175) l1_3.length c1_3) ∧ w'.cell? ⟨gb176, 0, none⟩ = some (.int .i64 ((rd_T72 l1_3 x6_2).f0.f0)) ∧ w'.cell? ⟨gb176, 1, none⟩ = some (.int .i64 ((rd_T72 l1_3 x6_2).f0.f1)) ∧ w'.cell? ⟨gb176, 2, none⟩ = some (.int .i64 ((rd_T72 l1_3 x6_2).f0.f2)) ∧ w'.cell? ⟨gb176, 3, none⟩ = some (.int .i64 ((rd_T72 l1_3 x6_2).f1)) ∧ w'.cell? (ad175.add (((ji57)).toNat * 4)) = some (.int .i64 ((rd_T72 l1_3 (ji57)).f0.f0)) ∧ w'.cell? ⟨(ad175.add (((ji57)).toNat * 4)).block, (ad175.add (((ji57)).toNat * 4)).off + 1, none⟩ = some (.int .i64 ((rd_T72 l1_3 (ji57)).f0.f1)) ∧ w'.cell? ⟨(ad175.add (((ji57)).toNat * 4)).block, (ad175.add (((ji57)).toNat * 4)).off + 2, none⟩ = some (.int .i64 ((rd_T72 l1_3 (ji57)).f0.f2)) ∧ w'.cell? ⟨(ad175.add (((ji57)).toNat * 4)).block, (ad175.add (((ji57)).toNat * 4)).off + 3, none⟩ = some (.int .i64 ((rd_T72 l1_3 (ji57)).f1))) (ds := []) (bv_ 18 0) (by kernel_rfl) rfl rfl ⟨cz_ BK170 0, cz_ BK170 1, cz_ BK170 2, cz_ BK170 3, cz_ BK176 0, cz_ BK176 1, cz_ BK176 2, cz_ BK176 3, (clTr HB.out hw180_0 :), (clTr HB.out hw180_1 :), (clTr HB.out hw180_2 :), (clTr HB.out hw180_3 :)⟩ (fun hHeld => ?_); refine with_tabW spec_l08Is.tab10 spec_l08Is.bits10 (fun HT_ HW_ => ?_)
       generalize wc.drew = w63 at BK170 BK176 HB hx180_0 hx180_1 hx180_2 hx180_3 hHeld ⊢
       refine px_ HT_ 0 64 1 ?_
       refine px_ HT_ 1 65 3 ?_
       refine px_ HT_ 2 66 7 ?_
       refine px_ HT_ 3 67 15 ?_
       refine px_ HT_ 4 68 31 ?_
       refine px_ HT_ 6 70 95 ?_
       refine px_ HT_ 7 71 223 ?_
       refine px_ HT_ 12 76 4319 ?_
       refine px_ HT_ 13 77 12511 ?_
       refine ta_ HT_ HW_ 5 (some 69) (bv_ 18 12543) hHeld ?_ (hy := by rintro w' ⟨s0, s1, s2, s3, s4, s5, s6, s7, s8, s9, s10, s11⟩; go_simp; with_reducible rfl)
       refine px_ HT_ 8 72 12799 ?_
       refine px_ HT_ 9 73 13311 ?_
       refine ta_ HT_ HW_ 10 (some 74) (bv_ 18 14335) hHeld ?_ (hy := by rintro w' ⟨s0, s1, s2, s3, s4, s5, s6, s7, s8, s9, s10, s11⟩; go_simp; with_reducible rfl)
       refine ta_ HT_ HW_ 14 (some 78) (bv_ 18 30719) hHeld ?_ (hy := by rintro w' ⟨s0, s1, s2, s3, s4, s5, s6, s7, s8, s9, s10, s11⟩; go_simp; with_reducible rfl)
       refine on_ HT_ 11 (some 75) (bv_ 18 32767) (fun K hK => ?_)
       refine gs_ Try.func67 #[.int .i64 a0, .agg #[.int .i64 ((rd_T72 l1_3 (ji57)).f0.f0), .int .i64 ((rd_T72 l1_3 (ji57)).f0.f1), .int .i64 ((rd_T72 l1_3 (ji57)).f0.f2)]] ?_ (hargs := by (try simp only [List.map_toArray, List.map_cons, List.map_nil]); first | done | (simp only [hji57]; rfl) | rfl | (simp only [List.length_drop, List.length_take]; rfl))
       with_reducible refine (spec_l08Key.calls kj28 a0 ((rd_T72 l1_3 (ji57)).f0.f0) ((rd_T72 l1_3 (ji57)).f0.f1) ((rd_T72 l1_3 (ji57)).f0.f2) t181 _ A60.out).mono ?_
       rintro e w64 ⟨rfl, hb⟩
       refine ⟨_, rfl, ?_⟩
       replace BK170 := bb_ BK170 hb
       replace BK176 := bb_ BK176 hb
       replace HB := bt_ HB hb
       try clear hb
       refine hK.out _ _ ⟨cz_ BK170 0, cz_ BK170 1, cz_ BK170 2, cz_ BK170 3, cz_ BK176 0, cz_ BK176 1, cz_ BK176 2, cz_ BK176 3, (clTr HB.out hw180_0 :), (clTr HB.out hw180_1 :), (clTr HB.out hw180_2 :), (clTr HB.out hw180_3 :)⟩ (fun hHeld => ?_)
       clear hK K
       refine nm_ (some 75) ?_
       refine on_ HT_ 15 (some 79) (bv_ 18 65535) (fun K hK => ?_)
       refine gs_ Try.func67 #[.int .i64 a0, .agg #[.int .i64 ((rd_T72 l1_3 x6_2).f0.f0), .int .i64 ((rd_T72 l1_3 x6_2).f0.f1), .int .i64 ((rd_T72 l1_3 x6_2).f0.f2)]] ?_
       with_reducible refine (spec_l08Key.calls kj28 a0 ((rd_T72 l1_3 x6_2).f0.f0) ((rd_T72 l1_3 x6_2).f0.f1) ((rd_T72 l1_3 x6_2).f0.f2) t182 _ A61.out).mono ?_
       rintro e w65 ⟨rfl, hb⟩
       refine ⟨_, rfl, ?_⟩
       replace BK170 := bb_ BK170 hb
       replace BK176 := bb_ BK176 hb
       replace HB := bt_ HB hb
       try clear hb
       refine hK.out _ _ ⟨cz_ BK170 0, cz_ BK170 1, cz_ BK170 2, cz_ BK170 3, cz_ BK176 0, cz_ BK176 1, cz_ BK176 2, cz_ BK176 3, (clTr HB.out hw180_0 :), (clTr HB.out hw180_1 :), (clTr HB.out hw180_2 :), (clTr HB.out hw180_3 :)⟩ (fun hHeld => ?_)
       clear hK K
       refine nm_ (some 79) ?_
       refine px_ HT_ 16 80 131071 ?_
       refine px_ HT_ 17 81 262143 ?_
       refine done_ (done_of HT_.out (by kernel_rfl)) ?_
       try go_wp2
       go_ret
       exact ⟨by first | rfl | (simp [errW_none, errW_some] <;> rfl) | (simp only [← hji57]; first | rfl | (simp [errW_none, errW_some] <;> rfl)) | (simp [*, errW_none, errW_some] <;> rfl), (bw_ HB).out⟩
      obtain ⟨ji66, hji66⟩ : ∃ j_ : Int, (mx x5_2 ((rd_T72 l1_3 x6_2).f0.f0)) = j_ := ⟨_, rfl⟩
      replace H : (spec_l08Is.l0 kj28 a0 ji66 (wrap64 (x6_2 + 1)) a1_0 a1_1 a1_2 l1_3) = some r := by first | (rw [hji66] at H; exact H) | (simp only [hji66] at H ⊢; exact H)
      (try rw [hji66] at A60)
      (try rw [hji66] at A61)
      have hji66_ : (if x5_2 < ((rd_T72 l1_3 x6_2).f0.f0) then ((rd_T72 l1_3 x6_2).f0.f0) else x5_2) = ji66 := hji66
      have H' := Aside0.mk H
      clear H
      try go_wp2
      replace BK170 := bd_ BK170
      replace BK176 := bd_ BK176
      replace HB := be_ HB
      have p180 : 0 ≤ ((ji57) : Int) := od_
      have q180 : (ji57) < (l1_3.length : Int) := od_
      obtain ⟨ad180, e180, hx180_0, hx180_1, hx180_2, hx180_3⟩ := at_T72 HR1_3.out (ji57) p180 q180
      have hw180_3 := hx180_3
      have hw180_2 := hx180_2
      have hw180_1 := hx180_1
      have hw180_0 := hx180_0
      obtain rfl : ad175 = ad180 := (by injection e180)
      replace hx180_0 := clTr HB.out hx180_0
      replace hx180_1 := clTr HB.out hx180_1
      replace hx180_2 := clTr HB.out hx180_2
      replace hx180_3 := clTr HB.out hx180_3
      replace p180 := eq_true p180
      replace q180 := eq_true q180
      refine start_ (n := 18) (S := fun w' => w'.cell? ⟨gb170, 0, none⟩ = some (.int .i64 a1_0) ∧ w'.cell? ⟨gb170, 1, none⟩ = some (.int .i64 a1_1) ∧ w'.cell? ⟨gb170, 2, none⟩ = some (.int .i64 a1_2) ∧ w'.cell? ⟨gb170, 3, none⟩ = some (.slice (some ad175) l1_3.length c1_3) ∧ w'.cell? ⟨gb176, 0, none⟩ = some (.int .i64 ((rd_T72 l1_3 x6_2).f0.f0)) ∧ w'.cell? ⟨gb176, 1, none⟩ = some (.int .i64 ((rd_T72 l1_3 x6_2).f0.f1)) ∧ w'.cell? ⟨gb176, 2, none⟩ = some (.int .i64 ((rd_T72 l1_3 x6_2).f0.f2)) ∧ w'.cell? ⟨gb176, 3, none⟩ = some (.int .i64 ((rd_T72 l1_3 x6_2).f1)) ∧ w'.cell? (ad175.add (((ji57)).toNat * 4)) = some (.int .i64 ((rd_T72 l1_3 (ji57)).f0.f0)) ∧ w'.cell? ⟨(ad175.add (((ji57)).toNat * 4)).block, (ad175.add (((ji57)).toNat * 4)).off + 1, none⟩ = some (.int .i64 ((rd_T72 l1_3 (ji57)).f0.f1)) ∧ w'.cell? ⟨(ad175.add (((ji57)).toNat * 4)).block, (ad175.add (((ji57)).toNat * 4)).off + 2, none⟩ = some (.int .i64 ((rd_T72 l1_3 (ji57)).f0.f2)) ∧ w'.cell? ⟨(ad175.add (((ji57)).toNat * 4)).block, (ad175.add (((ji57)).toNat * 4)).off + 3, none⟩ = some (.int .i64 ((rd_T72 l1_3 (ji57)).f1))) (ds := []) (bv_ 18 0) (by kernel_rfl) rfl rfl ⟨cz_ BK170 0, cz_ BK170 1, cz_ BK170 2, cz_ BK170 3, cz_ BK176 0, cz_ BK176 1, cz_ BK176 2, cz_ BK176 3, (clTr HB.out hw180_0 :), (clTr HB.out hw180_1 :), (clTr HB.out hw180_2 :), (clTr HB.out hw180_3 :)⟩ (fun hHeld => ?_); refine with_tabW spec_l08Is.tab10 spec_l08Is.bits10 (fun HT_ HW_ => ?_)
      generalize wc.drew = w67 at BK170 BK176 HB hx180_0 hx180_1 hx180_2 hx180_3 hHeld ⊢
      refine px_ HT_ 0 64 1 ?_
      refine px_ HT_ 1 65 3 ?_
      refine px_ HT_ 2 66 7 ?_
      refine px_ HT_ 3 67 15 ?_
      refine px_ HT_ 4 68 31 ?_
      refine px_ HT_ 6 70 95 ?_
      refine px_ HT_ 7 71 223 ?_
      refine px_ HT_ 12 76 4319 ?_
      refine px_ HT_ 13 77 12511 ?_
      refine ta_ HT_ HW_ 5 (some 69) (bv_ 18 12543) hHeld ?_ (hy := by rintro w' ⟨s0, s1, s2, s3, s4, s5, s6, s7, s8, s9, s10, s11⟩; go_simp; with_reducible rfl)
      refine px_ HT_ 8 72 12799 ?_
      refine px_ HT_ 9 73 13311 ?_
      refine ta_ HT_ HW_ 10 (some 74) (bv_ 18 14335) hHeld ?_ (hy := by rintro w' ⟨s0, s1, s2, s3, s4, s5, s6, s7, s8, s9, s10, s11⟩; go_simp; with_reducible rfl)
      refine ta_ HT_ HW_ 14 (some 78) (bv_ 18 30719) hHeld ?_ (hy := by rintro w' ⟨s0, s1, s2, s3, s4, s5, s6, s7, s8, s9, s10, s11⟩; go_simp; with_reducible rfl)
      refine on_ HT_ 11 (some 75) (bv_ 18 32767) (fun K hK => ?_)
      refine gs_ Try.func67 #[.int .i64 a0, .agg #[.int .i64 ((rd_T72 l1_3 (ji57)).f0.f0), .int .i64 ((rd_T72 l1_3 (ji57)).f0.f1), .int .i64 ((rd_T72 l1_3 (ji57)).f0.f2)]] ?_ (hargs := by (try simp only [List.map_toArray, List.map_cons, List.map_nil]); first | done | (simp only [hji57]; rfl) | rfl | (simp only [List.length_drop, List.length_take]; rfl))
      with_reducible refine (spec_l08Key.calls kj28 a0 ((rd_T72 l1_3 (ji57)).f0.f0) ((rd_T72 l1_3 (ji57)).f0.f1) ((rd_T72 l1_3 (ji57)).f0.f2) t181 _ A60.out).mono ?_
      rintro e w68 ⟨rfl, hb⟩
      refine ⟨_, rfl, ?_⟩
      replace BK170 := bb_ BK170 hb
      replace BK176 := bb_ BK176 hb
      replace HB := bt_ HB hb
      try clear hb
      refine hK.out _ _ ⟨cz_ BK170 0, cz_ BK170 1, cz_ BK170 2, cz_ BK170 3, cz_ BK176 0, cz_ BK176 1, cz_ BK176 2, cz_ BK176 3, (clTr HB.out hw180_0 :), (clTr HB.out hw180_1 :), (clTr HB.out hw180_2 :), (clTr HB.out hw180_3 :)⟩ (fun hHeld => ?_)
      clear hK K
      refine nm_ (some 75) ?_
      refine on_ HT_ 15 (some 79) (bv_ 18 65535) (fun K hK => ?_)
      refine gs_ Try.func67 #[.int .i64 a0, .agg #[.int .i64 ((rd_T72 l1_3 x6_2).f0.f0), .int .i64 ((rd_T72 l1_3 x6_2).f0.f1), .int .i64 ((rd_T72 l1_3 x6_2).f0.f2)]] ?_
      with_reducible refine (spec_l08Key.calls kj28 a0 ((rd_T72 l1_3 x6_2).f0.f0) ((rd_T72 l1_3 x6_2).f0.f1) ((rd_T72 l1_3 x6_2).f0.f2) t182 _ A61.out).mono ?_
      rintro e w69 ⟨rfl, hb⟩
      refine ⟨_, rfl, ?_⟩
      replace BK170 := bb_ BK170 hb
      replace BK176 := bb_ BK176 hb
      replace HB := bt_ HB hb
      try clear hb
      refine hK.out _ _ ⟨cz_ BK170 0, cz_ BK170 1, cz_ BK170 2, cz_ BK170 3, cz_ BK176 0, cz_ BK176 1, cz_ BK176 2, cz_ BK176 3, (clTr HB.out hw180_0 :), (clTr HB.out hw180_1 :), (clTr HB.out hw180_2 :), (clTr HB.out hw180_3 :)⟩ (fun hHeld => ?_)
      clear hK K
      refine nm_ (some 79) ?_
      refine px_ HT_ 16 80 131071 ?_
      refine px_ HT_ 17 81 262143 ?_
      refine done_ (done_of HT_.out (by kernel_rfl)) ?_
      have hnb70 := NB176_170.out
      have hnc70 := NB170_176.out
      obtain ⟨hcz71_0, hcz71_1, hcz71_2, hcz71_3, hfz71_0, hfz71_1, hfz71_2, hfz71_3⟩ := ch4_ BK176
      try go_wp2
      go_roundg kj28
      case measure => have := HJ2.out; have := HK2.out; have := HJ28.out; omega
      case rel => exact ⟨(ji66), (wrap64 (x6_2 + 1)), (by first | rfl | (simp; done) | (simp only [← hji66] <;> (first | rfl | simp)) | (simp [*]; done)), en_, H', ⟨by have := HJ2.out; have := HK2.out; have := HJ28.out; omega⟩, bl_ BK170, bw_ HB⟩
     obtain ⟨ji72, hji72⟩ : ∃ j_ : Int, (mx x5_2 ((rd_T72 l1_3 x6_2).f0.f0)) = j_ := ⟨_, rfl⟩
     replace H : (spec_l08Is.l0 kj28 a0 ji72 (wrap64 (x6_2 + 1)) a1_0 a1_1 a1_2 l1_3) = some r := by first | (rw [hji72] at H; exact H) | (simp only [hji72] at H ⊢; exact H)
     have hji72_ : (if x5_2 < ((rd_T72 l1_3 x6_2).f0.f0) then ((rd_T72 l1_3 x6_2).f0.f0) else x5_2) = ji72 := hji72
     have H' := Aside0.mk H
     clear H
     try go_wp2
     replace BK170 := bd_ BK170
     replace BK176 := bd_ BK176
     replace HB := be_ HB
     refine start_ (n := 18) (S := fun w' => True) (ds := []) (bv_ 18 0) (by kernel_rfl) rfl rfl trivial (fun hHeld => ?_); refine with_tabW spec_l08Is.tab10 spec_l08Is.bits10 (fun HT_ HW_ => ?_)
     generalize wc.drew = w73 at BK170 BK176 HB hHeld ⊢
     refine px_ HT_ 0 64 1 ?_
     refine px_ HT_ 1 65 3 ?_
     refine px_ HT_ 2 66 7 ?_
     refine pv_ HT_ 3 (some 67) (bv_ 18 15) ?_
     refine pv_ HT_ 4 (some 68) (bv_ 18 31) ?_
     refine pv_ HT_ 5 (some 69) (bv_ 18 63) ?_
     refine pv_ HT_ 6 (some 70) (bv_ 18 127) ?_
     refine pv_ HT_ 7 (some 71) (bv_ 18 255) ?_
     refine pv_ HT_ 8 (some 72) (bv_ 18 511) ?_
     refine pv_ HT_ 9 (some 73) (bv_ 18 1023) ?_
     refine pv_ HT_ 10 (some 74) (bv_ 18 2047) ?_
     refine pv_ HT_ 11 (some 75) (bv_ 18 4095) ?_
     refine pv_ HT_ 12 (some 76) (bv_ 18 8191) ?_
     refine pv_ HT_ 13 (some 77) (bv_ 18 16383) ?_
     refine pv_ HT_ 14 (some 78) (bv_ 18 32767) ?_
     refine pv_ HT_ 15 (some 79) (bv_ 18 65535) ?_
     refine pv_ HT_ 16 (some 80) (bv_ 18 131071) ?_
     refine px_ HT_ 17 81 262143 ?_
     refine done_ (done_of HT_.out (by kernel_rfl)) ?_
     have hnb74 := NB176_170.out
     have hnc74 := NB170_176.out
     obtain ⟨hcz75_0, hcz75_1, hcz75_2, hcz75_3, hfz75_0, hfz75_1, hfz75_2, hfz75_3⟩ := ch4_ BK176
     try go_wp2
     go_roundg kj28
     case measure => have := HJ2.out; have := HK2.out; have := HJ28.out; omega
     case rel => exact ⟨(ji72), (wrap64 (x6_2 + 1)), (by first | rfl | (simp; done) | (simp only [← hji72] <;> (first | rfl | simp)) | (simp [*]; done)), en_, H', ⟨by have := HJ2.out; have := HK2.out; have := HJ28.out; omega⟩, bl_ BK170, bw_ HB⟩
   have H' := Aside0.mk H
   clear H
   obtain ⟨hcz76_0, hcz76_1, hcz76_2, hcz76_3, hfz76_0, hfz76_1, hfz76_2, hfz76_3⟩ := ch4_ BK170
   go_wp2
   go_loopg [8, 9] k2 (fun kq v8 v9 w' => ∃ (x8_3 : Int) (x9_3 : Int), v8 = .int .i64 x8_3 ∧ v9 = .int .i64 x9_3 ∧ Aside0 (spec_l08Is.l1 kq a0 x5_2 x8_3 x9_3 a1_0 a1_1 a1_2 l1_3 = some r) ∧ Aside0 (kq ≤ k2) ∧ Aside0 (w'.heap[gb170]? = some (.cells #[.int .i64 a1_0, .int .i64 a1_1, .int .i64 a1_2, (.slice A1_3 l1_3.length c1_3)] 34 (0, 0))) ∧ Aside0 (Below w.heap.size w w'))
   case atStart => exact ⟨(0), (0), en_, en_, H', ⟨Nat.le_refl _⟩, bl_ BK170, bw_ HB⟩
   clear H'
   try clear c6
   try clear c7
   try clear c27b0
   try clear c56b0
   try clear c62b0
   try clear hcz71_0 hcz71_1 hcz71_2 hcz71_3
   try clear hcz75_0 hcz75_1 hcz75_2 hcz75_3
   try clear hcz76_0 hcz76_1 hcz76_2 hcz76_3
   try clear hfz71_0 hfz71_1 hfz71_2 hfz71_3
   try clear hfz75_0 hfz75_1 hfz75_2 hfz75_3
   try clear hfz76_0 hfz76_1 hfz76_2 hfz76_3
   try clear hx180_0
   try clear hx180_1
   try clear hx180_2
   try clear hx180_3
   try clear p180
   try clear q180
   obtain ⟨x8_3, x9_3, rfl, rfl, HA, HK3, BK170, HB⟩ := hrel
   cases gk with
   | zero => exact absurd HA.out (by simp [spec_l08Is.l1])
   | succ k3 =>
    have H := HA.out
    clear HA
    simp only [spec_l08Is.l1] at H
    replace H := il_ H
    rcases H with ⟨c77b0, H⟩ | ⟨c77b0, H⟩
    ·have H' := Aside0.mk H
     clear H
     obtain ⟨hcz78_0, hcz78_1, hcz78_2, hcz78_3, hfz78_0, hfz78_1, hfz78_2, hfz78_3⟩ := ch4_ BK170
     go_wp2
     go_loopg [10] k3 (fun kq v10 w' => ∃ (x10_4 : Int), v10 = .int .i64 x10_4 ∧ Aside0 (spec_l08Is.l2 kq a0 x5_2 x8_3 x9_3 x10_4 a1_0 a1_1 a1_2 l1_3 = some r) ∧ Aside0 (kq ≤ k3) ∧ Aside0 (w'.heap[gb170]? = some (.cells #[.int .i64 a1_0, .int .i64 a1_1, .int .i64 a1_2, (.slice A1_3 l1_3.length c1_3)] 34 (0, 0))) ∧ Aside0 (Below w.heap.size w w'))
     case atStart => exact ⟨(0), en_, H', ⟨Nat.le_refl _⟩, bl_ BK170, bw_ HB⟩
     clear H'
     try clear c6
     try clear c7
     try clear c27b0
     try clear c56b0
     try clear c62b0
     try clear c77b0
     try clear hcz71_0 hcz71_1 hcz71_2 hcz71_3
     try clear hcz75_0 hcz75_1 hcz75_2 hcz75_3
     try clear hcz76_0 hcz76_1 hcz76_2 hcz76_3
     try clear hcz78_0 hcz78_1 hcz78_2 hcz78_3
     try clear hfz71_0 hfz71_1 hfz71_2 hfz71_3
     try clear hfz75_0 hfz75_1 hfz75_2 hfz75_3
     try clear hfz76_0 hfz76_1 hfz76_2 hfz76_3
     try clear hfz78_0 hfz78_1 hfz78_2 hfz78_3
     try clear hx180_0
     try clear hx180_1
     try clear hx180_2
     try clear hx180_3
     try clear p180
     try clear q180
     obtain ⟨x10_4, rfl, HA, HK4, BK170, HB⟩ := hrel
     cases gk with
     | zero => exact absurd HA.out (by simp [spec_l08Is.l2])
     | succ k4 =>
      have H := HA.out
      clear HA
      simp only [spec_l08Is.l2] at H
      replace H := il_ H
      rcases H with ⟨c79b0, H⟩ | ⟨c79b0, H⟩
      ·replace H := ie_ H
       rcases H with ⟨c80b0, c80b1, H⟩ | ⟨c80, c80b0, c80b1, H⟩
       ·have H' := Aside0.mk H
        clear H
        obtain ⟨hcz81_0, hcz81_1, hcz81_2, hcz81_3, hfz81_0, hfz81_1, hfz81_2, hfz81_3⟩ := ch4_ BK170
        try go_wp2
        replace BK170 := bd_ BK170
        replace HB := be_ HB
        refine start_ (n := 19) (S := fun w' => True) (ds := []) (bv_ 19 0) (by kernel_rfl) rfl rfl trivial (fun hHeld => ?_); refine with_tabW spec_l08Is.tab20 spec_l08Is.bits20 (fun HT_ HW_ => ?_)
        generalize wr.drew = w82 at BK170 HB hHeld ⊢
        refine px_ HT_ 0 101 1 ?_
        refine px_ HT_ 1 102 3 ?_
        refine px_ HT_ 2 103 7 ?_
        refine px_ HT_ 3 104 15 ?_
        refine pv_ HT_ 4 (some 105) (bv_ 19 31) ?_
        refine pv_ HT_ 5 (some 106) (bv_ 19 63) ?_
        refine pv_ HT_ 6 (some 107) (bv_ 19 127) ?_
        refine pv_ HT_ 7 (some 108) (bv_ 19 255) ?_
        refine pv_ HT_ 8 (some 109) (bv_ 19 511) ?_
        refine pv_ HT_ 9 (some 110) (bv_ 19 1023) ?_
        refine pv_ HT_ 10 (some 111) (bv_ 19 2047) ?_
        refine pv_ HT_ 11 (some 112) (bv_ 19 4095) ?_
        refine pv_ HT_ 12 (some 113) (bv_ 19 8191) ?_
        refine pv_ HT_ 13 (some 114) (bv_ 19 16383) ?_
        refine pv_ HT_ 14 (some 115) (bv_ 19 32767) ?_
        refine pv_ HT_ 15 (some 116) (bv_ 19 65535) ?_
        refine pv_ HT_ 16 (some 117) (bv_ 19 131071) ?_
        refine pv_ HT_ 17 (some 118) (bv_ 19 262143) ?_
        refine px_ HT_ 18 119 524287 ?_
        refine done_ (done_of HT_.out (by kernel_rfl)) ?_
        try go_wp2
        go_roundg k4
        case measure => have := HJ2.out; have := HK2.out; have := HK3.out; have := HK4.out; omega
        case rel => exact ⟨(wrap64 (x10_4 + 1)), en_, H', ⟨by have := HJ2.out; have := HK2.out; have := HK3.out; have := HK4.out; omega⟩, bl_ BK170, bw_ HB⟩
       replace H := imn_ H
       obtain ⟨c83b0, H⟩ := H
       replace H := iln_ H
       obtain ⟨c84b0, H⟩ := H
       replace H := imn_ H
       obtain ⟨c85b0, H⟩ := H
       replace H := oc_ H
       obtain ⟨t186, A86, H⟩ := H
       replace H := ib_ H
       rcases H with ⟨rfl, H⟩ | ⟨rfl, H⟩
       ·obtain rfl := si_ H
        obtain ⟨hcz88_0, hcz88_1, hcz88_2, hcz88_3, hfz88_0, hfz88_1, hfz88_2, hfz88_3⟩ := ch4_ BK170
        try go_wp2
        replace BK170 := bd_ BK170
        replace HB := be_ HB
        have p184 : 0 ≤ (x9_3 : Int) := od_
        have q184 : x9_3 < (l1_3.length : Int) := od_
        obtain ⟨ad184, e184, hx184_0, hx184_1, hx184_2, hx184_3⟩ := at_T72 HR1_3.out x9_3 p184 q184
        have hw184_3 := hx184_3
        have hw184_2 := hx184_2
        have hw184_1 := hx184_1
        have hw184_0 := hx184_0
        cases e184
        replace hx184_0 := clTr HB.out hx184_0
        replace hx184_1 := clTr HB.out hx184_1
        replace hx184_2 := clTr HB.out hx184_2
        replace hx184_3 := clTr HB.out hx184_3
        replace p184 := eq_true p184
        replace q184 := eq_true q184
        have p185 : 0 ≤ (x10_4 : Int) := od_
        have q185 : x10_4 < (l1_3.length : Int) := od_
        obtain ⟨ad185, e185, hx185_0, hx185_1, hx185_2, hx185_3⟩ := at_T72 HR1_3.out x10_4 p185 q185
        have hw185_3 := hx185_3
        have hw185_2 := hx185_2
        have hw185_1 := hx185_1
        have hw185_0 := hx185_0
        obtain rfl : ad184 = ad185 := (by injection e185)
        replace hx185_0 := clTr HB.out hx185_0
        replace hx185_1 := clTr HB.out hx185_1
        replace hx185_2 := clTr HB.out hx185_2
        replace hx185_3 := clTr HB.out hx185_3
        replace p185 := eq_true p185
        replace q185 := eq_true q185
        refine start_ (n := 19) (S := fun w' => w'.cell? ⟨gb170, 0, none⟩ = some (.int .i64 a1_0) ∧ w'.cell? ⟨gb170, 1, none⟩ = some (.int .i64 a1_1) ∧ w'.cell? ⟨gb170, 2, none⟩ = some (.int .i64 a1_2) ∧ w'.cell? ⟨gb170, 3, none⟩ = some (.slice (some ad184) l1_3.length c1_3) ∧ w'.cell? (ad184.add ((x9_3).toNat * 4)) = some (.int .i64 ((rd_T72 l1_3 x9_3).f0.f0)) ∧ w'.cell? ⟨(ad184.add ((x9_3).toNat * 4)).block, (ad184.add ((x9_3).toNat * 4)).off + 1, none⟩ = some (.int .i64 ((rd_T72 l1_3 x9_3).f0.f1)) ∧ w'.cell? ⟨(ad184.add ((x9_3).toNat * 4)).block, (ad184.add ((x9_3).toNat * 4)).off + 2, none⟩ = some (.int .i64 ((rd_T72 l1_3 x9_3).f0.f2)) ∧ w'.cell? ⟨(ad184.add ((x9_3).toNat * 4)).block, (ad184.add ((x9_3).toNat * 4)).off + 3, none⟩ = some (.int .i64 ((rd_T72 l1_3 x9_3).f1)) ∧ w'.cell? (ad184.add ((x10_4).toNat * 4)) = some (.int .i64 ((rd_T72 l1_3 x10_4).f0.f0)) ∧ w'.cell? ⟨(ad184.add ((x10_4).toNat * 4)).block, (ad184.add ((x10_4).toNat * 4)).off + 1, none⟩ = some (.int .i64 ((rd_T72 l1_3 x10_4).f0.f1)) ∧ w'.cell? ⟨(ad184.add ((x10_4).toNat * 4)).block, (ad184.add ((x10_4).toNat * 4)).off + 2, none⟩ = some (.int .i64 ((rd_T72 l1_3 x10_4).f0.f2)) ∧ w'.cell? ⟨(ad184.add ((x10_4).toNat * 4)).block, (ad184.add ((x10_4).toNat * 4)).off + 3, none⟩ = some (.int .i64 ((rd_T72 l1_3 x10_4).f1))) (ds := []) (bv_ 19 0) (by kernel_rfl) rfl rfl ⟨cz_ BK170 0, cz_ BK170 1, cz_ BK170 2, cz_ BK170 3, (clTr HB.out hw184_0 :), (clTr HB.out hw184_1 :), (clTr HB.out hw184_2 :), (clTr HB.out hw184_3 :), (clTr HB.out hw185_0 :), (clTr HB.out hw185_1 :), (clTr HB.out hw185_2 :), (clTr HB.out hw185_3 :)⟩ (fun hHeld => ?_); refine with_tabW spec_l08Is.tab20 spec_l08Is.bits20 (fun HT_ HW_ => ?_)
        generalize wr.drew = w89 at BK170 HB hx184_0 hx184_1 hx184_2 hx184_3 hx185_0 hx185_1 hx185_2 hx185_3 hHeld ⊢
        refine px_ HT_ 0 101 1 ?_
        refine px_ HT_ 1 102 3 ?_
        refine px_ HT_ 2 103 7 ?_
        refine px_ HT_ 3 104 15 ?_
        refine px_ HT_ 4 105 31 ?_
        refine px_ HT_ 5 106 63 ?_
        refine px_ HT_ 7 108 191 ?_
        refine px_ HT_ 11 112 2239 ?_
        refine px_ HT_ 13 114 10431 ?_
        refine ta_ HT_ HW_ 6 (some 107) (bv_ 19 10495) hHeld ?_ (hy := by rintro w' ⟨s0, s1, s2, s3, s4, s5, s6, s7, s8, s9, s10, s11⟩; go_simp; with_reducible rfl)
        refine px_ HT_ 8 109 10751 ?_
        refine px_ HT_ 9 110 11263 ?_
        refine ta_ HT_ HW_ 10 (some 111) (bv_ 19 12287) hHeld ?_ (hy := by rintro w' ⟨s0, s1, s2, s3, s4, s5, s6, s7, s8, s9, s10, s11⟩; go_simp; with_reducible rfl)
        refine ta_ HT_ HW_ 12 (some 113) (bv_ 19 16383) hHeld ?_ (hy := by rintro w' ⟨s0, s1, s2, s3, s4, s5, s6, s7, s8, s9, s10, s11⟩; go_simp; with_reducible rfl)
        refine px_ HT_ 14 115 32767 ?_
        refine px_ HT_ 15 116 65535 ?_
        refine ta_ HT_ HW_ 16 (some 117) (bv_ 19 131071) hHeld ?_ (hy := by rintro w' ⟨s0, s1, s2, s3, s4, s5, s6, s7, s8, s9, s10, s11⟩; go_simp; with_reducible rfl)
        refine on_ HT_ 17 (some 118) (bv_ 19 262143) (fun K hK => ?_)
        refine gs_ Try.func41 #[.int .i64 a0, .agg #[.int .i64 ((rd_T72 l1_3 x9_3).f0.f0), .int .i64 ((rd_T72 l1_3 x9_3).f0.f1), .int .i64 ((rd_T72 l1_3 x9_3).f0.f2)], .agg #[.int .i64 ((rd_T72 l1_3 x10_4).f0.f0), .int .i64 ((rd_T72 l1_3 x10_4).f0.f1), .int .i64 ((rd_T72 l1_3 x10_4).f0.f2)]] ?_
        with_reducible refine (spec_l01Holds.calls k4 a0 ((rd_T72 l1_3 x9_3).f0.f0) ((rd_T72 l1_3 x9_3).f0.f1) ((rd_T72 l1_3 x9_3).f0.f2) ((rd_T72 l1_3 x10_4).f0.f0) ((rd_T72 l1_3 x10_4).f0.f1) ((rd_T72 l1_3 x10_4).f0.f2) true _ A86.out).mono ?_
        rintro e w90 ⟨rfl, hb⟩
        refine ⟨_, rfl, ?_⟩
        replace BK170 := bb_ BK170 hb
        replace HB := bt_ HB hb
        try clear hb
        refine hK.out _ _ ⟨cz_ BK170 0, cz_ BK170 1, cz_ BK170 2, cz_ BK170 3, (clTr HB.out hw184_0 :), (clTr HB.out hw184_1 :), (clTr HB.out hw184_2 :), (clTr HB.out hw184_3 :), (clTr HB.out hw185_0 :), (clTr HB.out hw185_1 :), (clTr HB.out hw185_2 :), (clTr HB.out hw185_3 :)⟩ (fun hHeld => ?_)
        clear hK K
        refine nm_ (some 118) ?_
        refine px_ HT_ 18 119 524287 ?_
        refine done_ (done_of HT_.out (by kernel_rfl)) ?_
        try go_wp2
        go_ret
        exact ⟨es_, (bw_ HB).out⟩
       have H' := Aside0.mk H
       clear H
       obtain ⟨hcz91_0, hcz91_1, hcz91_2, hcz91_3, hfz91_0, hfz91_1, hfz91_2, hfz91_3⟩ := ch4_ BK170
       try go_wp2
       replace BK170 := bd_ BK170
       replace HB := be_ HB
       have p184 : 0 ≤ (x9_3 : Int) := od_
       have q184 : x9_3 < (l1_3.length : Int) := od_
       obtain ⟨ad184, e184, hx184_0, hx184_1, hx184_2, hx184_3⟩ := at_T72 HR1_3.out x9_3 p184 q184
       have hw184_3 := hx184_3
       have hw184_2 := hx184_2
       have hw184_1 := hx184_1
       have hw184_0 := hx184_0
       cases e184
       replace hx184_0 := clTr HB.out hx184_0
       replace hx184_1 := clTr HB.out hx184_1
       replace hx184_2 := clTr HB.out hx184_2
       replace hx184_3 := clTr HB.out hx184_3
       replace p184 := eq_true p184
       replace q184 := eq_true q184
       have p185 : 0 ≤ (x10_4 : Int) := od_
       have q185 : x10_4 < (l1_3.length : Int) := od_
       obtain ⟨ad185, e185, hx185_0, hx185_1, hx185_2, hx185_3⟩ := at_T72 HR1_3.out x10_4 p185 q185
       have hw185_3 := hx185_3
       have hw185_2 := hx185_2
       have hw185_1 := hx185_1
       have hw185_0 := hx185_0
       obtain rfl : ad184 = ad185 := (by injection e185)
       replace hx185_0 := clTr HB.out hx185_0
       replace hx185_1 := clTr HB.out hx185_1
       replace hx185_2 := clTr HB.out hx185_2
       replace hx185_3 := clTr HB.out hx185_3
       replace p185 := eq_true p185
       replace q185 := eq_true q185
       refine start_ (n := 19) (S := fun w' => w'.cell? ⟨gb170, 0, none⟩ = some (.int .i64 a1_0) ∧ w'.cell? ⟨gb170, 1, none⟩ = some (.int .i64 a1_1) ∧ w'.cell? ⟨gb170, 2, none⟩ = some (.int .i64 a1_2) ∧ w'.cell? ⟨gb170, 3, none⟩ = some (.slice (some ad184) l1_3.length c1_3) ∧ w'.cell? (ad184.add ((x9_3).toNat * 4)) = some (.int .i64 ((rd_T72 l1_3 x9_3).f0.f0)) ∧ w'.cell? ⟨(ad184.add ((x9_3).toNat * 4)).block, (ad184.add ((x9_3).toNat * 4)).off + 1, none⟩ = some (.int .i64 ((rd_T72 l1_3 x9_3).f0.f1)) ∧ w'.cell? ⟨(ad184.add ((x9_3).toNat * 4)).block, (ad184.add ((x9_3).toNat * 4)).off + 2, none⟩ = some (.int .i64 ((rd_T72 l1_3 x9_3).f0.f2)) ∧ w'.cell? ⟨(ad184.add ((x9_3).toNat * 4)).block, (ad184.add ((x9_3).toNat * 4)).off + 3, none⟩ = some (.int .i64 ((rd_T72 l1_3 x9_3).f1)) ∧ w'.cell? (ad184.add ((x10_4).toNat * 4)) = some (.int .i64 ((rd_T72 l1_3 x10_4).f0.f0)) ∧ w'.cell? ⟨(ad184.add ((x10_4).toNat * 4)).block, (ad184.add ((x10_4).toNat * 4)).off + 1, none⟩ = some (.int .i64 ((rd_T72 l1_3 x10_4).f0.f1)) ∧ w'.cell? ⟨(ad184.add ((x10_4).toNat * 4)).block, (ad184.add ((x10_4).toNat * 4)).off + 2, none⟩ = some (.int .i64 ((rd_T72 l1_3 x10_4).f0.f2)) ∧ w'.cell? ⟨(ad184.add ((x10_4).toNat * 4)).block, (ad184.add ((x10_4).toNat * 4)).off + 3, none⟩ = some (.int .i64 ((rd_T72 l1_3 x10_4).f1))) (ds := []) (bv_ 19 0) (by kernel_rfl) rfl rfl ⟨cz_ BK170 0, cz_ BK170 1, cz_ BK170 2, cz_ BK170 3, (clTr HB.out hw184_0 :), (clTr HB.out hw184_1 :), (clTr HB.out hw184_2 :), (clTr HB.out hw184_3 :), (clTr HB.out hw185_0 :), (clTr HB.out hw185_1 :), (clTr HB.out hw185_2 :), (clTr HB.out hw185_3 :)⟩ (fun hHeld => ?_); refine with_tabW spec_l08Is.tab20 spec_l08Is.bits20 (fun HT_ HW_ => ?_)
       generalize wr.drew = w92 at BK170 HB hx184_0 hx184_1 hx184_2 hx184_3 hx185_0 hx185_1 hx185_2 hx185_3 hHeld ⊢
       refine px_ HT_ 0 101 1 ?_
       refine px_ HT_ 1 102 3 ?_
       refine px_ HT_ 2 103 7 ?_
       refine px_ HT_ 3 104 15 ?_
       refine px_ HT_ 4 105 31 ?_
       refine px_ HT_ 5 106 63 ?_
       refine px_ HT_ 7 108 191 ?_
       refine px_ HT_ 11 112 2239 ?_
       refine px_ HT_ 13 114 10431 ?_
       refine ta_ HT_ HW_ 6 (some 107) (bv_ 19 10495) hHeld ?_ (hy := by rintro w' ⟨s0, s1, s2, s3, s4, s5, s6, s7, s8, s9, s10, s11⟩; go_simp; with_reducible rfl)
       refine px_ HT_ 8 109 10751 ?_
       refine px_ HT_ 9 110 11263 ?_
       refine ta_ HT_ HW_ 10 (some 111) (bv_ 19 12287) hHeld ?_ (hy := by rintro w' ⟨s0, s1, s2, s3, s4, s5, s6, s7, s8, s9, s10, s11⟩; go_simp; with_reducible rfl)
       refine ta_ HT_ HW_ 12 (some 113) (bv_ 19 16383) hHeld ?_ (hy := by rintro w' ⟨s0, s1, s2, s3, s4, s5, s6, s7, s8, s9, s10, s11⟩; go_simp; with_reducible rfl)
       refine px_ HT_ 14 115 32767 ?_
       refine px_ HT_ 15 116 65535 ?_
       refine ta_ HT_ HW_ 16 (some 117) (bv_ 19 131071) hHeld ?_ (hy := by rintro w' ⟨s0, s1, s2, s3, s4, s5, s6, s7, s8, s9, s10, s11⟩; go_simp; with_reducible rfl)
       refine on_ HT_ 17 (some 118) (bv_ 19 262143) (fun K hK => ?_)
       refine gs_ Try.func41 #[.int .i64 a0, .agg #[.int .i64 ((rd_T72 l1_3 x9_3).f0.f0), .int .i64 ((rd_T72 l1_3 x9_3).f0.f1), .int .i64 ((rd_T72 l1_3 x9_3).f0.f2)], .agg #[.int .i64 ((rd_T72 l1_3 x10_4).f0.f0), .int .i64 ((rd_T72 l1_3 x10_4).f0.f1), .int .i64 ((rd_T72 l1_3 x10_4).f0.f2)]] ?_
       with_reducible refine (spec_l01Holds.calls k4 a0 ((rd_T72 l1_3 x9_3).f0.f0) ((rd_T72 l1_3 x9_3).f0.f1) ((rd_T72 l1_3 x9_3).f0.f2) ((rd_T72 l1_3 x10_4).f0.f0) ((rd_T72 l1_3 x10_4).f0.f1) ((rd_T72 l1_3 x10_4).f0.f2) false _ A86.out).mono ?_
       rintro e w93 ⟨rfl, hb⟩
       refine ⟨_, rfl, ?_⟩
       replace BK170 := bb_ BK170 hb
       replace HB := bt_ HB hb
       try clear hb
       refine hK.out _ _ ⟨cz_ BK170 0, cz_ BK170 1, cz_ BK170 2, cz_ BK170 3, (clTr HB.out hw184_0 :), (clTr HB.out hw184_1 :), (clTr HB.out hw184_2 :), (clTr HB.out hw184_3 :), (clTr HB.out hw185_0 :), (clTr HB.out hw185_1 :), (clTr HB.out hw185_2 :), (clTr HB.out hw185_3 :)⟩ (fun hHeld => ?_)
       clear hK K
       refine nm_ (some 118) ?_
       refine px_ HT_ 18 119 524287 ?_
       refine done_ (done_of HT_.out (by kernel_rfl)) ?_
       try go_wp2
       go_roundg k4
       case measure => have := HJ2.out; have := HK2.out; have := HK3.out; have := HK4.out; omega
       case rel => exact ⟨(wrap64 (x10_4 + 1)), en_, H', ⟨by have := HJ2.out; have := HK2.out; have := HK3.out; have := HK4.out; omega⟩, bl_ BK170, bw_ HB⟩
      replace H := imn_ H
      obtain ⟨c94b0, H⟩ := H
      replace H := iln_ H
      obtain ⟨c95b0, H⟩ := H
      replace H := oc_ H
      obtain ⟨t188, A96, H⟩ := H
      have H' := Aside0.mk H
      clear H
      obtain ⟨hcz97_0, hcz97_1, hcz97_2, hcz97_3, hfz97_0, hfz97_1, hfz97_2, hfz97_3⟩ := ch4_ BK170
      have p187 : 0 ≤ (x9_3 : Int) := od_
      have q187 : x9_3 < (l1_3.length : Int) := od_
      obtain ⟨ad187, e187, hx187_0, hx187_1, hx187_2, hx187_3⟩ := at_T72 HR1_3.out x9_3 p187 q187
      cases e187
      replace hx187_0 := clTr HB.out hx187_0
      replace hx187_1 := clTr HB.out hx187_1
      replace hx187_2 := clTr HB.out hx187_2
      replace hx187_3 := clTr HB.out hx187_3
      replace p187 := eq_true p187
      replace q187 := eq_true q187
      go_wp2_with (first | ((refine gc_ 68 ?_); refine ge_ 131 Try.func68 #[.int .i64 a0, .int .i64 (wrap64 (x5_2 - ((rd_T72 l1_3 x9_3).f0.f0)))] ?_; (with_reducible refine (spec_l01Power.calls k4 a0 (wrap64 (x5_2 - ((rd_T72 l1_3 x9_3).f0.f0))) t188 _ A96.out).mono ?_); rintro e w' ⟨rfl, ⟨nd, rfl⟩⟩; refine ⟨_, rfl, ?_⟩))
      go_roundg k4
      case measure => have := HJ2.out; have := HK2.out; have := HK3.out; have := HK4.out; omega
      case rel => exact ⟨(wrap64 (x8_3 + t188)), (wrap64 (x9_3 + 1)), en_, en_, H', ⟨by have := HJ2.out; have := HK2.out; have := HK3.out; have := HK4.out; omega⟩, bl_ BK170, bw_ HB⟩
    replace H := oc_ H
    obtain ⟨t183, A98, H⟩ := H
    obtain rfl := si_ H
    obtain ⟨hcz99_0, hcz99_1, hcz99_2, hcz99_3, hfz99_0, hfz99_1, hfz99_2, hfz99_3⟩ := ch4_ BK170
    go_wp2_with (first | ((refine gc_ 68 ?_); refine ge_ 140 Try.func68 #[.int .i64 a0, .int .i64 (wrap64 (x5_2 - a1_0))] ?_; (with_reducible refine (spec_l01Power.calls k3 a0 (wrap64 (x5_2 - a1_0)) t183 _ A98.out).mono ?_); rintro e w' ⟨rfl, ⟨nd, rfl⟩⟩; refine ⟨_, rfl, ?_⟩))
    go_ret
    exact ⟨es_, (bw_ HB).out⟩
end Go.Proofs.Ytdfcoebadjhjlaa.QI
