import Derived.Test.YtgoeelhiffbjlaaQBx19
namespace Go.Proofs.Ytgoeelhiffbjlaa.QB
open Go.RowKit YtgoeelhiffbjlaaW.PrintWords YtgoeelhiffbjlaaW.PrintLast YtgoeelhiffbjlaaW.PrintMore
attribute [local go_sem] isSome_setCell max2_int min2_int max_two min_two max_three min_three max_four min_four
set_option linter.unusedVariables false
set_option linter.unusedSimpArgs false
def spec_l09Move.j0 : Nat → Int → Int → Int → Int → Int → Bool → Int → Int → Int → Int → Int → Int → Int → Bool → Option (Int × Int × Int × Bool × Bool)
 | 0, _, _, _, _, _, _, _, _, _, _, _, _, _, _ => none
 | k + 1, x0, x9, x10, x11, x12, x13, x151000, x151001, x151002, x151003, x152000, x152001, x152002, x152003 => if x13 = true then ((spec_l01Val.f k x0 x12).bind fun t157 => ((spec_l01Of.f k x0 x151000 x12 (wrap64 ((wrap64 ((wrap64 (x9 - (wrap64 (2 * t157)))) - x152000)) + 1))).bind fun bt158 => (some (bt158.1, bt158.2.1, bt158.2.2.1, !x152003, bt158.2.2.2)))) else ((spec_l01Val.f k x0 x11).bind fun t163 => ((spec_l01Of.f k x0 x10 x11 (wrap64 ((wrap64 (x9 + x152000)) - (wrap64 (2 * (wrap64 (t163 - x152002))))))).bind fun bt164 => (some (bt164.1, bt164.2.1, bt164.2.2.1, x152003, bt164.2.2.2))))
def spec_l09Move.f (k : Nat) (a0 a1_0 a1_1 a1_2 a1_3 a2_0 a2_1 a2_2 : Int) (a2_3 : Bool) : Option (Int × Int × Int × Bool × Bool) := (spec_l01Power.f k a0 a2_2).bind fun t153 => ((spec_l01Val.f k a0 (wrap64 ((wrap64 (a1_0 * a1_3)) - (wrap64 (a1_1 * a1_2))))).bind fun t154 => (if a1_2 = 0 then (spec_l09Move.j0 k a0 t154 (wrap64 ((wrap64 (a1_0 * a2_1)) + (wrap64 (a1_1 * t153)))) (wrap64 ((wrap64 (a1_2 * a2_1)) + (wrap64 (a1_3 * t153)))) a1_2 false a1_0 a1_1 a1_2 a1_3 a2_0 a2_1 a2_2 a2_3) else (if (wrap64 ((wrap64 (a1_2 * a2_1)) + (wrap64 (a1_3 * t153)))) = 0 then (spec_l09Move.j0 k a0 t154 (wrap64 ((wrap64 (a1_0 * a2_1)) + (wrap64 (a1_1 * t153)))) (wrap64 ((wrap64 (a1_2 * a2_1)) + (wrap64 (a1_3 * t153)))) a1_2 true a1_0 a1_1 a1_2 a1_3 a2_0 a2_1 a2_2 a2_3) else ((spec_l01Val.f k a0 (wrap64 ((wrap64 (a1_2 * a2_1)) + (wrap64 (a1_3 * t153))))).bind fun t155 => ((spec_l01Val.f k a0 a1_2).bind fun t156 => (spec_l09Move.j0 k a0 t154 (wrap64 ((wrap64 (a1_0 * a2_1)) + (wrap64 (a1_1 * t153)))) (wrap64 ((wrap64 (a1_2 * a2_1)) + (wrap64 (a1_3 * t153)))) a1_2 (decide ((wrap64 (t155 - a2_2)) ≥ (wrap64 (t156 + a2_0)))) a1_0 a1_1 a1_2 a1_3 a2_0 a2_1 a2_2 a2_3))))))
def spec_l09Move.T1 : Bool × List (List Nat × List Nat) := (true, [([], []), ([], []), ([1], [1]), ([2], [2]), ([0, 3], [0, 3]), ([], []), ([], []), ([6], [6]), ([7], [7]), ([], []), ([9], [9]), ([10], [10]), ([8, 11], [8, 11]), ([], []), ([13], [13]), ([14], [14]), ([], []), ([16], [16]), ([17], [17]), ([15, 18], [15, 18]), ([12, 19], [12, 19]), ([5, 20, 4], [5, 20]), ([4, 21, 0, 1, 2, 3, 4], [4]), ([21, 22, 0, 1, 2, 3, 4, 5, 6, 7, 8, 9, 10, 11, 12, 13, 14, 15, 16, 17, 18, 19, 20, 21, 22], [21])])
def spec_l09Move.B1 : List Nat := [0, 0, 2, 6, 15, 0, 0, 64, 192, 0, 512, 1536, 4032, 0, 8192, 24576, 0, 65536, 196608, 516096, 1048512, 2097151, 4194303, 8388607]
theorem spec_l09Move.tab1 : rtab .any (opsOf Try.f197 1) = spec_l09Move.T1 := by kernel_rfl
theorem spec_l09Move.bits1 : waitsOk spec_l09Move.T1.2 spec_l09Move.B1 = true := by kernel_rfl
def spec_l09Move.T5 : Bool × List (List Nat × List Nat) := (true, [([], []), ([0], [0]), ([1], [1]), ([2], [2]), ([3, 2], [2, 3]), ([4, 2, 2], [2, 4]), ([5], [5]), ([5], [5]), ([6, 7, 5, 5], [5, 6, 7]), ([5], [5]), ([9, 5], [5, 9]), ([10, 5], [5, 10]), ([8, 11, 5], [5, 8, 11]), ([5], [5]), ([5], [5]), ([13, 14, 8, 5], [5, 13, 14]), ([5], [5]), ([16, 5], [5, 16]), ([17, 5], [5, 17]), ([15, 18, 5], [5, 15, 18]), ([12, 19, 5], [5, 12, 19]), ([5, 20, 2], [2, 5, 20]), ([2, 21], [2, 21]), ([22, 15, 0, 1, 2, 3, 4, 5, 6, 7, 8, 9, 10, 11, 12, 13, 14, 15, 16, 17, 18, 19, 20, 21, 22], [22])])
def spec_l09Move.B5 : List Nat := [0, 1, 3, 7, 15, 31, 63, 63, 255, 63, 575, 1599, 4095, 63, 63, 25087, 63, 65599, 196671, 516607, 1048575, 2097151, 4194303, 8388607]
theorem spec_l09Move.tab5 : rtab .any (opsOf Try.f197 5) = spec_l09Move.T5 := by kernel_rfl
theorem spec_l09Move.bits5 : waitsOk spec_l09Move.T5.2 spec_l09Move.B5 = true := by kernel_rfl
def spec_l09Move.T7 : Bool × List (List Nat × List Nat) := (true, [([], []), ([], []), ([1], [1]), ([2], [2]), ([0, 3], [0, 3]), ([], []), ([], []), ([5, 6], [5, 6]), ([], []), ([8], [8]), ([9], [9]), ([7, 10], [7, 10]), ([11], [11]), ([4, 12], [4, 12]), ([13, 7, 0, 1, 2, 3, 4, 5, 6, 7, 8, 9, 10, 11, 12, 13], [13])])
def spec_l09Move.B7 : List Nat := [0, 0, 2, 6, 15, 0, 0, 96, 0, 256, 768, 2016, 4064, 8191, 16383]
theorem spec_l09Move.tab7 : rtab .any (opsOf Try.f197 7) = spec_l09Move.T7 := by kernel_rfl
theorem spec_l09Move.bits7 : waitsOk spec_l09Move.T7.2 spec_l09Move.B7 = true := by kernel_rfl
def spec_l09Move.T10 : Bool × List (List Nat × List Nat) := (true, [([], []), ([], []), ([1], [1]), ([2], [2]), ([], []), ([], []), ([], []), ([], []), ([6, 7], [6, 7]), ([8], [8]), ([5, 9], [5, 9]), ([], []), ([11], [11]), ([12], [12]), ([10, 13], [10, 13]), ([14], [14]), ([0, 3, 4, 15, 8], [0, 3, 4, 15]), ([16], [16]), ([17], [17]), ([17], [17]), ([], []), ([20, 18, 16, 0, 1, 2, 3, 4, 5, 6, 7, 8, 9, 10, 11, 12, 13, 14, 15, 16, 17, 18, 20], [18, 20]), ([19, 21, 0, 1, 2, 3, 4, 5, 6, 7, 8, 9, 10, 11, 12, 13, 14, 15, 16, 17, 18, 19, 20, 21], [19])])
def spec_l09Move.B10 : List Nat := [0, 0, 2, 6, 0, 0, 0, 0, 192, 448, 992, 0, 2048, 6144, 16352, 32736, 65535, 131071, 262143, 262143, 0, 1572863, 4194303]
theorem spec_l09Move.tab10 : rtab .any (opsOf Try.f197 10) = spec_l09Move.T10 := by kernel_rfl
theorem spec_l09Move.bits10 : waitsOk spec_l09Move.T10.2 spec_l09Move.B10 = true := by kernel_rfl
set_option maxHeartbeats 8000000 in
set_option maxRecDepth 100000 in
theorem spec_l09Move.calls (k : Nat) (a0 a1_0 a1_1 a1_2 a1_3 a2_0 a2_1 a2_2 : Int) (a2_3 : Bool) (r1 r2 r3 : Int) (r4 r5 : Bool) (w : World) (h : spec_l09Move.f k a0 a1_0 a1_1 a1_2 a1_3 a2_0 a2_1 a2_2 a2_3 = some (r1, r2, r3, r4, r5)) :
  Calls Try.prog 197 #[.int .i64 a0, .agg #[.int .i64 a1_0, .int .i64 a1_1, .int .i64 a1_2, .int .i64 a1_3], .agg #[.int .i64 a2_0, .int .i64 a2_1, .int .i64 a2_2, .bool a2_3]] w fun e w' => e = .returned (.tuple #[.agg #[.int .i64 r1, .int .i64 r2, .int .i64 r3, .bool r4], .bool r5]) ∧ Below w.heap.size w w' := by
 have hu46 := Try.underlying46
 have hu150 := Try.underlying150
 have hu25 := Try.underlying25
 have hu44 := Try.underlying44
 have HB := Aside0.mk (Below.refl w.heap.size w)
 unfold spec_l09Move.f at h
 have H := h
 clear h
 replace H := oc_ H
 obtain ⟨t153, A4, H⟩ := H
 replace H := oc_ H
 obtain ⟨t154, A5, H⟩ := H
 have HC6 := Aside0.mk H
 clear H
 go_enter Try.func197, Try.ntmps197
 try go_wp2_with (first | ((refine gd_ 4 ?_); refine by_ 4 #[.int .i64 a1_0, .int .i64 a1_1, .int .i64 a1_2, .int .i64 a1_3] 46 HB ?_; intro gb150 hg w7 BK150 hb GW150 HB_; replace HB := HB_; clear hb hg) | ((refine gd_ 5 ?_); refine by_ 5 #[.int .i64 a2_0, .int .i64 a2_1, .int .i64 a2_2, .bool a2_3] 150 HB ?_; intro gb151 hg w8 BK151 hb GW151 HB_; have NB150_151 := bm_ BK150 hg; have NB151_150 := bn_ BK150 hg; replace BK150 := bb_ BK150 hb; replace HB := HB_; clear hb hg) | ((refine gd_ 6 ?_); refine by_ 6 #[.int .i64 0, .int .i64 0, .int .i64 0, .bool false] 150 HB ?_; intro gb152 hg w9 BK152 hb GW152 HB_; have NB150_152 := bm_ BK150 hg; have NB152_150 := bn_ BK150 hg; have NB151_152 := bm_ BK151 hg; have NB152_151 := bn_ BK151 hg; replace BK150 := bb_ BK150 hb; replace BK151 := bb_ BK151 hb; replace HB := HB_; clear hb hg))
 replace BK150 := bd_ BK150
 replace BK151 := bd_ BK151
 replace BK152 := bd_ BK152
 replace HB := be_ HB
 refine start_ (n := 24) (S := fun w' => w'.cell? ⟨gb151, 0, none⟩ = some (.int .i64 a2_0) ∧ w'.cell? ⟨gb151, 1, none⟩ = some (.int .i64 a2_1) ∧ w'.cell? ⟨gb151, 2, none⟩ = some (.int .i64 a2_2) ∧ w'.cell? ⟨gb151, 3, none⟩ = some (.bool a2_3) ∧ w'.cell? ⟨gb150, 0, none⟩ = some (.int .i64 a1_0) ∧ w'.cell? ⟨gb150, 1, none⟩ = some (.int .i64 a1_1) ∧ w'.cell? ⟨gb150, 2, none⟩ = some (.int .i64 a1_2) ∧ w'.cell? ⟨gb150, 3, none⟩ = some (.int .i64 a1_3)) (ds := []) (bv_ 24 0) (by kernel_rfl) rfl rfl ⟨cz_ BK151 0, cz_ BK151 1, cz_ BK151 2, cz_ BK151 3, cz_ BK150 0, cz_ BK150 1, cz_ BK150 2, cz_ BK150 3⟩ (fun hHeld => ?_); refine with_tabW spec_l09Move.tab1 spec_l09Move.bits1 (fun HT_ HW_ => ?_)
 generalize w9.drew = w10 at BK150 BK151 BK152 HB hHeld ⊢
 refine px_ HT_ 0 19 1 ?_
 refine px_ HT_ 1 20 3 ?_
 refine px_ HT_ 2 21 7 ?_
 refine px_ HT_ 5 24 39 ?_
 refine px_ HT_ 6 25 103 ?_
 refine px_ HT_ 7 26 231 ?_
 refine px_ HT_ 9 28 743 ?_
 refine px_ HT_ 10 29 1767 ?_
 refine px_ HT_ 13 32 9959 ?_
 refine px_ HT_ 14 33 26343 ?_
 refine px_ HT_ 16 35 91879 ?_
 refine px_ HT_ 17 36 222951 ?_
 refine ta_ HT_ HW_ 3 (some 22) (bv_ 24 222959) hHeld ?_ (hy := by rintro w' ⟨s0, s1, s2, s3, s4, s5, s6, s7⟩; go_simp; with_reducible rfl)
 refine ta_ HT_ HW_ 8 (some 27) (bv_ 24 223215) hHeld ?_ (hy := by rintro w' ⟨s0, s1, s2, s3, s4, s5, s6, s7⟩; go_simp; with_reducible rfl)
 refine ta_ HT_ HW_ 11 (some 30) (bv_ 24 225263) hHeld ?_ (hy := by rintro w' ⟨s0, s1, s2, s3, s4, s5, s6, s7⟩; go_simp; with_reducible rfl)
 refine px_ HT_ 12 31 229359 ?_
 refine ta_ HT_ HW_ 15 (some 34) (bv_ 24 262127) hHeld ?_ (hy := by rintro w' ⟨s0, s1, s2, s3, s4, s5, s6, s7⟩; go_simp; with_reducible rfl)
 refine ta_ HT_ HW_ 18 (some 37) (bv_ 24 524271) hHeld ?_ (hy := by rintro w' ⟨s0, s1, s2, s3, s4, s5, s6, s7⟩; go_simp; with_reducible rfl)
 refine px_ HT_ 19 38 1048559 ?_
 refine px_ HT_ 20 39 2097135 ?_
 refine on_ HT_ 4 (some 23) (bv_ 24 2097151) (fun K hK => ?_)
 refine gs_ Try.func169 #[.int .i64 a0, .int .i64 a2_2] ?_
 with_reducible refine (spec_l01Power.calls k a0 a2_2 t153 _ A4.out).mono ?_
 rintro e w' ⟨rfl, ⟨nd, rfl⟩⟩
 refine ⟨_, rfl, ?_⟩
 refine hK.out _ _ ⟨cz_ BK151 0, cz_ BK151 1, cz_ BK151 2, cz_ BK151 3, cz_ BK150 0, cz_ BK150 1, cz_ BK150 2, cz_ BK150 3⟩ (fun hHeld => ?_)
 clear hK K
 refine nm_ (some 23) ?_
 refine on_ HT_ 21 (some 40) (bv_ 24 4194303) (fun K hK => ?_)
 refine gs_ Try.func193 #[.int .i64 a0, .int .i64 (wrap64 ((wrap64 (a1_0 * a1_3)) - (wrap64 (a1_1 * a1_2))))] ?_
 with_reducible refine (spec_l01Val.calls k a0 (wrap64 ((wrap64 (a1_0 * a1_3)) - (wrap64 (a1_1 * a1_2)))) t154 _ A5.out).mono ?_
 rintro e w' ⟨rfl, ⟨nd, rfl⟩⟩
 refine ⟨_, rfl, ?_⟩
 refine hK.out _ _ ⟨cz_ BK151 0, cz_ BK151 1, cz_ BK151 2, cz_ BK151 3, cz_ BK150 0, cz_ BK150 1, cz_ BK150 2, cz_ BK150 3⟩ (fun hHeld => ?_)
 clear hK K
 refine nm_ (some 40) ?_
 refine px_ HT_ 22 8 8388607 ?_
 refine px_ HT_ 23 9 16777215 ?_
 refine done_ (done_of HT_.out (by kernel_rfl)) ?_
 have hnb11 := NB150_151.out
 have hnc11 := NB151_150.out
 have hnb12 := NB150_152.out
 have hnc12 := NB152_150.out
 obtain ⟨hcz13_0, hcz13_1, hcz13_2, hcz13_3, hfz13_0, hfz13_1, hfz13_2, hfz13_3⟩ := ch4_ BK150
 have hnb14 := NB151_152.out
 have hnc14 := NB152_151.out
 obtain ⟨hcz15_0, hcz15_1, hcz15_2, hcz15_3, hfz15_0, hfz15_1, hfz15_2, hfz15_3⟩ := ch4_ BK151
 go_upto_region 5 with (fail)
 go_cut [13] (fun v13 wc => ∃ (kq : Nat) (x13_5 : Bool), v13 = .bool x13_5 ∧ Aside0 (spec_l09Move.j0 kq a0 t154 (wrap64 ((wrap64 (a1_0 * a2_1)) + (wrap64 (a1_1 * t153)))) (wrap64 ((wrap64 (a1_2 * a2_1)) + (wrap64 (a1_3 * t153)))) a1_2 x13_5 a1_0 a1_1 a1_2 a1_3 a2_0 a2_1 a2_2 a2_3 = some (r1, r2, r3, r4, r5)) ∧ Aside0 (kq ≤ k) ∧ Aside0 (wc.heap[gb150]? = some (.cells #[.int .i64 a1_0, .int .i64 a1_1, .int .i64 a1_2, .int .i64 a1_3] 46 (0, 0))) ∧ Aside0 (wc.heap[gb151]? = some (.cells #[.int .i64 a2_0, .int .i64 a2_1, .int .i64 a2_2, .bool a2_3] 150 (0, 0))) ∧ Aside0 (wc.heap[gb152]? = some (.cells #[.int .i64 0, .int .i64 0, .int .i64 0, .bool false] 150 (0, 0))) ∧ Aside0 (Below w.heap.size w wc))
 case first =>
  have H := HC6.out
  clear HC6
  replace H := ie_ H
  rcases H with ⟨c16b0, c16b1, H⟩ | ⟨c16, c16b0, c16b1, H⟩
  ·(first | rw [c16b0] | (simp only [i64_w, i32_w]; rw [c16b0]) | skip)
   have H' := Aside0.mk H
   clear H
   try go_wp2
   (try (rw [drewN_self w10]; generalize hq_ : World.drewN w10 _ = w10; replace BK150 := bq_ BK150 hq_; replace BK151 := bq_ BK151 hq_; replace BK152 := bq_ BK152 hq_; replace HB := hq_' HB hq_; clear hq_))
   replace BK150 := bd_ BK150
   replace BK151 := bd_ BK151
   replace BK152 := bd_ BK152
   replace HB := be_ HB
   refine start_ (n := 24) (S := fun w' => True) (ds := []) (bv_ 24 0) (by kernel_rfl) rfl rfl trivial (fun hHeld => ?_); refine with_tabW spec_l09Move.tab5 spec_l09Move.bits5 (fun HT_ HW_ => ?_)
   generalize w10.drew = w17 at BK150 BK151 BK152 HB hHeld ⊢
   refine px_ HT_ 0 70 1 ?_
   refine px_ HT_ 1 71 3 ?_
   refine px_ HT_ 2 72 7 ?_
   refine pv_ HT_ 3 (some 73) (bv_ 24 15) ?_
   refine pv_ HT_ 4 (some 74) (bv_ 24 31) ?_
   refine pv_ HT_ 5 (some 75) (bv_ 24 63) ?_
   refine pv_ HT_ 6 (some 76) (bv_ 24 127) ?_
   refine pv_ HT_ 7 (some 77) (bv_ 24 255) ?_
   refine pv_ HT_ 8 (some 78) (bv_ 24 511) ?_
   refine pv_ HT_ 9 (some 79) (bv_ 24 1023) ?_
   refine pv_ HT_ 10 (some 80) (bv_ 24 2047) ?_
   refine pv_ HT_ 11 (some 81) (bv_ 24 4095) ?_
   refine pv_ HT_ 12 (some 82) (bv_ 24 8191) ?_
   refine pv_ HT_ 13 (some 83) (bv_ 24 16383) ?_
   refine pv_ HT_ 14 (some 84) (bv_ 24 32767) ?_
   refine pv_ HT_ 15 (some 85) (bv_ 24 65535) ?_
   refine pv_ HT_ 16 (some 86) (bv_ 24 131071) ?_
   refine pv_ HT_ 17 (some 87) (bv_ 24 262143) ?_
   refine pv_ HT_ 18 (some 88) (bv_ 24 524287) ?_
   refine pv_ HT_ 19 (some 89) (bv_ 24 1048575) ?_
   refine pv_ HT_ 20 (some 90) (bv_ 24 2097151) ?_
   refine pv_ HT_ 21 (some 91) (bv_ 24 4194303) ?_
   refine px_ HT_ 22 92 8388607 ?_
   refine px_ HT_ 23 13 16777215 ?_
   refine done_ (done_of HT_.out (by kernel_rfl)) ?_
   try go_wp2
   go_meet
   case rel => exact ⟨_, (false), en_, H', ⟨by first | omega | exact Nat.le_refl _⟩, bl_ BK150, bl_ BK151, bl_ BK152, bw_ HB⟩
  (first | rw [c16b0] | (simp only [i64_w, i32_w]; rw [c16b0]) | skip)
  replace H := ie_ H
  rcases H with ⟨c18b0, c18b1, H⟩ | ⟨c18, c18b0, c18b1, H⟩
  ·have H' := Aside0.mk H
   clear H
   try go_wp2
   (try (rw [drewN_self w10]; generalize hq_ : World.drewN w10 _ = w10; replace BK150 := bq_ BK150 hq_; replace BK151 := bq_ BK151 hq_; replace BK152 := bq_ BK152 hq_; replace HB := hq_' HB hq_; clear hq_))
   replace BK150 := bd_ BK150
   replace BK151 := bd_ BK151
   replace BK152 := bd_ BK152
   replace HB := be_ HB
   refine start_ (n := 24) (S := fun w' => True) (ds := []) (bv_ 24 0) (by kernel_rfl) rfl rfl trivial (fun hHeld => ?_); refine with_tabW spec_l09Move.tab5 spec_l09Move.bits5 (fun HT_ HW_ => ?_)
   generalize w10.drew = w19 at BK150 BK151 BK152 HB hHeld ⊢
   refine px_ HT_ 0 70 1 ?_
   refine px_ HT_ 1 71 3 ?_
   refine px_ HT_ 2 72 7 ?_
   refine px_ HT_ 3 73 15 ?_
   refine px_ HT_ 4 74 31 ?_
   refine px_ HT_ 5 75 63 ?_
   refine pv_ HT_ 6 (some 76) (bv_ 24 127) ?_
   refine pv_ HT_ 7 (some 77) (bv_ 24 255) ?_
   refine pv_ HT_ 8 (some 78) (bv_ 24 511) ?_
   refine pv_ HT_ 9 (some 79) (bv_ 24 1023) ?_
   refine pv_ HT_ 10 (some 80) (bv_ 24 2047) ?_
   refine pv_ HT_ 11 (some 81) (bv_ 24 4095) ?_
   refine pv_ HT_ 12 (some 82) (bv_ 24 8191) ?_
   refine pv_ HT_ 13 (some 83) (bv_ 24 16383) ?_
   refine pv_ HT_ 14 (some 84) (bv_ 24 32767) ?_
   refine pv_ HT_ 15 (some 85) (bv_ 24 65535) ?_
   refine pv_ HT_ 16 (some 86) (bv_ 24 131071) ?_
   refine pv_ HT_ 17 (some 87) (bv_ 24 262143) ?_
   refine pv_ HT_ 18 (some 88) (bv_ 24 524287) ?_
   refine pv_ HT_ 19 (some 89) (bv_ 24 1048575) ?_
   refine pv_ HT_ 20 (some 90) (bv_ 24 2097151) ?_
   refine px_ HT_ 21 91 4194303 ?_
   refine px_ HT_ 22 92 8388607 ?_
   refine px_ HT_ 23 13 16777215 ?_
   refine done_ (done_of HT_.out (by kernel_rfl)) ?_
   try go_wp2
   go_meet
   case rel => exact ⟨_, (true), en_, H', ⟨by first | omega | exact Nat.le_refl _⟩, bl_ BK150, bl_ BK151, bl_ BK152, bw_ HB⟩
  replace H := oc_ H
  obtain ⟨t155, A20, H⟩ := H
  replace H := oc_ H
  obtain ⟨t156, A21, H⟩ := H
  have H' := Aside0.mk H
  clear H
  try go_wp2
  (try (rw [drewN_self w10]; generalize hq_ : World.drewN w10 _ = w10; replace BK150 := bq_ BK150 hq_; replace BK151 := bq_ BK151 hq_; replace BK152 := bq_ BK152 hq_; replace HB := hq_' HB hq_; clear hq_))
  replace BK150 := bd_ BK150
  replace BK151 := bd_ BK151
  replace BK152 := bd_ BK152
  replace HB := be_ HB
  refine start_ (n := 24) (S := fun w' => w'.cell? ⟨gb151, 0, none⟩ = some (.int .i64 a2_0) ∧ w'.cell? ⟨gb151, 1, none⟩ = some (.int .i64 a2_1) ∧ w'.cell? ⟨gb151, 2, none⟩ = some (.int .i64 a2_2) ∧ w'.cell? ⟨gb151, 3, none⟩ = some (.bool a2_3)) (ds := []) (bv_ 24 0) (by kernel_rfl) rfl rfl ⟨cz_ BK151 0, cz_ BK151 1, cz_ BK151 2, cz_ BK151 3⟩ (fun hHeld => ?_); refine with_tabW spec_l09Move.tab5 spec_l09Move.bits5 (fun HT_ HW_ => ?_)
  generalize w10.drew = w22 at BK150 BK151 BK152 HB hHeld ⊢
  refine px_ HT_ 0 70 1 ?_
  refine px_ HT_ 1 71 3 ?_
  refine px_ HT_ 2 72 7 ?_
  refine px_ HT_ 3 73 15 ?_
  refine px_ HT_ 4 74 31 ?_
  refine px_ HT_ 5 75 63 ?_
  refine px_ HT_ 6 76 127 ?_
  refine px_ HT_ 7 77 255 ?_
  refine px_ HT_ 9 79 767 ?_
  refine px_ HT_ 10 80 1791 ?_
  refine px_ HT_ 13 83 9983 ?_
  refine px_ HT_ 14 84 26367 ?_
  refine px_ HT_ 16 86 91903 ?_
  refine px_ HT_ 17 87 222975 ?_
  refine ta_ HT_ HW_ 11 (some 81) (bv_ 24 225023) hHeld ?_ (hy := by rintro w' ⟨s0, s1, s2, s3⟩; go_simp; with_reducible rfl)
  refine ta_ HT_ HW_ 18 (some 88) (bv_ 24 487167) hHeld ?_ (hy := by rintro w' ⟨s0, s1, s2, s3⟩; go_simp; with_reducible rfl)
  refine on_ HT_ 8 (some 78) (bv_ 24 487423) (fun K hK => ?_)
  refine gs_ Try.func193 #[.int .i64 a0, .int .i64 (wrap64 ((wrap64 (a1_2 * a2_1)) + (wrap64 (a1_3 * t153))))] ?_
  with_reducible refine (spec_l01Val.calls k a0 (wrap64 ((wrap64 (a1_2 * a2_1)) + (wrap64 (a1_3 * t153)))) t155 _ A20.out).mono ?_
  rintro e w' ⟨rfl, ⟨nd, rfl⟩⟩
  refine ⟨_, rfl, ?_⟩
  refine hK.out _ _ ⟨cz_ BK151 0, cz_ BK151 1, cz_ BK151 2, cz_ BK151 3⟩ (fun hHeld => ?_)
  clear hK K
  refine nm_ (some 78) ?_
  refine px_ HT_ 12 82 491519 ?_
  refine on_ HT_ 15 (some 85) (bv_ 24 524287) (fun K hK => ?_)
  refine gs_ Try.func193 #[.int .i64 a0, .int .i64 a1_2] ?_
  with_reducible refine (spec_l01Val.calls k a0 a1_2 t156 _ A21.out).mono ?_
  rintro e w' ⟨rfl, ⟨nd, rfl⟩⟩
  refine ⟨_, rfl, ?_⟩
  refine hK.out _ _ ⟨cz_ BK151 0, cz_ BK151 1, cz_ BK151 2, cz_ BK151 3⟩ (fun hHeld => ?_)
  clear hK K
  refine nm_ (some 85) ?_
  refine px_ HT_ 19 89 1048575 ?_
  refine px_ HT_ 20 90 2097151 ?_
  refine px_ HT_ 21 91 4194303 ?_
  refine px_ HT_ 22 92 8388607 ?_
  refine px_ HT_ 23 13 16777215 ?_
  refine done_ (done_of HT_.out (by kernel_rfl)) ?_
  try go_wp2
  go_meet
  case rel => exact ⟨_, (decide ((wrap64 (t155 - a2_2)) ≥ (wrap64 (t156 + a2_0)))), en_, H', ⟨by first | omega | exact Nat.le_refl _⟩, bl_ BK150, bl_ BK151, bl_ BK152, bw_ HB⟩
 clear HC6
 try clear c16
 try clear c16b0
 try clear c16b1
 try clear c18
 try clear c18b0
 try clear c18b1
 try clear hcz13_0 hcz13_1 hcz13_2 hcz13_3
 try clear hcz15_0 hcz15_1 hcz15_2 hcz15_3
 try clear hfz13_0 hfz13_1 hfz13_2 hfz13_3
 try clear hfz15_0 hfz15_1 hfz15_2 hfz15_3
 obtain ⟨kq, x13_5, rfl, HA, HJ5, BK150, BK151, BK152, HB⟩ := hcut
 cases kq with
 | zero => exact absurd HA.out (by simp [spec_l09Move.j0])
 | succ kj5 =>
  have H := HA.out
  clear HA
  simp only [spec_l09Move.j0] at H
  replace H := ib_ H
  rcases H with ⟨rfl, H⟩ | ⟨rfl, H⟩
  ·replace H := oc_ H
   obtain ⟨t157, A24, H⟩ := H
   replace H := oc_ H
   obtain ⟨⟨t158, t159, t160, t161⟩, A25, H⟩ := H
   simp only [Option.some.injEq, Prod.mk.injEq] at H
   obtain ⟨rfl, rfl, rfl, rfl, rfl⟩ := H
   try go_wp2
   replace BK150 := bd_ BK150
   replace BK151 := bd_ BK151
   replace BK152 := bd_ BK152
   replace HB := be_ HB
   refine start_ (n := 23) (S := fun w' => w'.cell? ⟨gb150, 0, none⟩ = some (.int .i64 a1_0) ∧ w'.cell? ⟨gb150, 1, none⟩ = some (.int .i64 a1_1) ∧ w'.cell? ⟨gb150, 2, none⟩ = some (.int .i64 a1_2) ∧ w'.cell? ⟨gb150, 3, none⟩ = some (.int .i64 a1_3) ∧ w'.cell? ⟨gb151, 0, none⟩ = some (.int .i64 a2_0) ∧ w'.cell? ⟨gb151, 1, none⟩ = some (.int .i64 a2_1) ∧ w'.cell? ⟨gb151, 2, none⟩ = some (.int .i64 a2_2) ∧ w'.cell? ⟨gb151, 3, none⟩ = some (.bool a2_3)) (ds := []) (bv_ 23 0) (by kernel_rfl) rfl rfl ⟨cz_ BK150 0, cz_ BK150 1, cz_ BK150 2, cz_ BK150 3, cz_ BK151 0, cz_ BK151 1, cz_ BK151 2, cz_ BK151 3⟩ (fun hHeld => ?_); refine with_tabW spec_l09Move.tab10 spec_l09Move.bits10 (fun HT_ HW_ => ?_)
   generalize wc.drew = w26 at BK150 BK151 BK152 HB hHeld ⊢
   refine px_ HT_ 0 123 1 ?_
   refine px_ HT_ 1 124 3 ?_
   refine px_ HT_ 2 125 7 ?_
   refine px_ HT_ 4 127 23 ?_
   refine px_ HT_ 5 128 55 ?_
   refine px_ HT_ 6 129 119 ?_
   refine px_ HT_ 7 130 247 ?_
   refine px_ HT_ 11 134 2295 ?_
   refine px_ HT_ 12 135 6391 ?_
   refine ta_ HT_ HW_ 3 (some 126) (bv_ 23 6399) hHeld ?_ (hy := by rintro w' ⟨s0, s1, s2, s3, s4, s5, s6, s7⟩; go_simp; with_reducible rfl)
   refine ta_ HT_ HW_ 13 (some 136) (bv_ 23 14591) hHeld ?_ (hy := by rintro w' ⟨s0, s1, s2, s3, s4, s5, s6, s7⟩; go_simp; with_reducible rfl)
   refine join_ (σ := Nat) 2 (bv_ 23 2097151) (fun s_ => [(131, .int .i64 t157), (139, .tuple #[.agg #[.int .i64 t158, .int .i64 t159, .int .i64 t160], .bool t161]), (17, .pointer (some ⟨s_, 0, none⟩)), (132, .int .i64 (wrap64 (2 * t157))), (133, .int .i64 (wrap64 (t154 - (wrap64 (2 * t157))))), (137, .int .i64 (wrap64 ((wrap64 (t154 - (wrap64 (2 * t157)))) - a2_0))), (138, .int .i64 (wrap64 ((wrap64 ((wrap64 (t154 - (wrap64 (2 * t157)))) - a2_0)) + 1))), (122, .tuple #[.agg #[.int .i64 t158, .int .i64 t159, .int .i64 t160], .bool t161]), (140, .agg #[.int .i64 t158, .int .i64 t159, .int .i64 t160]), (141, .bool t161)]) (fun s_ w' => (w'.cell? ⟨gb150, 0, none⟩ = some (.int .i64 a1_0) ∧ w'.cell? ⟨gb150, 1, none⟩ = some (.int .i64 a1_1) ∧ w'.cell? ⟨gb150, 2, none⟩ = some (.int .i64 a1_2) ∧ w'.cell? ⟨gb150, 3, none⟩ = some (.int .i64 a1_3) ∧ w'.cell? ⟨gb151, 0, none⟩ = some (.int .i64 a2_0) ∧ w'.cell? ⟨gb151, 1, none⟩ = some (.int .i64 a2_1) ∧ w'.cell? ⟨gb151, 2, none⟩ = some (.int .i64 a2_2) ∧ w'.cell? ⟨gb151, 3, none⟩ = some (.bool a2_3)) ∧ (w'.heap[gb150]? = some (.cells #[.int .i64 a1_0, .int .i64 a1_1, .int .i64 a1_2, .int .i64 a1_3] 46 (0, 0))) ∧ (w'.heap[gb151]? = some (.cells #[.int .i64 a2_0, .int .i64 a2_1, .int .i64 a2_2, .bool a2_3] 150 (0, 0))) ∧ (w'.heap[gb152]? = some (.cells #[.int .i64 0, .int .i64 0, .int .i64 0, .bool false] 150 (0, 0))) ∧ (w'.heap[s_]? = some (.cells #[.int .i64 0, .int .i64 0, .int .i64 0] 25 (0, 0))) ∧ (w.heap.size ≤ s_) ∧ (w.heap.size ≤ s_) ∧ (gb150 ≠ s_) ∧ (s_ ≠ gb150) ∧ (gb151 ≠ s_) ∧ (s_ ≠ gb151) ∧ (gb152 ≠ s_) ∧ (s_ ≠ gb152) ∧ (Below w.heap.size w w')) ?_ ?_
   rotate_left
   ·intro hCont
    refine tw_ HT_ 8 20 (some 131) (some 17) (bv_ 23 14847) (bv_ 23 1063167) (fun K hK => ?_) (fun K hK => ?_)
    ·skip
     refine gs_ Try.func193 #[.int .i64 a0, .int .i64 a1_2] ?_
     with_reducible refine (spec_l01Val.calls kj5 a0 a1_2 t157 _ A24.out).mono ?_
     rintro e w' ⟨rfl, ⟨nd, rfl⟩⟩
     refine ⟨_, rfl, ?_⟩
     refine hK.out _ _ ⟨cz_ BK150 0, cz_ BK150 1, cz_ BK150 2, cz_ BK150 3, cz_ BK151 0, cz_ BK151 1, cz_ BK151 2, cz_ BK151 3⟩ (fun hHeld => ?_)
     clear hK K
     refine nm_ (some 131) ?_
     refine px_ HT_ 9 132 15359 ?_
     refine px_ HT_ 10 133 16383 ?_
     refine px_ HT_ 14 137 32767 ?_
     refine px_ HT_ 15 138 65535 ?_
     refine tw_ HT_ 16 20 (some 139) (some 17) (bv_ 23 131071) (bv_ 23 1114111) (fun K hK => ?_) (fun K hK => ?_)
     ·skip
      refine gs_ Try.func170 #[.int .i64 a0, .int .i64 a1_0, .int .i64 a1_2, .int .i64 (wrap64 ((wrap64 ((wrap64 (t154 - (wrap64 (2 * t157)))) - a2_0)) + 1))] ?_
      with_reducible refine (spec_l01Of.calls kj5 a0 a1_0 a1_2 (wrap64 ((wrap64 ((wrap64 (t154 - (wrap64 (2 * t157)))) - a2_0)) + 1)) t158 t159 t160 t161 _ A25.out).mono ?_
      rintro e w27 ⟨rfl, hb⟩
      refine ⟨_, rfl, ?_⟩
      replace BK150 := bb_ BK150 hb
      replace BK151 := bb_ BK151 hb
      replace BK152 := bb_ BK152 hb
      replace HB := bt_ HB hb
      try clear hb
      refine hK.out _ _ ⟨cz_ BK150 0, cz_ BK150 1, cz_ BK150 2, cz_ BK150 3, cz_ BK151 0, cz_ BK151 1, cz_ BK151 2, cz_ BK151 3⟩ (fun hHeld => ?_)
      clear hK K
      refine nm_ (some 139) ?_
      refine px_ HT_ 17 122 262143 ?_
      refine px_ HT_ 18 140 524287 ?_
      refine px_ HT_ 19 141 1048575 ?_
      refine on_ HT_ 20 (some 17) (bv_ 23 2097151) (fun K hK => ?_)
      refine bz_ 17 #[.int .i64 0, .int .i64 0, .int .i64 0] 25 ?_
      intro gb162 hg w28 BK162 hb
      have GW162 := bs_ HB hg
      have NB150_162 := bm_ BK150 hg
      have NB162_150 := bn_ BK150 hg
      have NB151_162 := bm_ BK151 hg
      have NB162_151 := bn_ BK151 hg
      have NB152_162 := bm_ BK152 hg
      have NB162_152 := bn_ BK152 hg
      replace BK150 := bb_ BK150 hb
      replace BK151 := bb_ BK151 hb
      replace BK152 := bb_ BK152 hb
      replace HB := bt_ HB hb
      clear hb hg
      refine hK.out _ _ ⟨cz_ BK150 0, cz_ BK150 1, cz_ BK150 2, cz_ BK150 3, cz_ BK151 0, cz_ BK151 1, cz_ BK151 2, cz_ BK151 3⟩ (fun hHeld => ?_)
      clear hK K
      refine nm_ (some 17) ?_
      exact norm_ (by simp only [putAll, Act.put, lstS, lstZ, lstC]) (hCont (gb162) _ ⟨hHeld, (bl_ BK150).out, (bl_ BK151).out, (bl_ BK152).out, (bl_ BK162).out, GW162.out, GW162.out, NB150_162.out, NB162_150.out, NB151_162.out, NB162_151.out, NB152_162.out, NB162_152.out, (bw_ HB).out⟩)
     skip
     refine bz_ 17 #[.int .i64 0, .int .i64 0, .int .i64 0] 25 ?_
     intro gb162 hg w27 BK162 hb
     have GW162 := bs_ HB hg
     have NB150_162 := bm_ BK150 hg
     have NB162_150 := bn_ BK150 hg
     have NB151_162 := bm_ BK151 hg
     have NB162_151 := bn_ BK151 hg
     have NB152_162 := bm_ BK152 hg
     have NB162_152 := bn_ BK152 hg
     replace BK150 := bb_ BK150 hb
     replace BK151 := bb_ BK151 hb
     replace BK152 := bb_ BK152 hb
     replace HB := bt_ HB hb
     clear hb hg
     refine hK.out _ _ ⟨cz_ BK150 0, cz_ BK150 1, cz_ BK150 2, cz_ BK150 3, cz_ BK151 0, cz_ BK151 1, cz_ BK151 2, cz_ BK151 3⟩ (fun hHeld => ?_)
     clear hK K
     refine nm_ (some 17) ?_
     refine on_ HT_ 16 (some 139) (bv_ 23 1179647) (fun K hK => ?_)
     refine gs_ Try.func170 #[.int .i64 a0, .int .i64 a1_0, .int .i64 a1_2, .int .i64 (wrap64 ((wrap64 ((wrap64 (t154 - (wrap64 (2 * t157)))) - a2_0)) + 1))] ?_
     with_reducible refine (spec_l01Of.calls kj5 a0 a1_0 a1_2 (wrap64 ((wrap64 ((wrap64 (t154 - (wrap64 (2 * t157)))) - a2_0)) + 1)) t158 t159 t160 t161 _ A25.out).mono ?_
     rintro e w28 ⟨rfl, hb⟩
     refine ⟨_, rfl, ?_⟩
     replace BK150 := bb_ BK150 hb
     replace BK151 := bb_ BK151 hb
     replace BK152 := bb_ BK152 hb
     replace BK162 := bb_ BK162 hb
     replace HB := bt_ HB hb
     try clear hb
     refine hK.out _ _ ⟨cz_ BK150 0, cz_ BK150 1, cz_ BK150 2, cz_ BK150 3, cz_ BK151 0, cz_ BK151 1, cz_ BK151 2, cz_ BK151 3⟩ (fun hHeld => ?_)
     clear hK K
     refine nm_ (some 139) ?_
     refine px_ HT_ 17 122 1310719 ?_
     refine px_ HT_ 18 140 1572863 ?_
     refine px_ HT_ 19 141 2097151 ?_
     exact norm_ (by simp only [putAll, Act.put, lstS, lstZ, lstC]) (hCont (gb162) _ ⟨hHeld, (bl_ BK150).out, (bl_ BK151).out, (bl_ BK152).out, (bl_ BK162).out, GW162.out, GW162.out, NB150_162.out, NB162_150.out, NB151_162.out, NB162_151.out, NB152_162.out, NB162_152.out, (bw_ HB).out⟩)
    skip
    refine bz_ 17 #[.int .i64 0, .int .i64 0, .int .i64 0] 25 ?_
    intro gb162 hg w27 BK162 hb
    have GW162 := bs_ HB hg
    have NB150_162 := bm_ BK150 hg
    have NB162_150 := bn_ BK150 hg
    have NB151_162 := bm_ BK151 hg
    have NB162_151 := bn_ BK151 hg
    have NB152_162 := bm_ BK152 hg
    have NB162_152 := bn_ BK152 hg
    replace BK150 := bb_ BK150 hb
    replace BK151 := bb_ BK151 hb
    replace BK152 := bb_ BK152 hb
    replace HB := bt_ HB hb
    clear hb hg
    refine hK.out _ _ ⟨cz_ BK150 0, cz_ BK150 1, cz_ BK150 2, cz_ BK150 3, cz_ BK151 0, cz_ BK151 1, cz_ BK151 2, cz_ BK151 3⟩ (fun hHeld => ?_)
    clear hK K
    refine nm_ (some 17) ?_
    refine on_ HT_ 8 (some 131) (bv_ 23 1063423) (fun K hK => ?_)
    refine gs_ Try.func193 #[.int .i64 a0, .int .i64 a1_2] ?_
    with_reducible refine (spec_l01Val.calls kj5 a0 a1_2 t157 _ A24.out).mono ?_
    rintro e w' ⟨rfl, ⟨nd, rfl⟩⟩
    refine ⟨_, rfl, ?_⟩
    refine hK.out _ _ ⟨cz_ BK150 0, cz_ BK150 1, cz_ BK150 2, cz_ BK150 3, cz_ BK151 0, cz_ BK151 1, cz_ BK151 2, cz_ BK151 3⟩ (fun hHeld => ?_)
    clear hK K
    refine nm_ (some 131) ?_
    refine px_ HT_ 9 132 1063935 ?_
    refine px_ HT_ 10 133 1064959 ?_
    refine px_ HT_ 14 137 1081343 ?_
    refine px_ HT_ 15 138 1114111 ?_
    refine on_ HT_ 16 (some 139) (bv_ 23 1179647) (fun K hK => ?_)
    refine gs_ Try.func170 #[.int .i64 a0, .int .i64 a1_0, .int .i64 a1_2, .int .i64 (wrap64 ((wrap64 ((wrap64 (t154 - (wrap64 (2 * t157)))) - a2_0)) + 1))] ?_
    with_reducible refine (spec_l01Of.calls kj5 a0 a1_0 a1_2 (wrap64 ((wrap64 ((wrap64 (t154 - (wrap64 (2 * t157)))) - a2_0)) + 1)) t158 t159 t160 t161 _ A25.out).mono ?_
    rintro e w28 ⟨rfl, hb⟩
    refine ⟨_, rfl, ?_⟩
    replace BK150 := bb_ BK150 hb
    replace BK151 := bb_ BK151 hb
    replace BK152 := bb_ BK152 hb
    replace BK162 := bb_ BK162 hb
    replace HB := bt_ HB hb
    try clear hb
    refine hK.out _ _ ⟨cz_ BK150 0, cz_ BK150 1, cz_ BK150 2, cz_ BK150 3, cz_ BK151 0, cz_ BK151 1, cz_ BK151 2, cz_ BK151 3⟩ (fun hHeld => ?_)
    clear hK K
    refine nm_ (some 139) ?_
    refine px_ HT_ 17 122 1310719 ?_
    refine px_ HT_ 18 140 1572863 ?_
    refine px_ HT_ 19 141 2097151 ?_
    exact norm_ (by simp only [putAll, Act.put, lstS, lstZ, lstC]) (hCont (gb162) _ ⟨hHeld, (bl_ BK150).out, (bl_ BK151).out, (bl_ BK152).out, (bl_ BK162).out, GW162.out, GW162.out, NB150_162.out, NB162_150.out, NB151_162.out, NB162_151.out, NB152_162.out, NB162_152.out, (bw_ HB).out⟩)
   rintro gb162 w29 ⟨hS_, h0_, h1_, h2_, h3_, h4_, h5_, h6_, h7_, h8_, h9_, h10_, h11_, h12_⟩
   clear BK150 BK151 BK152 HB
   have BK150 := Aside0.mk h0_
   have BK151 := Aside0.mk h1_
   have BK152 := Aside0.mk h2_
   have BK162 := Aside0.mk h3_
   have GW162 := Aside0.mk h4_
   have GW162 := Aside0.mk h5_
   have NB150_162 := Aside0.mk h6_
   have NB162_150 := Aside0.mk h7_
   have NB151_162 := Aside0.mk h8_
   have NB162_151 := Aside0.mk h9_
   have NB152_162 := Aside0.mk h10_
   have NB162_152 := Aside0.mk h11_
   have HB := Aside0.mk h12_
   clear h0_ h1_ h2_ h3_ h4_ h5_ h6_ h7_ h8_ h9_ h10_ h11_ h12_
   have hHeld : w29.cell? ⟨gb150, 0, none⟩ = some (.int .i64 a1_0) ∧ w29.cell? ⟨gb150, 1, none⟩ = some (.int .i64 a1_1) ∧ w29.cell? ⟨gb150, 2, none⟩ = some (.int .i64 a1_2) ∧ w29.cell? ⟨gb150, 3, none⟩ = some (.int .i64 a1_3) ∧ w29.cell? ⟨gb151, 0, none⟩ = some (.int .i64 a2_0) ∧ w29.cell? ⟨gb151, 1, none⟩ = some (.int .i64 a2_1) ∧ w29.cell? ⟨gb151, 2, none⟩ = some (.int .i64 a2_2) ∧ w29.cell? ⟨gb151, 3, none⟩ = some (.bool a2_3) := hS_
   refine norm_ (a' := ?_) ?_ ?_
   rotate_left
   ·simp only [putAll, Act.put, lstS, lstZ, lstC]
    rfl
   refine on_ HT_ 21 none (bv_ 23 4194303) (fun K hK => ?_)
   have hs30 : w29.cell? ⟨gb162, 0, none⟩ = some (.int .i64 0) := (blk_cell BK162.out 0).trans rfl
   have hfs30 := blk_frozen BK162.out 0
   have hns30_0 := NB150_162.out
   have hns30_1 := NB151_162.out
   have hns30_2 := NB152_162.out
   have hms30_0 := NB162_150.out
   have hms30_1 := NB162_151.out
   have hms30_2 := NB162_152.out
   have hs31 : w29.cell? ⟨gb162, 1, none⟩ = some (.int .i64 0) := (blk_cell BK162.out 1).trans rfl
   have hfs31 := blk_frozen BK162.out 1
   have hns31_0 := NB150_162.out
   have hns31_1 := NB151_162.out
   have hns31_2 := NB152_162.out
   have hms31_0 := NB162_150.out
   have hms31_1 := NB162_151.out
   have hms31_2 := NB162_152.out
   have hs32 : w29.cell? ⟨gb162, 2, none⟩ = some (.int .i64 0) := (blk_cell BK162.out 2).trans rfl
   have hfs32 := blk_frozen BK162.out 2
   have hns32_0 := NB150_162.out
   have hns32_1 := NB151_162.out
   have hns32_2 := NB152_162.out
   have hms32_0 := NB162_150.out
   have hms32_1 := NB162_151.out
   have hms32_2 := NB162_152.out
   refine skip_ (w1 := ?_) (by rfl) rfl ?_ ?_
   rotate_left
   ·go_simp
    rfl
   refine hK.out _ _ ⟨(cg_ NB150_162 ((cg_ NB150_162 ((cg_ NB150_162 (hHeld.1)))))), (cg_ NB150_162 ((cg_ NB150_162 ((cg_ NB150_162 (hHeld.2.1)))))), (cg_ NB150_162 ((cg_ NB150_162 ((cg_ NB150_162 (hHeld.2.2.1)))))), (cg_ NB150_162 ((cg_ NB150_162 ((cg_ NB150_162 (hHeld.2.2.2.1)))))), (cg_ NB151_162 ((cg_ NB151_162 ((cg_ NB151_162 (hHeld.2.2.2.2.1)))))), (cg_ NB151_162 ((cg_ NB151_162 ((cg_ NB151_162 (hHeld.2.2.2.2.2.1)))))), (cg_ NB151_162 ((cg_ NB151_162 ((cg_ NB151_162 (hHeld.2.2.2.2.2.2.1)))))), (cg_ NB151_162 ((cg_ NB151_162 ((cg_ NB151_162 (hHeld.2.2.2.2.2.2.2))))))⟩ (fun hHeld => ?_)
   clear hK K
   refine px_ HT_ 22 18 8388607 ?_
   refine done_ (done_of HT_.out (by kernel_rfl)) ?_
   have hnb33 := NB162_150.out
   have hnc33 := NB150_162.out
   have hnb34 := NB162_151.out
   have hnc34 := NB151_162.out
   have hnb35 := NB162_152.out
   have hnc35 := NB152_162.out
   obtain ⟨hcz36_0, hcz36_1, hcz36_2, hfz36_0, hfz36_1, hfz36_2⟩ := ch3_ BK162
   have hnb37 := NB151_150.out
   have hnc37 := NB150_151.out
   have hnb38 := NB151_152.out
   have hnc38 := NB152_151.out
   obtain ⟨hcz39_0, hcz39_1, hcz39_2, hcz39_3, hfz39_0, hfz39_1, hfz39_2, hfz39_3⟩ := ch4_ BK151
   have hnb40 := NB152_150.out
   have hnc40 := NB150_152.out
   obtain ⟨hcz41_0, hcz41_1, hcz41_2, hcz41_3, hfz41_0, hfz41_1, hfz41_2, hfz41_3⟩ := ch4_ BK152
   try go_wp2
   refine bodyPost_ret (results_ct rfl _ _ gb152 150 #[.int .i64 t158, .int .i64 t159, .int .i64 t160, .bool (!a2_3)] (0, 0) _ rfl (bp_ BK152).out Try.underlying150 rfl (by kernel_rfl)) rfl ?_
   exact ⟨es_, (bw_ HB).out⟩
  replace H := oc_ H
  obtain ⟨t163, A42, H⟩ := H
  replace H := oc_ H
  obtain ⟨⟨t164, t165, t166, t167⟩, A43, H⟩ := H
  simp only [Option.some.injEq, Prod.mk.injEq] at H
  obtain ⟨rfl, rfl, rfl, rfl, rfl⟩ := H
  try go_wp2
  replace BK150 := bd_ BK150
  replace BK151 := bd_ BK151
  replace BK152 := bd_ BK152
  replace HB := be_ HB
  refine start_ (n := 15) (S := fun w' => w'.cell? ⟨gb151, 0, none⟩ = some (.int .i64 a2_0) ∧ w'.cell? ⟨gb151, 1, none⟩ = some (.int .i64 a2_1) ∧ w'.cell? ⟨gb151, 2, none⟩ = some (.int .i64 a2_2) ∧ w'.cell? ⟨gb151, 3, none⟩ = some (.bool a2_3)) (ds := []) (bv_ 15 0) (by kernel_rfl) rfl rfl ⟨cz_ BK151 0, cz_ BK151 1, cz_ BK151 2, cz_ BK151 3⟩ (fun hHeld => ?_); refine with_tabW spec_l09Move.tab7 spec_l09Move.bits7 (fun HT_ HW_ => ?_)
  generalize wc.drew = w44 at BK150 BK151 BK152 HB hHeld ⊢
  refine px_ HT_ 0 95 1 ?_
  refine px_ HT_ 1 96 3 ?_
  refine px_ HT_ 2 97 7 ?_
  refine px_ HT_ 5 100 39 ?_
  refine px_ HT_ 6 101 103 ?_
  refine px_ HT_ 8 103 359 ?_
  refine px_ HT_ 9 104 871 ?_
  refine ta_ HT_ HW_ 3 (some 98) (bv_ 15 879) hHeld ?_ (hy := by rintro w' ⟨s0, s1, s2, s3⟩; go_simp; with_reducible rfl)
  refine px_ HT_ 4 99 895 ?_
  refine ta_ HT_ HW_ 10 (some 105) (bv_ 15 1919) hHeld ?_ (hy := by rintro w' ⟨s0, s1, s2, s3⟩; go_simp; with_reducible rfl)
  refine on_ HT_ 7 (some 102) (bv_ 15 2047) (fun K hK => ?_)
  refine gs_ Try.func193 #[.int .i64 a0, .int .i64 (wrap64 ((wrap64 (a1_2 * a2_1)) + (wrap64 (a1_3 * t153))))] ?_
  with_reducible refine (spec_l01Val.calls kj5 a0 (wrap64 ((wrap64 (a1_2 * a2_1)) + (wrap64 (a1_3 * t153)))) t163 _ A42.out).mono ?_
  rintro e w' ⟨rfl, ⟨nd, rfl⟩⟩
  refine ⟨_, rfl, ?_⟩
  refine hK.out _ _ ⟨cz_ BK151 0, cz_ BK151 1, cz_ BK151 2, cz_ BK151 3⟩ (fun hHeld => ?_)
  clear hK K
  refine nm_ (some 102) ?_
  refine px_ HT_ 11 106 4095 ?_
  refine px_ HT_ 12 107 8191 ?_
  refine px_ HT_ 13 108 16383 ?_
  refine px_ HT_ 14 14 32767 ?_
  refine done_ (done_of HT_.out (by kernel_rfl)) ?_
  try go_wp2_with (first | ((refine gc_ 170 ?_); refine ge_ 114 Try.func170 #[.int .i64 a0, .int .i64 (wrap64 ((wrap64 (a1_0 * a2_1)) + (wrap64 (a1_1 * t153)))), .int .i64 (wrap64 ((wrap64 (a1_2 * a2_1)) + (wrap64 (a1_3 * t153)))), .int .i64 (wrap64 ((wrap64 (t154 + a2_0)) - (wrap64 (2 * (wrap64 (t163 - a2_2))))))] ?_; (with_reducible refine (spec_l01Of.calls kj5 a0 (wrap64 ((wrap64 (a1_0 * a2_1)) + (wrap64 (a1_1 * t153)))) (wrap64 ((wrap64 (a1_2 * a2_1)) + (wrap64 (a1_3 * t153)))) (wrap64 ((wrap64 (t154 + a2_0)) - (wrap64 (2 * (wrap64 (t163 - a2_2)))))) t164 t165 t166 t167 _ A43.out).mono ?_); rintro e w45 ⟨rfl, hb⟩; refine ⟨_, rfl, ?_⟩; replace BK150 := bb_ BK150 hb; replace BK151 := bb_ BK151 hb; replace BK152 := bb_ BK152 hb; replace HB := bt_ HB hb; (try clear hb)) | ((refine gd_ 15 ?_); refine by_ 15 #[.int .i64 0, .int .i64 0, .int .i64 0] 25 HB ?_; intro gb168 hg w46 BK168 hb GW168 HB_; have NB150_168 := bm_ BK150 hg; have NB168_150 := bn_ BK150 hg; have NB151_168 := bm_ BK151 hg; have NB168_151 := bn_ BK151 hg; have NB152_168 := bm_ BK152 hg; have NB168_152 := bn_ BK152 hg; replace BK150 := bb_ BK150 hb; replace BK151 := bb_ BK151 hb; replace BK152 := bb_ BK152 hb; replace HB := HB_; clear hb hg; have hnb47 := NB168_150.out; have hnc47 := NB150_168.out; have hnb48 := NB168_151.out; have hnc48 := NB151_168.out; have hnb49 := NB168_152.out; have hnc49 := NB152_168.out; obtain ⟨hcz50_0, hcz50_1, hcz50_2, hfz50_0, hfz50_1, hfz50_2⟩ := ch3_ BK168; have hnb51 := NB151_150.out; have hnc51 := NB150_151.out; have hnb52 := NB151_152.out; have hnc52 := NB152_151.out; obtain ⟨hcz53_0, hcz53_1, hcz53_2, hcz53_3, hfz53_0, hfz53_1, hfz53_2, hfz53_3⟩ := ch4_ BK151; have hnb54 := NB152_150.out; have hnc54 := NB150_152.out; obtain ⟨hcz55_0, hcz55_1, hcz55_2, hcz55_3, hfz55_0, hfz55_1, hfz55_2, hfz55_3⟩ := ch4_ BK152))
  refine bodyPost_ret (results_ct rfl _ _ gb152 150 #[.int .i64 t164, .int .i64 t165, .int .i64 t166, .bool a2_3] (0, 0) _ rfl (bp_ BK152).out Try.underlying150 rfl (by kernel_rfl)) rfl ?_
  exact ⟨es_, (bw_ HB).out⟩
end Go.Proofs.Ytgoeelhiffbjlaa.QB
