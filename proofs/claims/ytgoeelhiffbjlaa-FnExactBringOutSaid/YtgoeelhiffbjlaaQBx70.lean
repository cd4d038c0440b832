import Derived.Test.YtgoeelhiffbjlaaQBx68
namespace Go.Proofs.Ytgoeelhiffbjlaa.QB
set_option maxHeartbeats 8000000
set_option maxRecDepth 100000
open Go.RowKit YtgoeelhiffbjlaaW.PrintWords YtgoeelhiffbjlaaW.PrintLast YtgoeelhiffbjlaaW.PrintMore
attribute [local go_sem] isSome_setCell max2_int min2_int max_two min_two max_three min_three max_four min_four
set_option linter.unusedVariables false
set_option linter.unusedSimpArgs false
def impl_moveSide.j0 : Nat → Int → Int → Int → Int → Int → Bool → Int → Int → Int → Int → Int → Int → Int → Bool → Option (Int × Int × Int × Bool × Bool)
 | 0, _, _, _, _, _, _, _, _, _, _, _, _, _, _ => none
 | k + 1, x0, x10, x11, x12, x13, x70, x393000, x393001, x393002, x393003, x394000, x394001, x394002, x394003 => if x70 = true then ((impl_ballAt.f k x0 x393000 x393002 (wrap64 ((wrap64 ((wrap64 (x12 - (wrap64 (2 * x13)))) - x394000)) + 1))).bind fun bt401 => (some (bt401.1, bt401.2.1, bt401.2.2.1, !x394003, bt401.2.2.2))) else ((impl_valuation.f k x0 x11).bind fun t406 => ((impl_ballAt.f k x0 x10 x11 (wrap64 ((wrap64 (x394000 + x12)) - (wrap64 (2 * (wrap64 (t406 - 6))))))).bind fun bt407 => (some (bt407.1, bt407.2.1, bt407.2.2.1, x394003, bt407.2.2.2))))
def impl_moveSide.f (k : Nat) (a0 a1_0 a1_1 a1_2 a1_3 a2_0 a2_1 a2_2 : Int) (a2_3 : Bool) : Option (Int × Int × Int × Bool × Bool) := (impl_mark.f k a0 a2_0 a2_1 a2_2).bind fun t395 => ((impl_power.f k a0 6).bind fun t396 => ((impl_determinant.f a1_0 a1_1 a1_2 a1_3).bind fun t397 => ((impl_valuation.f k a0 t397).bind fun t398 => ((impl_valuation.f k a0 a1_2).bind fun t399 => (if a1_2 = 0 then (impl_moveSide.j0 k a0 (wrap64 ((wrap64 (a1_0 * t395)) + (wrap64 (a1_1 * t396)))) (wrap64 ((wrap64 (a1_2 * t395)) + (wrap64 (a1_3 * t396)))) t398 t399 false a1_0 a1_1 a1_2 a1_3 a2_0 a2_1 a2_2 a2_3) else ((impl_valuation.f k a0 (wrap64 ((wrap64 (a1_2 * t395)) + (wrap64 (a1_3 * t396))))).bind fun t400 => (impl_moveSide.j0 k a0 (wrap64 ((wrap64 (a1_0 * t395)) + (wrap64 (a1_1 * t396)))) (wrap64 ((wrap64 (a1_2 * t395)) + (wrap64 (a1_3 * t396)))) t398 t399 (decide ((wrap64 (t400 - 6)) ≥ (wrap64 (a2_0 + t399)))) a1_0 a1_1 a1_2 a1_3 a2_0 a2_1 a2_2 a2_3)))))))
def impl_moveSide.T2 : Bool × List (List Nat × List Nat) := (true, [([], []), ([0], [0]), ([1], [1]), ([], []), ([2, 3], [2, 3]), ([], []), ([5], [5]), ([6], [6]), ([], []), ([7, 8], [7, 8]), ([4, 9], [4, 9]), ([], []), ([11], [11]), ([12], [12]), ([], []), ([13, 14], [13, 14]), ([], []), ([16], [16]), ([17], [17]), ([], []), ([18, 19], [18, 19]), ([15, 20], [15, 20]), ([10, 0, 1, 2, 3, 4, 5, 6, 7, 8, 9, 10], [10]), ([21, 22, 0, 1, 2, 3, 4, 5, 6, 7, 8, 9, 10, 11, 12, 13, 14, 15, 16, 17, 18, 19, 20, 21, 22], [21])])
def impl_moveSide.B2 : List Nat := [0, 1, 3, 0, 15, 0, 32, 96, 0, 480, 1023, 0, 2048, 6144, 0, 30720, 0, 65536, 196608, 0, 983040, 2095104, 2047, 8388607]
theorem impl_moveSide.tab2 : rtab .any (opsOf Try.f199 2) = impl_moveSide.T2 := by kernel_rfl
theorem impl_moveSide.bits2 : waitsOk impl_moveSide.T2.2 impl_moveSide.B2 = true := by kernel_rfl
def impl_moveSide.T5 : Bool × List (List Nat × List Nat) := (true, [([], []), ([0], [0]), ([1], [1]), ([2], [2]), ([3], [3]), ([4], [4]), ([4], [4]), ([5, 6, 4, 4], [4, 5, 6]), ([7, 4], [4, 7]), ([4], [4]), ([9, 4], [4, 9]), ([10, 4], [4, 10]), ([4], [4]), ([11, 12, 4], [4, 11, 12]), ([8, 13, 4], [4, 8, 13]), ([4, 14], [4, 14])])
def impl_moveSide.B5 : List Nat := [0, 1, 3, 7, 15, 31, 31, 127, 255, 31, 543, 1567, 31, 7711, 16383, 32767]
theorem impl_moveSide.tab5 : rtab .any (opsOf Try.f199 5) = impl_moveSide.T5 := by kernel_rfl
theorem impl_moveSide.bits5 : waitsOk impl_moveSide.T5.2 impl_moveSide.B5 = true := by kernel_rfl
def impl_moveSide.T8 : Bool × List (List Nat × List Nat) := (true, [([], []), ([], []), ([], []), ([], []), ([3], [3]), ([4], [4]), ([], []), ([5, 6], [5, 6]), ([], []), ([], []), ([8, 9], [8, 9]), ([10], [10]), ([11], [11]), ([7, 12], [7, 12]), ([0, 1, 2, 13, 10], [0, 1, 2, 13]), ([14], [14]), ([15], [15]), ([15], [15]), ([], []), ([18, 16, 14, 0, 1, 2, 3, 4, 5, 6, 7, 8, 9, 10, 11, 12, 13, 14, 15, 16, 18], [16, 18]), ([17, 19, 0, 1, 2, 3, 4, 5, 6, 7, 8, 9, 10, 11, 12, 13, 14, 15, 16, 17, 18, 19], [17])])
def impl_moveSide.B8 : List Nat := [0, 0, 0, 0, 8, 24, 0, 120, 0, 0, 768, 1792, 3840, 8184, 16383, 32767, 65535, 65535, 0, 393215, 1048575]
theorem impl_moveSide.tab8 : rtab .any (opsOf Try.f199 8) = impl_moveSide.T8 := by kernel_rfl
theorem impl_moveSide.bits8 : waitsOk impl_moveSide.T8.2 impl_moveSide.B8 = true := by kernel_rfl
theorem impl_moveSide.calls (k : Nat) (a0 a1_0 a1_1 a1_2 a1_3 a2_0 a2_1 a2_2 : Int) (a2_3 : Bool) (r1 r2 r3 : Int) (r4 r5 : Bool) (w : World) (h : impl_moveSide.f k a0 a1_0 a1_1 a1_2 a1_3 a2_0 a2_1 a2_2 a2_3 = some (r1, r2, r3, r4, r5)) :
  Calls Try.prog 199 #[.int .i64 a0, .agg #[.int .i64 a1_0, .int .i64 a1_1, .int .i64 a1_2, .int .i64 a1_3], .agg #[.int .i64 a2_0, .int .i64 a2_1, .int .i64 a2_2, .bool a2_3]] w fun e w' => e = .returned (.tuple #[.agg #[.int .i64 r1, .int .i64 r2, .int .i64 r3, .bool r4], .bool r5]) ∧ Below w.heap.size w w' := by
 have hu46 := Try.underlying46
 have hu150 := Try.underlying150
 have hu25 := Try.underlying25
 have hu44 := Try.underlying44
 have HB := Aside0.mk (Below.refl w.heap.size w)
 unfold impl_moveSide.f at h
 have H := h
 clear h
 replace H := oc_ H
 obtain ⟨t395, A4, H⟩ := H
 replace H := oc_ H
 obtain ⟨t396, A5, H⟩ := H
 replace H := oc_ H
 obtain ⟨t397, A6, H⟩ := H
 replace H := oc_ H
 obtain ⟨t398, A7, H⟩ := H
 replace H := oc_ H
 obtain ⟨t399, A8, H⟩ := H
 have HC9 := Aside0.mk H
 clear H
 go_enter Try.func199, Try.ntmps199
 try go_wp2_with (first | ((refine gd_ 4 ?_); refine by_ 4 #[.int .i64 a1_0, .int .i64 a1_1, .int .i64 a1_2, .int .i64 a1_3] 46 HB ?_; intro gb392 hg w10 BK392 hb GW392 HB_; replace HB := HB_; clear hb hg) | ((refine gd_ 5 ?_); refine by_ 5 #[.int .i64 a2_0, .int .i64 a2_1, .int .i64 a2_2, .bool a2_3] 150 HB ?_; intro gb393 hg w11 BK393 hb GW393 HB_; have NB392_393 := bm_ BK392 hg; have NB393_392 := bn_ BK392 hg; replace BK392 := bb_ BK392 hb; replace HB := HB_; clear hb hg) | ((refine gd_ 6 ?_); refine by_ 6 #[.int .i64 0, .int .i64 0, .int .i64 0, .bool false] 150 HB ?_; intro gb394 hg w12 BK394 hb GW394 HB_; have NB392_394 := bm_ BK392 hg; have NB394_392 := bn_ BK392 hg; have NB393_394 := bm_ BK393 hg; have NB394_393 := bn_ BK393 hg; replace BK392 := bb_ BK392 hb; replace BK393 := bb_ BK393 hb; replace HB := HB_; clear hb hg; have hnb13 := NB393_392.out; have hnc13 := NB392_393.out; have hnb14 := NB393_394.out; have hnc14 := NB394_393.out; obtain ⟨hcz15_0, hcz15_1, hcz15_2, hcz15_3, hfz15_0, hfz15_1, hfz15_2, hfz15_3⟩ := ch4_ BK393) | ((refine gc_ 163 ?_); refine ge_ 21 Try.func163 #[.int .i64 a0, .agg #[.int .i64 a2_0, .int .i64 a2_1, .int .i64 a2_2]] ?_; (with_reducible refine (impl_mark.calls k a0 a2_0 a2_1 a2_2 t395 _ A4.out).mono ?_); rintro e w16 ⟨rfl, hb⟩; refine ⟨_, rfl, ?_⟩; replace BK392 := bb_ BK392 hb; replace BK393 := bb_ BK393 hb; replace BK394 := bb_ BK394 hb; replace HB := bt_ HB hb; (try clear hb)) | ((refine gc_ 162 ?_); refine ge_ 23 Try.func162 #[.int .i64 a0, .int .i64 6] ?_; (with_reducible refine (impl_power.calls k a0 6 t396 _ A5.out).mono ?_); rintro e w' ⟨rfl, ⟨nd, rfl⟩⟩; refine ⟨_, rfl, ?_⟩))
 (try (rw [drewN_self w16]; generalize hq_ : World.drewN w16 _ = w16; replace BK392 := bq_ BK392 hq_; replace BK393 := bq_ BK393 hq_; replace BK394 := bq_ BK394 hq_; replace HB := hq_' HB hq_; clear hq_))
 replace BK392 := bd_ BK392
 replace BK393 := bd_ BK393
 replace BK394 := bd_ BK394
 replace HB := be_ HB
 refine start_ (n := 24) (S := fun w' => w'.cell? ⟨gb392, 0, none⟩ = some (.int .i64 a1_0) ∧ w'.cell? ⟨gb392, 1, none⟩ = some (.int .i64 a1_1) ∧ w'.cell? ⟨gb392, 2, none⟩ = some (.int .i64 a1_2) ∧ w'.cell? ⟨gb392, 3, none⟩ = some (.int .i64 a1_3)) (ds := []) (bv_ 24 0) (by kernel_rfl) rfl rfl ⟨cz_ BK392 0, cz_ BK392 1, cz_ BK392 2, cz_ BK392 3⟩ (fun hHeld => ?_); refine with_tabW impl_moveSide.tab2 impl_moveSide.bits2 (fun HT_ HW_ => ?_)
 generalize w16.drew = w17 at BK392 BK393 BK394 HB hHeld ⊢
 refine px_ HT_ 0 24 1 ?_
 refine px_ HT_ 1 25 3 ?_
 refine px_ HT_ 3 27 11 ?_
 refine px_ HT_ 5 29 43 ?_
 refine px_ HT_ 6 30 107 ?_
 refine px_ HT_ 8 32 363 ?_
 refine px_ HT_ 11 35 2411 ?_
 refine px_ HT_ 12 36 6507 ?_
 refine px_ HT_ 14 38 22891 ?_
 refine px_ HT_ 16 40 88427 ?_
 refine px_ HT_ 17 41 219499 ?_
 refine px_ HT_ 19 43 743787 ?_
 refine ta_ HT_ HW_ 2 (some 26) (bv_ 24 743791) hHeld ?_ (hy := by rintro w' ⟨s0, s1, s2, s3⟩; go_simp; with_reducible rfl)
 refine px_ HT_ 4 28 743807 ?_
 refine ta_ HT_ HW_ 7 (some 31) (bv_ 24 743935) hHeld ?_ (hy := by rintro w' ⟨s0, s1, s2, s3⟩; go_simp; with_reducible rfl)
 refine px_ HT_ 9 33 744447 ?_
 refine px_ HT_ 10 34 745471 ?_
 refine px_ HT_ 22 10 4939775 ?_
 refine ta_ HT_ HW_ 13 (some 37) (bv_ 24 4947967) hHeld ?_ (hy := by rintro w' ⟨s0, s1, s2, s3⟩; go_simp; with_reducible rfl)
 refine px_ HT_ 15 39 4980735 ?_
 refine ta_ HT_ HW_ 18 (some 42) (bv_ 24 5242879) hHeld ?_ (hy := by rintro w' ⟨s0, s1, s2, s3⟩; go_simp; with_reducible rfl)
 refine px_ HT_ 20 44 6291455 ?_
 refine px_ HT_ 21 45 8388607 ?_
 refine px_ HT_ 23 11 16777215 ?_
 refine done_ (done_of HT_.out (by kernel_rfl)) ?_
 have hnb18 := NB392_394.out
 have hnc18 := NB394_392.out
 obtain ⟨hcz19_0, hcz19_1, hcz19_2, hcz19_3, hfz19_0, hfz19_1, hfz19_2, hfz19_3⟩ := ch4_ BK392
 go_upto_region 5 with (first | ((refine gc_ 103 ?_); refine ge_ 48 Try.func103 #[.agg #[.int .i64 a1_0, .int .i64 a1_1, .int .i64 a1_2, .int .i64 a1_3]] ?_; (with_reducible refine (impl_determinant.calls a1_0 a1_1 a1_2 a1_3 t397 _ A6.out).mono ?_); rintro e w20 ⟨rfl, hb⟩; refine ⟨_, rfl, ?_⟩; replace BK392 := bb_ BK392 hb; replace BK393 := bb_ BK393 hb; replace BK394 := bb_ BK394 hb; replace HB := bt_ HB hb; (try clear hb)) | ((refine gc_ 164 ?_); refine ge_ 49 Try.func164 #[.int .i64 a0, .int .i64 t397] ?_; (with_reducible refine (impl_valuation.calls k a0 t397 t398 _ A7.out).mono ?_); rintro e w' ⟨rfl, ⟨nd, rfl⟩⟩; refine ⟨_, rfl, ?_⟩; obtain ⟨hcz21_0, hcz21_1, hcz21_2, hcz21_3, hfz21_0, hfz21_1, hfz21_2, hfz21_3⟩ := ch4_ BK392) | ((refine gc_ 164 ?_); refine ge_ 54 Try.func164 #[.int .i64 a0, .int .i64 a1_2] ?_; (with_reducible refine (impl_valuation.calls k a0 a1_2 t399 _ A8.out).mono ?_); rintro e w' ⟨rfl, ⟨nd, rfl⟩⟩; refine ⟨_, rfl, ?_⟩))
 (try simp only [Act.put, lstS, lstZ, lstC])
 go_cut [70] (fun v70 wc => ∃ (kq : Nat) (x70_8 : Bool), v70 = .bool x70_8 ∧ Aside0 (impl_moveSide.j0 kq a0 (wrap64 ((wrap64 (a1_0 * t395)) + (wrap64 (a1_1 * t396)))) (wrap64 ((wrap64 (a1_2 * t395)) + (wrap64 (a1_3 * t396)))) t398 t399 x70_8 a1_0 a1_1 a1_2 a1_3 a2_0 a2_1 a2_2 a2_3 = some (r1, r2, r3, r4, r5)) ∧ Aside0 (kq ≤ k) ∧ Aside0 (wc.heap[gb392]? = some (.cells #[.int .i64 a1_0, .int .i64 a1_1, .int .i64 a1_2, .int .i64 a1_3] 46 (0, 0))) ∧ Aside0 (wc.heap[gb393]? = some (.cells #[.int .i64 a2_0, .int .i64 a2_1, .int .i64 a2_2, .bool a2_3] 150 (0, 0))) ∧ Aside0 (wc.heap[gb394]? = some (.cells #[.int .i64 0, .int .i64 0, .int .i64 0, .bool false] 150 (0, 0))) ∧ Aside0 (Below w.heap.size w wc))
 case first =>
  have H := HC9.out
  clear HC9
  replace H := ie_ H
  rcases H with ⟨c22b0, c22b1, H⟩ | ⟨c22, c22b0, c22b1, H⟩
  ·(first | rw [c22b0] | (simp only [i64_w, i32_w]; rw [c22b0]) | skip)
   have H' := Aside0.mk H
   clear H
   try go_wp2
   (try (rw [drewN_self w20]; generalize hq_ : World.drewN w20 _ = w20; replace BK392 := bq_ BK392 hq_; replace BK393 := bq_ BK393 hq_; replace BK394 := bq_ BK394 hq_; replace HB := hq_' HB hq_; clear hq_))
   replace BK392 := bd_ BK392
   replace BK393 := bd_ BK393
   replace BK394 := bd_ BK394
   replace HB := be_ HB
   refine start_ (n := 16) (S := fun w' => w'.cell? ⟨gb392, 0, none⟩ = some (.int .i64 a1_0) ∧ w'.cell? ⟨gb392, 1, none⟩ = some (.int .i64 a1_1) ∧ w'.cell? ⟨gb392, 2, none⟩ = some (.int .i64 a1_2) ∧ w'.cell? ⟨gb392, 3, none⟩ = some (.int .i64 a1_3)) (ds := []) (bv_ 16 0) (by kernel_rfl) rfl rfl ⟨cz_ BK392 0, cz_ BK392 1, cz_ BK392 2, cz_ BK392 3⟩ (fun hHeld => ?_); refine with_tabW impl_moveSide.tab5 impl_moveSide.bits5 (fun HT_ HW_ => ?_)
   generalize w20.drew = w23 at BK392 BK393 BK394 HB hHeld ⊢
   refine px_ HT_ 0 55 1 ?_
   refine px_ HT_ 1 56 3 ?_
   refine ta_ HT_ HW_ 2 (some 57) (bv_ 16 7) hHeld ?_ (hy := by rintro w' ⟨s0, s1, s2, s3⟩; go_simp; with_reducible rfl)
   refine px_ HT_ 3 58 15 ?_
   refine px_ HT_ 4 59 31 ?_
   refine pv_ HT_ 5 (some 60) (bv_ 16 63) ?_
   refine pv_ HT_ 6 (some 61) (bv_ 16 127) ?_
   refine pv_ HT_ 7 (some 62) (bv_ 16 255) ?_
   refine pv_ HT_ 8 (some 63) (bv_ 16 511) ?_
   refine pv_ HT_ 9 (some 64) (bv_ 16 1023) ?_
   refine pv_ HT_ 10 (some 65) (bv_ 16 2047) ?_
   refine pv_ HT_ 11 (some 66) (bv_ 16 4095) ?_
   refine pv_ HT_ 12 (some 67) (bv_ 16 8191) ?_
   refine pv_ HT_ 13 (some 68) (bv_ 16 16383) ?_
   refine pv_ HT_ 14 (some 69) (bv_ 16 32767) ?_
   refine px_ HT_ 15 70 65535 ?_
   refine done_ (done_of HT_.out (by kernel_rfl)) ?_
   try go_wp2
   go_meet
   case rel => exact ⟨_, (false), en_, H', ⟨by first | omega | exact Nat.le_refl _⟩, bl_ BK392, bl_ BK393, bl_ BK394, bw_ HB⟩
  (first | rw [c22b0] | (simp only [i64_w, i32_w]; rw [c22b0]) | skip)
  replace H := oc_ H
  obtain ⟨t400, A24, H⟩ := H
  have H' := Aside0.mk H
  clear H
  try go_wp2
  (try (rw [drewN_self w20]; generalize hq_ : World.drewN w20 _ = w20; replace BK392 := bq_ BK392 hq_; replace BK393 := bq_ BK393 hq_; replace BK394 := bq_ BK394 hq_; replace HB := hq_' HB hq_; clear hq_))
  replace BK392 := bd_ BK392
  replace BK393 := bd_ BK393
  replace BK394 := bd_ BK394
  replace HB := be_ HB
  refine start_ (n := 16) (S := fun w' => w'.cell? ⟨gb392, 0, none⟩ = some (.int .i64 a1_0) ∧ w'.cell? ⟨gb392, 1, none⟩ = some (.int .i64 a1_1) ∧ w'.cell? ⟨gb392, 2, none⟩ = some (.int .i64 a1_2) ∧ w'.cell? ⟨gb392, 3, none⟩ = some (.int .i64 a1_3) ∧ w'.cell? ⟨gb393, 0, none⟩ = some (.int .i64 a2_0) ∧ w'.cell? ⟨gb393, 1, none⟩ = some (.int .i64 a2_1) ∧ w'.cell? ⟨gb393, 2, none⟩ = some (.int .i64 a2_2) ∧ w'.cell? ⟨gb393, 3, none⟩ = some (.bool a2_3)) (ds := []) (bv_ 16 0) (by kernel_rfl) rfl rfl ⟨cz_ BK392 0, cz_ BK392 1, cz_ BK392 2, cz_ BK392 3, cz_ BK393 0, cz_ BK393 1, cz_ BK393 2, cz_ BK393 3⟩ (fun hHeld => ?_); refine with_tabW impl_moveSide.tab5 impl_moveSide.bits5 (fun HT_ HW_ => ?_)
  generalize w20.drew = w25 at BK392 BK393 BK394 HB hHeld ⊢
  refine px_ HT_ 0 55 1 ?_
  refine px_ HT_ 1 56 3 ?_
  refine ta_ HT_ HW_ 2 (some 57) (bv_ 16 7) hHeld ?_ (hy := by rintro w' ⟨s0, s1, s2, s3, s4, s5, s6, s7⟩; go_simp; with_reducible rfl)
  refine px_ HT_ 3 58 15 ?_
  refine px_ HT_ 4 59 31 ?_
  refine px_ HT_ 5 60 63 ?_
  refine px_ HT_ 6 61 127 ?_
  refine px_ HT_ 9 64 639 ?_
  refine px_ HT_ 10 65 1663 ?_
  refine px_ HT_ 12 67 5759 ?_
  refine ta_ HT_ HW_ 11 (some 66) (bv_ 16 7807) hHeld ?_ (hy := by rintro w' ⟨s0, s1, s2, s3, s4, s5, s6, s7⟩; go_simp; with_reducible rfl)
  refine px_ HT_ 13 68 15999 ?_
  refine on_ HT_ 7 (some 62) (bv_ 16 16127) (fun K hK => ?_)
  refine gs_ Try.func164 #[.int .i64 a0, .int .i64 (wrap64 ((wrap64 (a1_2 * t395)) + (wrap64 (a1_3 * t396))))] ?_
  with_reducible refine (impl_valuation.calls k a0 (wrap64 ((wrap64 (a1_2 * t395)) + (wrap64 (a1_3 * t396)))) t400 _ A24.out).mono ?_
  rintro e w' ⟨rfl, ⟨nd, rfl⟩⟩
  refine ⟨_, rfl, ?_⟩
  refine hK.out _ _ ⟨cz_ BK392 0, cz_ BK392 1, cz_ BK392 2, cz_ BK392 3, cz_ BK393 0, cz_ BK393 1, cz_ BK393 2, cz_ BK393 3⟩ (fun hHeld => ?_)
  clear hK K
  refine nm_ (some 62) ?_
  refine px_ HT_ 8 63 16383 ?_
  refine px_ HT_ 14 69 32767 ?_
  refine px_ HT_ 15 70 65535 ?_
  refine done_ (done_of HT_.out (by kernel_rfl)) ?_
  try go_wp2
  go_meet
  case rel => exact ⟨_, (decide ((wrap64 (t400 - 6)) ≥ (wrap64 (a2_0 + t399)))), en_, H', ⟨by first | omega | exact Nat.le_refl _⟩, bl_ BK392, bl_ BK393, bl_ BK394, bw_ HB⟩
 clear HC9
 try clear c22
 try clear c22b0
 try clear c22b1
 try clear hcz15_0 hcz15_1 hcz15_2 hcz15_3
 try clear hcz19_0 hcz19_1 hcz19_2 hcz19_3
 try clear hcz21_0 hcz21_1 hcz21_2 hcz21_3
 try clear hfz15_0 hfz15_1 hfz15_2 hfz15_3
 try clear hfz19_0 hfz19_1 hfz19_2 hfz19_3
 try clear hfz21_0 hfz21_1 hfz21_2 hfz21_3
 obtain ⟨kq, x70_8, rfl, HA, HJ8, BK392, BK393, BK394, HB⟩ := hcut
 cases kq with
 | zero => exact absurd HA.out (by simp [impl_moveSide.j0])
 | succ kj8 =>
  have H := HA.out
  clear HA
  simp only [impl_moveSide.j0] at H
  replace H := ib_ H
  rcases H with ⟨rfl, H⟩ | ⟨rfl, H⟩
  ·replace H := oc_ H
   obtain ⟨⟨t401, t402, t403, t404⟩, A27, H⟩ := H
   simp only [Option.some.injEq, Prod.mk.injEq] at H
   obtain ⟨rfl, rfl, rfl, rfl, rfl⟩ := H
   have hnb28 := NB392_393.out
   have hnc28 := NB393_392.out
   have hnb29 := NB392_394.out
   have hnc29 := NB394_392.out
   obtain ⟨hcz30_0, hcz30_1, hcz30_2, hcz30_3, hfz30_0, hfz30_1, hfz30_2, hfz30_3⟩ := ch4_ BK392
   have hnb31 := NB393_394.out
   have hnc31 := NB394_393.out
   obtain ⟨hcz32_0, hcz32_1, hcz32_2, hcz32_3, hfz32_0, hfz32_1, hfz32_2, hfz32_3⟩ := ch4_ BK393
   go_wp2_with (first | ((refine gc_ 165 ?_); refine ge_ 88 Try.func165 #[.int .i64 a0, .int .i64 a1_0, .int .i64 a1_2, .int .i64 (wrap64 ((wrap64 ((wrap64 (t398 - (wrap64 (2 * t399)))) - a2_0)) + 1))] ?_; (with_reducible refine (impl_ballAt.calls kj8 a0 a1_0 a1_2 (wrap64 ((wrap64 ((wrap64 (t398 - (wrap64 (2 * t399)))) - a2_0)) + 1)) t401 t402 t403 t404 _ A27.out).mono ?_); rintro e w33 ⟨rfl, hb⟩; refine ⟨_, rfl, ?_⟩; replace BK392 := bb_ BK392 hb; replace BK393 := bb_ BK393 hb; replace BK394 := bb_ BK394 hb; replace HB := bt_ HB hb; (try clear hb)) | ((refine gd_ 14 ?_); refine by_ 14 #[.int .i64 0, .int .i64 0, .int .i64 0] 25 HB ?_; intro gb405 hg w34 BK405 hb GW405 HB_; have NB392_405 := bm_ BK392 hg; have NB405_392 := bn_ BK392 hg; have NB393_405 := bm_ BK393 hg; have NB405_393 := bn_ BK393 hg; have NB394_405 := bm_ BK394 hg; have NB405_394 := bn_ BK394 hg; replace BK392 := bb_ BK392 hb; replace BK393 := bb_ BK393 hb; replace BK394 := bb_ BK394 hb; replace HB := HB_; clear hb hg; have hnb35 := NB405_392.out; have hnc35 := NB392_405.out; have hnb36 := NB405_393.out; have hnc36 := NB393_405.out; have hnb37 := NB405_394.out; have hnc37 := NB394_405.out; obtain ⟨hcz38_0, hcz38_1, hcz38_2, hfz38_0, hfz38_1, hfz38_2⟩ := ch3_ BK405; obtain ⟨hcz39_0, hcz39_1, hcz39_2, hcz39_3, hfz39_0, hfz39_1, hfz39_2, hfz39_3⟩ := ch4_ BK393; obtain ⟨hcz40_0, hcz40_1, hcz40_2, hcz40_3, hfz40_0, hfz40_1, hfz40_2, hfz40_3⟩ := ch4_ BK394))
   refine bodyPost_ret (results_ct rfl _ _ gb394 150 #[.int .i64 t401, .int .i64 t402, .int .i64 t403, .bool (!a2_3)] (0, 0) _ rfl (bp_ BK394).out Try.underlying150 rfl (by kernel_rfl)) rfl ?_
   exact ⟨es_, (bw_ HB).out⟩
  replace H := oc_ H
  obtain ⟨t406, A41, H⟩ := H
  replace H := oc_ H
  obtain ⟨⟨t407, t408, t409, t410⟩, A42, H⟩ := H
  simp only [Option.some.injEq, Prod.mk.injEq] at H
  obtain ⟨rfl, rfl, rfl, rfl, rfl⟩ := H
  try go_wp2
  replace BK392 := bd_ BK392
  replace BK393 := bd_ BK393
  replace BK394 := bd_ BK394
  replace HB := be_ HB
  refine start_ (n := 21) (S := fun w' => w'.cell? ⟨gb393, 0, none⟩ = some (.int .i64 a2_0) ∧ w'.cell? ⟨gb393, 1, none⟩ = some (.int .i64 a2_1) ∧ w'.cell? ⟨gb393, 2, none⟩ = some (.int .i64 a2_2) ∧ w'.cell? ⟨gb393, 3, none⟩ = some (.bool a2_3)) (ds := []) (bv_ 21 0) (by kernel_rfl) rfl rfl ⟨cz_ BK393 0, cz_ BK393 1, cz_ BK393 2, cz_ BK393 3⟩ (fun hHeld => ?_); refine with_tabW impl_moveSide.tab8 impl_moveSide.bits8 (fun HT_ HW_ => ?_)
  generalize wc.drew = w43 at BK392 BK393 BK394 HB hHeld ⊢
  refine px_ HT_ 0 98 1 ?_
  refine px_ HT_ 1 99 3 ?_
  refine px_ HT_ 2 100 7 ?_
  refine px_ HT_ 3 101 15 ?_
  refine px_ HT_ 4 102 31 ?_
  refine px_ HT_ 6 104 95 ?_
  refine px_ HT_ 8 106 351 ?_
  refine px_ HT_ 9 107 863 ?_
  refine ta_ HT_ HW_ 5 (some 103) (bv_ 21 895) hHeld ?_ (hy := by rintro w' ⟨s0, s1, s2, s3⟩; go_simp; with_reducible rfl)
  refine px_ HT_ 7 105 1023 ?_
  refine join_ (σ := Nat) 2 (bv_ 21 524287) (fun s_ => [(108, .int .i64 t406), (112, .tuple #[.agg #[.int .i64 t407, .int .i64 t408, .int .i64 t409], .bool t410]), (16, .pointer (some ⟨s_, 0, none⟩)), (109, .int .i64 (wrap64 (t406 - 6))), (110, .int .i64 (wrap64 (2 * (wrap64 (t406 - 6))))), (111, .int .i64 (wrap64 ((wrap64 (a2_0 + t398)) - (wrap64 (2 * (wrap64 (t406 - 6))))))), (97, .tuple #[.agg #[.int .i64 t407, .int .i64 t408, .int .i64 t409], .bool t410]), (113, .agg #[.int .i64 t407, .int .i64 t408, .int .i64 t409]), (114, .bool t410)]) (fun s_ w' => (w'.cell? ⟨gb393, 0, none⟩ = some (.int .i64 a2_0) ∧ w'.cell? ⟨gb393, 1, none⟩ = some (.int .i64 a2_1) ∧ w'.cell? ⟨gb393, 2, none⟩ = some (.int .i64 a2_2) ∧ w'.cell? ⟨gb393, 3, none⟩ = some (.bool a2_3)) ∧ (w'.heap[gb392]? = some (.cells #[.int .i64 a1_0, .int .i64 a1_1, .int .i64 a1_2, .int .i64 a1_3] 46 (0, 0))) ∧ (w'.heap[gb393]? = some (.cells #[.int .i64 a2_0, .int .i64 a2_1, .int .i64 a2_2, .bool a2_3] 150 (0, 0))) ∧ (w'.heap[gb394]? = some (.cells #[.int .i64 0, .int .i64 0, .int .i64 0, .bool false] 150 (0, 0))) ∧ (w'.heap[s_]? = some (.cells #[.int .i64 0, .int .i64 0, .int .i64 0] 25 (0, 0))) ∧ (w.heap.size ≤ s_) ∧ (w.heap.size ≤ s_) ∧ (gb392 ≠ s_) ∧ (s_ ≠ gb392) ∧ (gb393 ≠ s_) ∧ (s_ ≠ gb393) ∧ (gb394 ≠ s_) ∧ (s_ ≠ gb394) ∧ (Below w.heap.size w w')) ?_ ?_
  rotate_left
  ·intro hCont
   refine tw_ HT_ 10 18 (some 108) (some 16) (bv_ 21 2047) (bv_ 21 263167) (fun K hK => ?_) (fun K hK => ?_)
   ·skip
    refine gs_ Try.func164 #[.int .i64 a0, .int .i64 (wrap64 ((wrap64 (a1_2 * t395)) + (wrap64 (a1_3 * t396))))] ?_
    with_reducible refine (impl_valuation.calls kj8 a0 (wrap64 ((wrap64 (a1_2 * t395)) + (wrap64 (a1_3 * t396)))) t406 _ A41.out).mono ?_
    rintro e w' ⟨rfl, ⟨nd, rfl⟩⟩
    refine ⟨_, rfl, ?_⟩
    refine hK.out _ _ ⟨cz_ BK393 0, cz_ BK393 1, cz_ BK393 2, cz_ BK393 3⟩ (fun hHeld => ?_)
    clear hK K
    refine nm_ (some 108) ?_
    refine px_ HT_ 11 109 4095 ?_
    refine px_ HT_ 12 110 8191 ?_
    refine px_ HT_ 13 111 16383 ?_
    refine tw_ HT_ 14 18 (some 112) (some 16) (bv_ 21 32767) (bv_ 21 278527) (fun K hK => ?_) (fun K hK => ?_)
    ·skip
     refine gs_ Try.func165 #[.int .i64 a0, .int .i64 (wrap64 ((wrap64 (a1_0 * t395)) + (wrap64 (a1_1 * t396)))), .int .i64 (wrap64 ((wrap64 (a1_2 * t395)) + (wrap64 (a1_3 * t396)))), .int .i64 (wrap64 ((wrap64 (a2_0 + t398)) - (wrap64 (2 * (wrap64 (t406 - 6))))))] ?_
     with_reducible refine (impl_ballAt.calls kj8 a0 (wrap64 ((wrap64 (a1_0 * t395)) + (wrap64 (a1_1 * t396)))) (wrap64 ((wrap64 (a1_2 * t395)) + (wrap64 (a1_3 * t396)))) (wrap64 ((wrap64 (a2_0 + t398)) - (wrap64 (2 * (wrap64 (t406 - 6)))))) t407 t408 t409 t410 _ A42.out).mono ?_
     rintro e w44 ⟨rfl, hb⟩
     refine ⟨_, rfl, ?_⟩
     replace BK392 := bb_ BK392 hb
     replace BK393 := bb_ BK393 hb
     replace BK394 := bb_ BK394 hb
     replace HB := bt_ HB hb
     try clear hb
     refine hK.out _ _ ⟨cz_ BK393 0, cz_ BK393 1, cz_ BK393 2, cz_ BK393 3⟩ (fun hHeld => ?_)
     clear hK K
     refine nm_ (some 112) ?_
     refine px_ HT_ 15 97 65535 ?_
     refine px_ HT_ 16 113 131071 ?_
     refine px_ HT_ 17 114 262143 ?_
     refine on_ HT_ 18 (some 16) (bv_ 21 524287) (fun K hK => ?_)
     refine bz_ 16 #[.int .i64 0, .int .i64 0, .int .i64 0] 25 ?_
     intro gb411 hg w45 BK411 hb
     have GW411 := bs_ HB hg
     have NB392_411 := bm_ BK392 hg
     have NB411_392 := bn_ BK392 hg
     have NB393_411 := bm_ BK393 hg
     have NB411_393 := bn_ BK393 hg
     have NB394_411 := bm_ BK394 hg
     have NB411_394 := bn_ BK394 hg
     replace BK392 := bb_ BK392 hb
     replace BK393 := bb_ BK393 hb
     replace BK394 := bb_ BK394 hb
     replace HB := bt_ HB hb
     clear hb hg
     refine hK.out _ _ ⟨cz_ BK393 0, cz_ BK393 1, cz_ BK393 2, cz_ BK393 3⟩ (fun hHeld => ?_)
     clear hK K
     refine nm_ (some 16) ?_
     exact norm_ (by simp only [putAll, Act.put, lstS, lstZ, lstC]) (hCont (gb411) _ ⟨hHeld, (bl_ BK392).out, (bl_ BK393).out, (bl_ BK394).out, (bl_ BK411).out, GW411.out, GW411.out, NB392_411.out, NB411_392.out, NB393_411.out, NB411_393.out, NB394_411.out, NB411_394.out, (bw_ HB).out⟩)
    skip
    refine bz_ 16 #[.int .i64 0, .int .i64 0, .int .i64 0] 25 ?_
    intro gb411 hg w44 BK411 hb
    have GW411 := bs_ HB hg
    have NB392_411 := bm_ BK392 hg
    have NB411_392 := bn_ BK392 hg
    have NB393_411 := bm_ BK393 hg
    have NB411_393 := bn_ BK393 hg
    have NB394_411 := bm_ BK394 hg
    have NB411_394 := bn_ BK394 hg
    replace BK392 := bb_ BK392 hb
    replace BK393 := bb_ BK393 hb
    replace BK394 := bb_ BK394 hb
    replace HB := bt_ HB hb
    clear hb hg
    refine hK.out _ _ ⟨cz_ BK393 0, cz_ BK393 1, cz_ BK393 2, cz_ BK393 3⟩ (fun hHeld => ?_)
    clear hK K
    refine nm_ (some 16) ?_
    refine on_ HT_ 14 (some 112) (bv_ 21 294911) (fun K hK => ?_)
    refine gs_ Try.func165 #[.int .i64 a0, .int .i64 (wrap64 ((wrap64 (a1_0 * t395)) + (wrap64 (a1_1 * t396)))), .int .i64 (wrap64 ((wrap64 (a1_2 * t395)) + (wrap64 (a1_3 * t396)))), .int .i64 (wrap64 ((wrap64 (a2_0 + t398)) - (wrap64 (2 * (wrap64 (t406 - 6))))))] ?_
    with_reducible refine (impl_ballAt.calls kj8 a0 (wrap64 ((wrap64 (a1_0 * t395)) + (wrap64 (a1_1 * t396)))) (wrap64 ((wrap64 (a1_2 * t395)) + (wrap64 (a1_3 * t396)))) (wrap64 ((wrap64 (a2_0 + t398)) - (wrap64 (2 * (wrap64 (t406 - 6)))))) t407 t408 t409 t410 _ A42.out).mono ?_
    rintro e w45 ⟨rfl, hb⟩
    refine ⟨_, rfl, ?_⟩
    replace BK392 := bb_ BK392 hb
    replace BK393 := bb_ BK393 hb
    replace BK394 := bb_ BK394 hb
    replace BK411 := bb_ BK411 hb
    replace HB := bt_ HB hb
    try clear hb
    refine hK.out _ _ ⟨cz_ BK393 0, cz_ BK393 1, cz_ BK393 2, cz_ BK393 3⟩ (fun hHeld => ?_)
    clear hK K
    refine nm_ (some 112) ?_
    refine px_ HT_ 15 97 327679 ?_
    refine px_ HT_ 16 113 393215 ?_
    refine px_ HT_ 17 114 524287 ?_
    exact norm_ (by simp only [putAll, Act.put, lstS, lstZ, lstC]) (hCont (gb411) _ ⟨hHeld, (bl_ BK392).out, (bl_ BK393).out, (bl_ BK394).out, (bl_ BK411).out, GW411.out, GW411.out, NB392_411.out, NB411_392.out, NB393_411.out, NB411_393.out, NB394_411.out, NB411_394.out, (bw_ HB).out⟩)
   skip
   refine bz_ 16 #[.int .i64 0, .int .i64 0, .int .i64 0] 25 ?_
   intro gb411 hg w44 BK411 hb
   have GW411 := bs_ HB hg
   have NB392_411 := bm_ BK392 hg
   have NB411_392 := bn_ BK392 hg
   have NB393_411 := bm_ BK393 hg
   have NB411_393 := bn_ BK393 hg
   have NB394_411 := bm_ BK394 hg
   have NB411_394 := bn_ BK394 hg
   replace BK392 := bb_ BK392 hb
   replace BK393 := bb_ BK393 hb
   replace BK394 := bb_ BK394 hb
   replace HB := bt_ HB hb
   clear hb hg
   refine hK.out _ _ ⟨cz_ BK393 0, cz_ BK393 1, cz_ BK393 2, cz_ BK393 3⟩ (fun hHeld => ?_)
   clear hK K
   refine nm_ (some 16) ?_
   refine on_ HT_ 10 (some 108) (bv_ 21 264191) (fun K hK => ?_)
   refine gs_ Try.func164 #[.int .i64 a0, .int .i64 (wrap64 ((wrap64 (a1_2 * t395)) + (wrap64 (a1_3 * t396))))] ?_
   with_reducible refine (impl_valuation.calls kj8 a0 (wrap64 ((wrap64 (a1_2 * t395)) + (wrap64 (a1_3 * t396)))) t406 _ A41.out).mono ?_
   rintro e w' ⟨rfl, ⟨nd, rfl⟩⟩
   refine ⟨_, rfl, ?_⟩
   refine hK.out _ _ ⟨cz_ BK393 0, cz_ BK393 1, cz_ BK393 2, cz_ BK393 3⟩ (fun hHeld => ?_)
   clear hK K
   refine nm_ (some 108) ?_
   refine px_ HT_ 11 109 266239 ?_
   refine px_ HT_ 12 110 270335 ?_
   refine px_ HT_ 13 111 278527 ?_
   refine on_ HT_ 14 (some 112) (bv_ 21 294911) (fun K hK => ?_)
   refine gs_ Try.func165 #[.int .i64 a0, .int .i64 (wrap64 ((wrap64 (a1_0 * t395)) + (wrap64 (a1_1 * t396)))), .int .i64 (wrap64 ((wrap64 (a1_2 * t395)) + (wrap64 (a1_3 * t396)))), .int .i64 (wrap64 ((wrap64 (a2_0 + t398)) - (wrap64 (2 * (wrap64 (t406 - 6))))))] ?_
   with_reducible refine (impl_ballAt.calls kj8 a0 (wrap64 ((wrap64 (a1_0 * t395)) + (wrap64 (a1_1 * t396)))) (wrap64 ((wrap64 (a1_2 * t395)) + (wrap64 (a1_3 * t396)))) (wrap64 ((wrap64 (a2_0 + t398)) - (wrap64 (2 * (wrap64 (t406 - 6)))))) t407 t408 t409 t410 _ A42.out).mono ?_
   rintro e w45 ⟨rfl, hb⟩
   refine ⟨_, rfl, ?_⟩
   replace BK392 := bb_ BK392 hb
   replace BK393 := bb_ BK393 hb
   replace BK394 := bb_ BK394 hb
   replace BK411 := bb_ BK411 hb
   replace HB := bt_ HB hb
   try clear hb
   refine hK.out _ _ ⟨cz_ BK393 0, cz_ BK393 1, cz_ BK393 2, cz_ BK393 3⟩ (fun hHeld => ?_)
   clear hK K
   refine nm_ (some 112) ?_
   refine px_ HT_ 15 97 327679 ?_
   refine px_ HT_ 16 113 393215 ?_
   refine px_ HT_ 17 114 524287 ?_
   exact norm_ (by simp only [putAll, Act.put, lstS, lstZ, lstC]) (hCont (gb411) _ ⟨hHeld, (bl_ BK392).out, (bl_ BK393).out, (bl_ BK394).out, (bl_ BK411).out, GW411.out, GW411.out, NB392_411.out, NB411_392.out, NB393_411.out, NB411_393.out, NB394_411.out, NB411_394.out, (bw_ HB).out⟩)
  rintro gb411 w46 ⟨hS_, h0_, h1_, h2_, h3_, h4_, h5_, h6_, h7_, h8_, h9_, h10_, h11_, h12_⟩
  clear BK392 BK393 BK394 HB
  have BK392 := Aside0.mk h0_
  have BK393 := Aside0.mk h1_
  have BK394 := Aside0.mk h2_
  have BK411 := Aside0.mk h3_
  have GW411 := Aside0.mk h4_
  have GW411 := Aside0.mk h5_
  have NB392_411 := Aside0.mk h6_
  have NB411_392 := Aside0.mk h7_
  have NB393_411 := Aside0.mk h8_
  have NB411_393 := Aside0.mk h9_
  have NB394_411 := Aside0.mk h10_
  have NB411_394 := Aside0.mk h11_
  have HB := Aside0.mk h12_
  clear h0_ h1_ h2_ h3_ h4_ h5_ h6_ h7_ h8_ h9_ h10_ h11_ h12_
  have hHeld : w46.cell? ⟨gb393, 0, none⟩ = some (.int .i64 a2_0) ∧ w46.cell? ⟨gb393, 1, none⟩ = some (.int .i64 a2_1) ∧ w46.cell? ⟨gb393, 2, none⟩ = some (.int .i64 a2_2) ∧ w46.cell? ⟨gb393, 3, none⟩ = some (.bool a2_3) := hS_
  refine norm_ (a' := ?_) ?_ ?_
  rotate_left
  ·simp only [putAll, Act.put, lstS, lstZ, lstC]
   rfl
  refine on_ HT_ 19 none (bv_ 21 1048575) (fun K hK => ?_)
  have hs47 : w46.cell? ⟨gb411, 0, none⟩ = some (.int .i64 0) := (blk_cell BK411.out 0).trans rfl
  have hfs47 := blk_frozen BK411.out 0
  have hns47_0 := NB392_411.out
  have hns47_1 := NB393_411.out
  have hns47_2 := NB394_411.out
  have hms47_0 := NB411_392.out
  have hms47_1 := NB411_393.out
  have hms47_2 := NB411_394.out
  have hs48 : w46.cell? ⟨gb411, 1, none⟩ = some (.int .i64 0) := (blk_cell BK411.out 1).trans rfl
  have hfs48 := blk_frozen BK411.out 1
  have hns48_0 := NB392_411.out
  have hns48_1 := NB393_411.out
  have hns48_2 := NB394_411.out
  have hms48_0 := NB411_392.out
  have hms48_1 := NB411_393.out
  have hms48_2 := NB411_394.out
  have hs49 : w46.cell? ⟨gb411, 2, none⟩ = some (.int .i64 0) := (blk_cell BK411.out 2).trans rfl
  have hfs49 := blk_frozen BK411.out 2
  have hns49_0 := NB392_411.out
  have hns49_1 := NB393_411.out
  have hns49_2 := NB394_411.out
  have hms49_0 := NB411_392.out
  have hms49_1 := NB411_393.out
  have hms49_2 := NB411_394.out
  refine skip_ (w1 := ?_) (by rfl) rfl ?_ ?_
  rotate_left
  ·go_simp
   rfl
  refine hK.out _ _ ⟨(cg_ NB393_411 ((cg_ NB393_411 ((cg_ NB393_411 (hHeld.1)))))), (cg_ NB393_411 ((cg_ NB393_411 ((cg_ NB393_411 (hHeld.2.1)))))), (cg_ NB393_411 ((cg_ NB393_411 ((cg_ NB393_411 (hHeld.2.2.1)))))), (cg_ NB393_411 ((cg_ NB393_411 ((cg_ NB393_411 (hHeld.2.2.2))))))⟩ (fun hHeld => ?_)
  clear hK K
  refine px_ HT_ 20 17 2097151 ?_
  refine done_ (done_of HT_.out (by kernel_rfl)) ?_
  have hnb50 := NB411_392.out
  have hnc50 := NB392_411.out
  have hnb51 := NB411_393.out
  have hnc51 := NB393_411.out
  have hnb52 := NB411_394.out
  have hnc52 := NB394_411.out
  obtain ⟨hcz53_0, hcz53_1, hcz53_2, hfz53_0, hfz53_1, hfz53_2⟩ := ch3_ BK411
  have hnb54 := NB393_392.out
  have hnc54 := NB392_393.out
  have hnb55 := NB393_394.out
  have hnc55 := NB394_393.out
  obtain ⟨hcz56_0, hcz56_1, hcz56_2, hcz56_3, hfz56_0, hfz56_1, hfz56_2, hfz56_3⟩ := ch4_ BK393
  have hnb57 := NB394_392.out
  have hnc57 := NB392_394.out
  obtain ⟨hcz58_0, hcz58_1, hcz58_2, hcz58_3, hfz58_0, hfz58_1, hfz58_2, hfz58_3⟩ := ch4_ BK394
  try go_wp2
  refine bodyPost_ret (results_ct rfl _ _ gb394 150 #[.int .i64 t407, .int .i64 t408, .int .i64 t409, .bool a2_3] (0, 0) _ rfl (bp_ BK394).out Try.underlying150 rfl (by kernel_rfl)) rfl ?_
  exact ⟨es_, (bw_ HB).out⟩
def impl_opposite.f (a0_0 a0_1 a0_2 : Int) (a0_3 : Bool) : Option (Int × Int × Int × Bool) := some (a0_0, a0_1, a0_2, !a0_3)
theorem impl_opposite.calls (a0_0 a0_1 a0_2 : Int) (a0_3 : Bool) (r1 r2 r3 : Int) (r4 : Bool) (w : World) (h : impl_opposite.f a0_0 a0_1 a0_2 a0_3 = some (r1, r2, r3, r4)) :
  Calls Try.prog 200 #[.agg #[.int .i64 a0_0, .int .i64 a0_1, .int .i64 a0_2, .bool a0_3]] w fun e w' => e = .returned (.agg #[.int .i64 r1, .int .i64 r2, .int .i64 r3, .bool r4]) ∧ Below w.heap.size w w' := by
 have hu150 := Try.underlying150
 have hu25 := Try.underlying25
 have HB := Aside0.mk (Below.refl w.heap.size w)
 unfold impl_opposite.f at h
 have H := h
 clear h
 simp only [Option.some.injEq, Prod.mk.injEq] at H
 obtain ⟨rfl, rfl, rfl, rfl⟩ := H
 go_enter Try.func200, Try.ntmps200
 go_wp2_with (first | ((refine gd_ 1 ?_); refine by_ 1 #[.int .i64 a0_0, .int .i64 a0_1, .int .i64 a0_2, .bool a0_3] 150 HB ?_; intro gb412 hg w2 BK412 hb GW412 HB_; replace HB := HB_; clear hb hg) | ((refine gd_ 2 ?_); refine by_ 2 #[.int .i64 0, .int .i64 0, .int .i64 0, .bool false] 150 HB ?_; intro gb413 hg w3 BK413 hb GW413 HB_; have NB412_413 := bm_ BK412 hg; have NB413_412 := bn_ BK412 hg; replace BK412 := bb_ BK412 hb; replace HB := HB_; clear hb hg; have hnb4 := NB412_413.out; have hnc4 := NB413_412.out; obtain ⟨hcz5_0, hcz5_1, hcz5_2, hcz5_3, hfz5_0, hfz5_1, hfz5_2, hfz5_3⟩ := ch4_ BK412; obtain ⟨hcz6_0, hcz6_1, hcz6_2, hcz6_3, hfz6_0, hfz6_1, hfz6_2, hfz6_3⟩ := ch4_ BK413))
 refine bodyPost_ret (results_cell_row rfl _ _ gb413 150 #[.int .i64 a0_0, .int .i64 a0_1, .int .i64 a0_2, .bool (!a0_3)] (0, 0) _ rfl (bp_ BK413).out Try.underlying150 rfl (by kernel_rfl)) rfl ?_
 exact ⟨es_, (bw_ HB).out⟩
end Go.Proofs.Ytgoeelhiffbjlaa.QB
