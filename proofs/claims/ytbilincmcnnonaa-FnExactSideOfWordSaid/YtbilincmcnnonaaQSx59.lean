import Derived.Test.YtbilincmcnnonaaQSx8
import Derived.Test.YtbilincmcnnonaaQSx42
import Derived.Test.YtbilincmcnnonaaQSx49
import Derived.Test.YtbilincmcnnonaaQSx58
namespace Go.Proofs.Ytbilincmcnnonaa.QS
open Go.RowKit Go.Proofs.YtbilincmcnnonaaW.PrintWords Go.Proofs.YtbilincmcnnonaaW.PrintLast Go.Proofs.YtbilincmcnnonaaW.PrintMore
attribute [local go_sem] isSome_setCell max2_int min2_int max_two min_two max_three min_three max_four min_four
set_option linter.unusedVariables false
set_option linter.unusedSimpArgs false

/-! ### impl_moveSide: function 124 -/
def impl_moveSide.j0 : Nat → Int → Int → Int → Int → Int → Bool → Int → Int → Int → Int → Int → Int → Int → Bool → Option (Int × Int × Int × Bool × Bool)
 | 0, _, _, _, _, _, _, _, _, _, _, _, _, _, _ => none
 | k + 1, x0, x10, x11, x12, x13, x70, x343000, x343001, x343002, x343003, x344000, x344001, x344002, x344003 => if x70 = true then ((impl_ballAt.f k x0 x343000 x343002 (wrap64 ((wrap64 ((wrap64 (x12 - (wrap64 (2 * x13)))) - x344000)) + 1))).bind fun bt351 => (some (bt351.1, bt351.2.1, bt351.2.2.1, !x344003, bt351.2.2.2))) else ((impl_valuation.f k x0 x11).bind fun t356 => ((impl_ballAt.f k x0 x10 x11 (wrap64 ((wrap64 (x344000 + x12)) - (wrap64 (2 * (wrap64 (t356 - 6))))))).bind fun bt357 => (some (bt357.1, bt357.2.1, bt357.2.2.1, x344003, bt357.2.2.2))))
def impl_moveSide.f (k : Nat) (a0 : Int) (a1_0 : Int) (a1_1 : Int) (a1_2 : Int) (a1_3 : Int) (a2_0 : Int) (a2_1 : Int) (a2_2 : Int) (a2_3 : Bool) : Option (Int × Int × Int × Bool × Bool) := (impl_mark.f k a0 a2_0 a2_1 a2_2).bind fun t345 => ((impl_power.f k a0 6).bind fun t346 => ((impl_determinant.f a1_0 a1_1 a1_2 a1_3).bind fun t347 => ((impl_valuation.f k a0 t347).bind fun t348 => ((impl_valuation.f k a0 a1_2).bind fun t349 => (if a1_2 = 0 then (impl_moveSide.j0 k a0 (wrap64 ((wrap64 (a1_0 * t345)) + (wrap64 (a1_1 * t346)))) (wrap64 ((wrap64 (a1_2 * t345)) + (wrap64 (a1_3 * t346)))) t348 t349 false a1_0 a1_1 a1_2 a1_3 a2_0 a2_1 a2_2 a2_3) else ((impl_valuation.f k a0 (wrap64 ((wrap64 (a1_2 * t345)) + (wrap64 (a1_3 * t346))))).bind fun t350 => (impl_moveSide.j0 k a0 (wrap64 ((wrap64 (a1_0 * t345)) + (wrap64 (a1_1 * t346)))) (wrap64 ((wrap64 (a1_2 * t345)) + (wrap64 (a1_3 * t346)))) t348 t349 (decide ((wrap64 (t350 - 6)) ≥ (wrap64 (a2_0 + t349)))) a1_0 a1_1 a1_2 a1_3 a2_0 a2_1 a2_2 a2_3)))))))
def impl_moveSide.T2 : Bool × List (List Nat × List Nat) := (true, [([], []), ([0], [0]), ([1], [1]), ([], []), ([2, 3], [2, 3]), ([], []), ([5], [5]), ([6], [6]), ([], []), ([7, 8], [7, 8]), ([4, 9], [4, 9]), ([], []), ([11], [11]), ([12], [12]), ([], []), ([13, 14], [13, 14]), ([], []), ([16], [16]), ([17], [17]), ([], []), ([18, 19], [18, 19]), ([15, 20], [15, 20]), ([10, 0, 1, 2, 3, 4, 5, 6, 7, 8, 9, 10], [10]), ([21, 22, 0, 1, 2, 3, 4, 5, 6, 7, 8, 9, 10, 11, 12, 13, 14, 15, 16, 17, 18, 19, 20, 21, 22], [21])])
def impl_moveSide.B2 : List Nat := [0, 1, 3, 0, 15, 0, 32, 96, 0, 480, 1023, 0, 2048, 6144, 0, 30720, 0, 65536, 196608, 0, 983040, 2095104, 2047, 8388607]
theorem impl_moveSide.tab2 : rtab .any (opsOf Try.f124 2) = impl_moveSide.T2 := by kernel_rfl
theorem impl_moveSide.bits2 : waitsOk impl_moveSide.T2.2 impl_moveSide.B2 = true := by kernel_rfl
def impl_moveSide.T5 : Bool × List (List Nat × List Nat) := (true, [([], []), ([0], [0]), ([1], [1]), ([2], [2]), ([3], [3]), ([4], [4]), ([4], [4]), ([5, 6, 4, 4], [4, 5, 6]), ([7, 4], [4, 7]), ([4], [4]), ([9, 4], [4, 9]), ([10, 4], [4, 10]), ([4], [4]), ([11, 12, 4], [4, 11, 12]), ([8, 13, 4], [4, 8, 13]), ([4, 14], [4, 14])])
def impl_moveSide.B5 : List Nat := [0, 1, 3, 7, 15, 31, 31, 127, 255, 31, 543, 1567, 31, 7711, 16383, 32767]
theorem impl_moveSide.tab5 : rtab .any (opsOf Try.f124 5) = impl_moveSide.T5 := by kernel_rfl
theorem impl_moveSide.bits5 : waitsOk impl_moveSide.T5.2 impl_moveSide.B5 = true := by kernel_rfl
def impl_moveSide.T8 : Bool × List (List Nat × List Nat) := (true, [([], []), ([], []), ([], []), ([], []), ([3], [3]), ([4], [4]), ([], []), ([5, 6], [5, 6]), ([], []), ([], []), ([8, 9], [8, 9]), ([10], [10]), ([11], [11]), ([7, 12], [7, 12]), ([0, 1, 2, 13, 10], [0, 1, 2, 13]), ([14], [14]), ([15], [15]), ([15], [15]), ([], []), ([18, 16, 14, 0, 1, 2, 3, 4, 5, 6, 7, 8, 9, 10, 11, 12, 13, 14, 15, 16, 18], [16, 18]), ([17, 19, 0, 1, 2, 3, 4, 5, 6, 7, 8, 9, 10, 11, 12, 13, 14, 15, 16, 17, 18, 19], [17])])
def impl_moveSide.B8 : List Nat := [0, 0, 0, 0, 8, 24, 0, 120, 0, 0, 768, 1792, 3840, 8184, 16383, 32767, 65535, 65535, 0, 393215, 1048575]
theorem impl_moveSide.tab8 : rtab .any (opsOf Try.f124 8) = impl_moveSide.T8 := by kernel_rfl
theorem impl_moveSide.bits8 : waitsOk impl_moveSide.T8.2 impl_moveSide.B8 = true := by kernel_rfl
set_option maxHeartbeats 8000000 in
set_option maxRecDepth 100000 in
theorem impl_moveSide.calls (k : Nat) (a0 : Int) (a1_0 : Int) (a1_1 : Int) (a1_2 : Int) (a1_3 : Int) (a2_0 : Int) (a2_1 : Int) (a2_2 : Int) (a2_3 : Bool) (r1 : Int) (r2 : Int) (r3 : Int) (r4 : Bool) (r5 : Bool) (w : World) (h : impl_moveSide.f k a0 a1_0 a1_1 a1_2 a1_3 a2_0 a2_1 a2_2 a2_3 = some (r1, r2, r3, r4, r5)) :
  Calls Try.prog 124 #[.int .i64 a0, .agg #[.int .i64 a1_0, .int .i64 a1_1, .int .i64 a1_2, .int .i64 a1_3], .agg #[.int .i64 a2_0, .int .i64 a2_1, .int .i64 a2_2, .bool a2_3]] w fun e w' => e = .returned (.tuple #[.agg #[.int .i64 r1, .int .i64 r2, .int .i64 r3, .bool r4], .bool r5]) ∧ Below w.heap.size w w' := by
 have hu26 := Try.underlying26
 have hu59 := Try.underlying59
 have hu39 := Try.underlying39
 have hu24 := Try.underlying24
 have HB := Aside0.mk (Below.refl w.heap.size w)
 have H : ((impl_mark.f k a0 a2_0 a2_1 a2_2).bind fun t345 => ((impl_power.f k a0 6).bind fun t346 => ((impl_determinant.f a1_0 a1_1 a1_2 a1_3).bind fun t347 => ((impl_valuation.f k a0 t347).bind fun t348 => ((impl_valuation.f k a0 a1_2).bind fun t349 => (if a1_2 = 0 then (impl_moveSide.j0 k a0 (wrap64 ((wrap64 (a1_0 * t345)) + (wrap64 (a1_1 * t346)))) (wrap64 ((wrap64 (a1_2 * t345)) + (wrap64 (a1_3 * t346)))) t348 t349 false a1_0 a1_1 a1_2 a1_3 a2_0 a2_1 a2_2 a2_3) else ((impl_valuation.f k a0 (wrap64 ((wrap64 (a1_2 * t345)) + (wrap64 (a1_3 * t346))))).bind fun t350 => (impl_moveSide.j0 k a0 (wrap64 ((wrap64 (a1_0 * t345)) + (wrap64 (a1_1 * t346)))) (wrap64 ((wrap64 (a1_2 * t345)) + (wrap64 (a1_3 * t346)))) t348 t349 (decide ((wrap64 (t350 - 6)) ≥ (wrap64 (a2_0 + t349)))) a1_0 a1_1 a1_2 a1_3 a2_0 a2_1 a2_2 a2_3)))))))) = some (r1, r2, r3, r4, r5) := h
 clear h
 replace H := ob_ H
 obtain ⟨t345, A40, H⟩ := H
 have A4 := Aside0.mk A40
 clear A40
 replace H := ob_ H
 obtain ⟨t346, A50, H⟩ := H
 have A5 := Aside0.mk A50
 clear A50
 replace H := ob_ H
 obtain ⟨t347, A60, H⟩ := H
 have A6 := Aside0.mk A60
 clear A60
 replace H := ob_ H
 obtain ⟨t348, A70, H⟩ := H
 have A7 := Aside0.mk A70
 clear A70
 replace H := ob_ H
 obtain ⟨t349, A80, H⟩ := H
 have A8 := Aside0.mk A80
 clear A80
 have HC9 := Aside0.mk H
 clear H
 go_enter Try.func124, Try.ntmps124
 try go_wp2_with (first | (refine bx_ 4 #[.int .i64 a1_0, .int .i64 a1_1, .int .i64 a1_2, .int .i64 a1_3] 26 ?_; intro gb342 hg w10 hbox hb; have BK342 := Aside0.mk (hbox); have GW342 := bs_ HB hg; have GE342 := bs_ HB hg; replace HB := bt_ HB hb; clear hb hbox hg) | (refine bx_ 5 #[.int .i64 a2_0, .int .i64 a2_1, .int .i64 a2_2, .bool a2_3] 59 ?_; intro gb343 hg w11 hbox hb; have BK343 := Aside0.mk (hbox); have GW343 := bs_ HB hg; have GE343 := bs_ HB hg; have NB342_343 := bm_ BK342 hg; have NB343_342 := bn_ BK342 hg; replace BK342 := bb_ BK342 hb; replace HB := bt_ HB hb; clear hb hbox hg) | (refine bx_ 6 #[.int .i64 0, .int .i64 0, .int .i64 0, .bool false] 59 ?_; intro gb344 hg w12 hbox hb; have BK344 := Aside0.mk (hbox); have GW344 := bs_ HB hg; have GE344 := bs_ HB hg; have NB342_344 := bm_ BK342 hg; have NB344_342 := bn_ BK342 hg; have NB343_344 := bm_ BK343 hg; have NB344_343 := bn_ BK343 hg; replace BK342 := bb_ BK342 hb; replace BK343 := bb_ BK343 hb; replace HB := bt_ HB hb; clear hb hbox hg; have hnb13 := NB343_342.out; have hnc13 := NB342_343.out; have hnb14 := NB343_344.out; have hnc14 := NB344_343.out; obtain ⟨hcz15_0, hcz15_1, hcz15_2, hcz15_3, hfz15_0, hfz15_1, hfz15_2, hfz15_3⟩ := ch4_ BK343) | (refine ge_ 21 Try.func167 #[.int .i64 a0, .agg #[.int .i64 a2_0, .int .i64 a2_1, .int .i64 a2_2]] ?_; (with_reducible refine (impl_mark.calls k a0 a2_0 a2_1 a2_2 t345 _ A4.out).mono ?_); rintro e w16 ⟨rfl, hb⟩; refine ⟨_, rfl, ?_⟩; replace BK342 := bb_ BK342 hb; replace BK343 := bb_ BK343 hb; replace BK344 := bb_ BK344 hb; replace HB := bt_ HB hb; (try clear hb); (try clear hb2); (try clear hk); (try clear hi)) | (refine ge_ 23 Try.func152 #[.int .i64 a0, .int .i64 6] ?_; (with_reducible refine (impl_power.calls k a0 6 t346 _ A5.out).mono ?_); rintro e w' ⟨rfl, ⟨nd, rfl⟩⟩; refine ⟨_, rfl, ?_⟩))
 (try (rw [drewN_self w16]; generalize hq_ : World.drewN w16 _ = w16; have n0_ : Aside0 (w16.heap[gb342]? = some (.cells #[.int .i64 a1_0, .int .i64 a1_1, .int .i64 a1_2, .int .i64 a1_3] 26 (0, 0))) := ⟨by rw [← hq_]; exact (bl_ BK342).out⟩; have n1_ : Aside0 (w16.heap[gb343]? = some (.cells #[.int .i64 a2_0, .int .i64 a2_1, .int .i64 a2_2, .bool a2_3] 59 (0, 0))) := ⟨by rw [← hq_]; exact (bl_ BK343).out⟩; have n2_ : Aside0 (w16.heap[gb344]? = some (.cells #[.int .i64 0, .int .i64 0, .int .i64 0, .bool false] 59 (0, 0))) := ⟨by rw [← hq_]; exact (bl_ BK344).out⟩; have n3_ : Aside0 (Below w.heap.size w w16) := ⟨by rw [← hq_]; exact (bw_ HB).out⟩; clear BK342 BK343 BK344 HB hq_; have BK342 := n0_; have BK343 := n1_; have BK344 := n2_; have HB := n3_; clear n0_ n1_ n2_ n3_))
 replace BK342 := Aside0.mk (blk_drew BK342.out)
 replace BK343 := Aside0.mk (blk_drew BK343.out)
 replace BK344 := Aside0.mk (blk_drew BK344.out)
 replace HB := Aside0.mk (below_drew1 HB.out)
 refine start_ (n := 24) (S := fun w' => w'.cell? ⟨gb342, 0, none⟩ = some (.int .i64 a1_0) ∧ w'.cell? ⟨gb342, 1, none⟩ = some (.int .i64 a1_1) ∧ w'.cell? ⟨gb342, 2, none⟩ = some (.int .i64 a1_2) ∧ w'.cell? ⟨gb342, 3, none⟩ = some (.int .i64 a1_3)) (ds := []) (bv_ 24 0) (by kernel_rfl) rfl rfl ⟨cz_ BK342 0, cz_ BK342 1, cz_ BK342 2, cz_ BK342 3⟩ (fun hHeld => ?_); refine with_tabW impl_moveSide.tab2 impl_moveSide.bits2 (fun HT_ HW_ => ?_)
 generalize w16.drew = w17 at BK342 BK343 BK344 HB hHeld ⊢
 refine pu_ HT_ 0 (some 24) (bv_ 24 1) ?_
 refine pu_ HT_ 1 (some 25) (bv_ 24 3) ?_
 refine pu_ HT_ 3 (some 27) (bv_ 24 11) ?_
 refine pu_ HT_ 5 (some 29) (bv_ 24 43) ?_
 refine pu_ HT_ 6 (some 30) (bv_ 24 107) ?_
 refine pu_ HT_ 8 (some 32) (bv_ 24 363) ?_
 refine pu_ HT_ 11 (some 35) (bv_ 24 2411) ?_
 refine pu_ HT_ 12 (some 36) (bv_ 24 6507) ?_
 refine pu_ HT_ 14 (some 38) (bv_ 24 22891) ?_
 refine pu_ HT_ 16 (some 40) (bv_ 24 88427) ?_
 refine pu_ HT_ 17 (some 41) (bv_ 24 219499) ?_
 refine pu_ HT_ 19 (some 43) (bv_ 24 743787) ?_
 refine ta_ HT_ HW_ 2 (some 26) (bv_ 24 743791) hHeld ?_ (hy := by rintro w' ⟨s0, s1, s2, s3⟩; go_simp; with_reducible rfl)
 refine pu_ HT_ 4 (some 28) (bv_ 24 743807) ?_
 refine ta_ HT_ HW_ 7 (some 31) (bv_ 24 743935) hHeld ?_ (hy := by rintro w' ⟨s0, s1, s2, s3⟩; go_simp; with_reducible rfl)
 refine pu_ HT_ 9 (some 33) (bv_ 24 744447) ?_
 refine pu_ HT_ 10 (some 34) (bv_ 24 745471) ?_
 refine pu_ HT_ 22 (some 10) (bv_ 24 4939775) ?_
 refine ta_ HT_ HW_ 13 (some 37) (bv_ 24 4947967) hHeld ?_ (hy := by rintro w' ⟨s0, s1, s2, s3⟩; go_simp; with_reducible rfl)
 refine pu_ HT_ 15 (some 39) (bv_ 24 4980735) ?_
 refine ta_ HT_ HW_ 18 (some 42) (bv_ 24 5242879) hHeld ?_ (hy := by rintro w' ⟨s0, s1, s2, s3⟩; go_simp; with_reducible rfl)
 refine pu_ HT_ 20 (some 44) (bv_ 24 6291455) ?_
 refine pu_ HT_ 21 (some 45) (bv_ 24 8388607) ?_
 refine pu_ HT_ 23 (some 11) (bv_ 24 16777215) ?_
 refine done_ (done_of HT_.out (by kernel_rfl)) ?_
 have hnb18 := NB342_344.out
 have hnc18 := NB344_342.out
 obtain ⟨hcz19_0, hcz19_1, hcz19_2, hcz19_3, hfz19_0, hfz19_1, hfz19_2, hfz19_3⟩ := ch4_ BK342
 go_upto_region 5 with (first | (refine ge_ 48 Try.func74 #[.agg #[.int .i64 a1_0, .int .i64 a1_1, .int .i64 a1_2, .int .i64 a1_3]] ?_; (with_reducible refine (impl_determinant.calls a1_0 a1_1 a1_2 a1_3 t347 _ A6.out).mono ?_); rintro e w20 ⟨rfl, hb⟩; refine ⟨_, rfl, ?_⟩; replace BK342 := bb_ BK342 hb; replace BK343 := bb_ BK343 hb; replace BK344 := bb_ BK344 hb; replace HB := bt_ HB hb; (try clear hb); (try clear hb2); (try clear hk); (try clear hi)) | (refine ge_ 49 Try.func168 #[.int .i64 a0, .int .i64 t347] ?_; (with_reducible refine (impl_valuation.calls k a0 t347 t348 _ A7.out).mono ?_); rintro e w' ⟨rfl, ⟨nd, rfl⟩⟩; refine ⟨_, rfl, ?_⟩; obtain ⟨hcz21_0, hcz21_1, hcz21_2, hcz21_3, hfz21_0, hfz21_1, hfz21_2, hfz21_3⟩ := ch4_ BK342) | (refine ge_ 54 Try.func168 #[.int .i64 a0, .int .i64 a1_2] ?_; (with_reducible refine (impl_valuation.calls k a0 a1_2 t349 _ A8.out).mono ?_); rintro e w' ⟨rfl, ⟨nd, rfl⟩⟩; refine ⟨_, rfl, ?_⟩))
 (try simp only [Act.put, lstS, lstZ, lstC])
 go_cut [70] (fun v70 wc => ∃ (kq : Nat) (x70_8 : Bool), v70 = .bool x70_8 ∧ Aside0 (impl_moveSide.j0 kq a0 (wrap64 ((wrap64 (a1_0 * t345)) + (wrap64 (a1_1 * t346)))) (wrap64 ((wrap64 (a1_2 * t345)) + (wrap64 (a1_3 * t346)))) t348 t349 x70_8 a1_0 a1_1 a1_2 a1_3 a2_0 a2_1 a2_2 a2_3 = some (r1, r2, r3, r4, r5)) ∧ Aside0 (kq ≤ k) ∧ Aside0 (wc.heap[gb342]? = some (.cells #[.int .i64 a1_0, .int .i64 a1_1, .int .i64 a1_2, .int .i64 a1_3] 26 (0, 0))) ∧ Aside0 (wc.heap[gb343]? = some (.cells #[.int .i64 a2_0, .int .i64 a2_1, .int .i64 a2_2, .bool a2_3] 59 (0, 0))) ∧ Aside0 (wc.heap[gb344]? = some (.cells #[.int .i64 0, .int .i64 0, .int .i64 0, .bool false] 59 (0, 0))) ∧ Aside0 (Below w.heap.size w wc))
 case first =>
  have H := HC9.out
  clear HC9
  by_cases c22 : a1_2 = 0
  ·rw [if_pos c22] at H
   have c22b0 : (a1_2 == 0) = true := beq_iff_eq.mpr c22
   have c22b1 : (a1_2 != 0) = false := bne_eq_false_iff_eq.mpr c22
   clear c22
   (first | rw [c22b0] | (simp only [i64_w, i32_w]; rw [c22b0]) | skip)
   have H' := Aside0.mk H
   clear H
   try go_wp2
   (try (rw [drewN_self w20]; generalize hq_ : World.drewN w20 _ = w20; have n0_ : Aside0 (w20.heap[gb342]? = some (.cells #[.int .i64 a1_0, .int .i64 a1_1, .int .i64 a1_2, .int .i64 a1_3] 26 (0, 0))) := ⟨by rw [← hq_]; exact (bl_ BK342).out⟩; have n1_ : Aside0 (w20.heap[gb343]? = some (.cells #[.int .i64 a2_0, .int .i64 a2_1, .int .i64 a2_2, .bool a2_3] 59 (0, 0))) := ⟨by rw [← hq_]; exact (bl_ BK343).out⟩; have n2_ : Aside0 (w20.heap[gb344]? = some (.cells #[.int .i64 0, .int .i64 0, .int .i64 0, .bool false] 59 (0, 0))) := ⟨by rw [← hq_]; exact (bl_ BK344).out⟩; have n3_ : Aside0 (Below w.heap.size w w20) := ⟨by rw [← hq_]; exact (bw_ HB).out⟩; clear BK342 BK343 BK344 HB hq_; have BK342 := n0_; have BK343 := n1_; have BK344 := n2_; have HB := n3_; clear n0_ n1_ n2_ n3_))
   replace BK342 := Aside0.mk (blk_drew BK342.out)
   replace BK343 := Aside0.mk (blk_drew BK343.out)
   replace BK344 := Aside0.mk (blk_drew BK344.out)
   replace HB := Aside0.mk (below_drew1 HB.out)
   refine start_ (n := 16) (S := fun w' => w'.cell? ⟨gb342, 0, none⟩ = some (.int .i64 a1_0) ∧ w'.cell? ⟨gb342, 1, none⟩ = some (.int .i64 a1_1) ∧ w'.cell? ⟨gb342, 2, none⟩ = some (.int .i64 a1_2) ∧ w'.cell? ⟨gb342, 3, none⟩ = some (.int .i64 a1_3)) (ds := []) (bv_ 16 0) (by kernel_rfl) rfl rfl ⟨cz_ BK342 0, cz_ BK342 1, cz_ BK342 2, cz_ BK342 3⟩ (fun hHeld => ?_); refine with_tabW impl_moveSide.tab5 impl_moveSide.bits5 (fun HT_ HW_ => ?_)
   generalize w20.drew = w23 at BK342 BK343 BK344 HB hHeld ⊢
   refine pu_ HT_ 0 (some 55) (bv_ 16 1) ?_
   refine pu_ HT_ 1 (some 56) (bv_ 16 3) ?_
   refine ta_ HT_ HW_ 2 (some 57) (bv_ 16 7) hHeld ?_ (hy := by rintro w' ⟨s0, s1, s2, s3⟩; go_simp; with_reducible rfl)
   refine pu_ HT_ 3 (some 58) (bv_ 16 15) ?_
   refine pu_ HT_ 4 (some 59) (bv_ 16 31) ?_
   refine pv_ HT_ 5 (some 60) (bv_ 16 63) ?_
   refine pv_ HT_ 6 (some 61) (bv_ 16 127) ?_
   refine pv_ HT_ 7 (some 62) (bv_ 16 255) ?_
   refine pv_ HT_ 8 (some 63) (bv_ 16 511) ?_
   refine pv_ HT_ 9 (some 64) (bv_ 16 1023) ?_
   refine pv_ HT_ 10 (some 65) (bv_ 16 2047) ?_
   refine pv_ HT_ 11 (some 66) (bv_ 16 4095) ?_
   refine pv_ HT_ 12 (some 67) (bv_ 16 8191) ?_
   refine pv_ HT_ 13 (some 68) (bv_ 16 16383) ?_
   refine pv_ HT_ 14 (some 69) (bv_ 16 32767) ?_
   refine pu_ HT_ 15 (some 70) (bv_ 16 65535) ?_
   refine done_ (done_of HT_.out (by kernel_rfl)) ?_
   try go_wp2
   go_meet
   case rel => exact ⟨_, (false), en_, H', ⟨by first | omega | exact Nat.le_refl _⟩, bl_ BK342, bl_ BK343, bl_ BK344, bw_ HB⟩
  ·rw [if_neg c22] at H
   have c22b0 : (a1_2 == 0) = false := beq_eq_false_iff_ne.mpr c22
   have c22b1 : (a1_2 != 0) = true := bne_iff_ne.mpr c22
   (first | rw [c22b0] | (simp only [i64_w, i32_w]; rw [c22b0]) | skip)
   replace H := ob_ H
   obtain ⟨t350, A240, H⟩ := H
   have A24 := Aside0.mk A240
   clear A240
   have H' := Aside0.mk H
   clear H
   try go_wp2
   (try (rw [drewN_self w20]; generalize hq_ : World.drewN w20 _ = w20; have n0_ : Aside0 (w20.heap[gb342]? = some (.cells #[.int .i64 a1_0, .int .i64 a1_1, .int .i64 a1_2, .int .i64 a1_3] 26 (0, 0))) := ⟨by rw [← hq_]; exact (bl_ BK342).out⟩; have n1_ : Aside0 (w20.heap[gb343]? = some (.cells #[.int .i64 a2_0, .int .i64 a2_1, .int .i64 a2_2, .bool a2_3] 59 (0, 0))) := ⟨by rw [← hq_]; exact (bl_ BK343).out⟩; have n2_ : Aside0 (w20.heap[gb344]? = some (.cells #[.int .i64 0, .int .i64 0, .int .i64 0, .bool false] 59 (0, 0))) := ⟨by rw [← hq_]; exact (bl_ BK344).out⟩; have n3_ : Aside0 (Below w.heap.size w w20) := ⟨by rw [← hq_]; exact (bw_ HB).out⟩; clear BK342 BK343 BK344 HB hq_; have BK342 := n0_; have BK343 := n1_; have BK344 := n2_; have HB := n3_; clear n0_ n1_ n2_ n3_))
   replace BK342 := Aside0.mk (blk_drew BK342.out)
   replace BK343 := Aside0.mk (blk_drew BK343.out)
   replace BK344 := Aside0.mk (blk_drew BK344.out)
   replace HB := Aside0.mk (below_drew1 HB.out)
   refine start_ (n := 16) (S := fun w' => w'.cell? ⟨gb342, 0, none⟩ = some (.int .i64 a1_0) ∧ w'.cell? ⟨gb342, 1, none⟩ = some (.int .i64 a1_1) ∧ w'.cell? ⟨gb342, 2, none⟩ = some (.int .i64 a1_2) ∧ w'.cell? ⟨gb342, 3, none⟩ = some (.int .i64 a1_3) ∧ w'.cell? ⟨gb343, 0, none⟩ = some (.int .i64 a2_0) ∧ w'.cell? ⟨gb343, 1, none⟩ = some (.int .i64 a2_1) ∧ w'.cell? ⟨gb343, 2, none⟩ = some (.int .i64 a2_2) ∧ w'.cell? ⟨gb343, 3, none⟩ = some (.bool a2_3)) (ds := []) (bv_ 16 0) (by kernel_rfl) rfl rfl ⟨cz_ BK342 0, cz_ BK342 1, cz_ BK342 2, cz_ BK342 3, cz_ BK343 0, cz_ BK343 1, cz_ BK343 2, cz_ BK343 3⟩ (fun hHeld => ?_); refine with_tabW impl_moveSide.tab5 impl_moveSide.bits5 (fun HT_ HW_ => ?_)
   generalize w20.drew = w25 at BK342 BK343 BK344 HB hHeld ⊢
   refine pu_ HT_ 0 (some 55) (bv_ 16 1) ?_
   refine pu_ HT_ 1 (some 56) (bv_ 16 3) ?_
   refine ta_ HT_ HW_ 2 (some 57) (bv_ 16 7) hHeld ?_ (hy := by rintro w' ⟨s0, s1, s2, s3, s4, s5, s6, s7⟩; go_simp; with_reducible rfl)
   refine pu_ HT_ 3 (some 58) (bv_ 16 15) ?_
   refine pu_ HT_ 4 (some 59) (bv_ 16 31) ?_
   refine pu_ HT_ 5 (some 60) (bv_ 16 63) ?_
   refine pu_ HT_ 6 (some 61) (bv_ 16 127) ?_
   refine pu_ HT_ 9 (some 64) (bv_ 16 639) ?_
   refine pu_ HT_ 10 (some 65) (bv_ 16 1663) ?_
   refine pu_ HT_ 12 (some 67) (bv_ 16 5759) ?_
   refine ta_ HT_ HW_ 11 (some 66) (bv_ 16 7807) hHeld ?_ (hy := by rintro w' ⟨s0, s1, s2, s3, s4, s5, s6, s7⟩; go_simp; with_reducible rfl)
   refine pu_ HT_ 13 (some 68) (bv_ 16 15999) ?_
   refine on_ HT_ 7 (some 62) (bv_ 16 16127) (fun K hK => ?_)
   refine gs_ Try.func168 #[.int .i64 a0, .int .i64 (wrap64 ((wrap64 (a1_2 * t345)) + (wrap64 (a1_3 * t346))))] ?_
   with_reducible refine (impl_valuation.calls k a0 (wrap64 ((wrap64 (a1_2 * t345)) + (wrap64 (a1_3 * t346)))) t350 _ A24.out).mono ?_
   rintro e w' ⟨rfl, ⟨nd, rfl⟩⟩
   refine ⟨_, rfl, ?_⟩
   refine hK.out _ _ ⟨cz_ BK342 0, cz_ BK342 1, cz_ BK342 2, cz_ BK342 3, cz_ BK343 0, cz_ BK343 1, cz_ BK343 2, cz_ BK343 3⟩ (fun hHeld => ?_)
   clear hK K
   refine nm_ (some 62) ?_
   refine pu_ HT_ 8 (some 63) (bv_ 16 16383) ?_
   refine pu_ HT_ 14 (some 69) (bv_ 16 32767) ?_
   refine pu_ HT_ 15 (some 70) (bv_ 16 65535) ?_
   refine done_ (done_of HT_.out (by kernel_rfl)) ?_
   try go_wp2
   go_meet
   case rel => exact ⟨_, (decide ((wrap64 (t350 - 6)) ≥ (wrap64 (a2_0 + t349)))), en_, H', ⟨by first | omega | exact Nat.le_refl _⟩, bl_ BK342, bl_ BK343, bl_ BK344, bw_ HB⟩
 case rest =>
  clear HC9
  try clear c1
  try clear c2
  try clear p2
  try clear p6
  try clear c7
  try clear c12
  try clear c13
  try clear c14
  try clear c15
  try clear c16
  try clear c18
  try clear c22
  try clear c22b0
  try clear c22b1
  try clear hcz15_0 hcz15_1 hcz15_2 hcz15_3
  try clear hcz19_0 hcz19_1 hcz19_2 hcz19_3
  try clear hcz21_0 hcz21_1 hcz21_2 hcz21_3
  try clear hfz15_0 hfz15_1 hfz15_2 hfz15_3
  try clear hfz19_0 hfz19_1 hfz19_2 hfz19_3
  try clear hfz21_0 hfz21_1 hfz21_2 hfz21_3
  obtain ⟨kq, x70_8, rfl, HA, HJ8, BK342, BK343, BK344, HB⟩ := hcut
  cases kq with
  | zero => exact absurd HA.out (by simp [impl_moveSide.j0])
  | succ kj8 =>
   have H := HA.out
   clear HA
   simp only [impl_moveSide.j0] at H
   by_cases c26 : x70_8 = true
   ·subst c26
    have H1 : ((impl_ballAt.f kj8 a0 a1_0 a1_2 (wrap64 ((wrap64 ((wrap64 (t348 - (wrap64 (2 * t349)))) - a2_0)) + 1))).bind fun bt351 => (some (bt351.1, bt351.2.1, bt351.2.2.1, !a2_3, bt351.2.2.2))) = some (r1, r2, r3, r4, r5) := by rw [if_pos rfl] at H; exact H
    clear H
    have H := H1
    clear H1
    replace H := ob_ H
    obtain ⟨⟨t351, t352, t353, t354⟩, A270, H⟩ := H
    have A27 := Aside0.mk A270
    clear A270
    simp only [Option.some.injEq, Prod.mk.injEq] at H
    obtain ⟨rfl, rfl, rfl, rfl, rfl⟩ := H
    have hnb28 := NB342_343.out
    have hnc28 := NB343_342.out
    have hnb29 := NB342_344.out
    have hnc29 := NB344_342.out
    obtain ⟨hcz30_0, hcz30_1, hcz30_2, hcz30_3, hfz30_0, hfz30_1, hfz30_2, hfz30_3⟩ := ch4_ BK342
    have hnb31 := NB343_344.out
    have hnc31 := NB344_343.out
    obtain ⟨hcz32_0, hcz32_1, hcz32_2, hcz32_3, hfz32_0, hfz32_1, hfz32_2, hfz32_3⟩ := ch4_ BK343
    go_wp2_with (first | (refine ge_ 88 Try.func169 #[.int .i64 a0, .int .i64 a1_0, .int .i64 a1_2, .int .i64 (wrap64 ((wrap64 ((wrap64 (t348 - (wrap64 (2 * t349)))) - a2_0)) + 1))] ?_; (with_reducible refine (impl_ballAt.calls kj8 a0 a1_0 a1_2 (wrap64 ((wrap64 ((wrap64 (t348 - (wrap64 (2 * t349)))) - a2_0)) + 1)) t351 t352 t353 t354 _ A27.out).mono ?_); rintro e w33 ⟨rfl, hb⟩; refine ⟨_, rfl, ?_⟩; replace BK342 := bb_ BK342 hb; replace BK343 := bb_ BK343 hb; replace BK344 := bb_ BK344 hb; replace HB := bt_ HB hb; (try clear hb); (try clear hb2); (try clear hk); (try clear hi)) | (refine bx_ 14 #[.int .i64 0, .int .i64 0, .int .i64 0] 39 ?_; intro gb355 hg w34 hbox hb; have BK355 := Aside0.mk (hbox); have GW355 := bs_ HB hg; have GE355 := bs_ HB hg; have NB342_355 := bm_ BK342 hg; have NB355_342 := bn_ BK342 hg; have NB343_355 := bm_ BK343 hg; have NB355_343 := bn_ BK343 hg; have NB344_355 := bm_ BK344 hg; have NB355_344 := bn_ BK344 hg; replace BK342 := bb_ BK342 hb; replace BK343 := bb_ BK343 hb; replace BK344 := bb_ BK344 hb; replace HB := bt_ HB hb; clear hb hbox hg; have hnb35 := NB355_342.out; have hnc35 := NB342_355.out; have hnb36 := NB355_343.out; have hnc36 := NB343_355.out; have hnb37 := NB355_344.out; have hnc37 := NB344_355.out; obtain ⟨hcz38_0, hcz38_1, hcz38_2, hfz38_0, hfz38_1, hfz38_2⟩ := ch3_ BK355; obtain ⟨hcz39_0, hcz39_1, hcz39_2, hcz39_3, hfz39_0, hfz39_1, hfz39_2, hfz39_3⟩ := ch4_ BK343; obtain ⟨hcz40_0, hcz40_1, hcz40_2, hcz40_3, hfz40_0, hfz40_1, hfz40_2, hfz40_3⟩ := ch4_ BK344))
    refine bodyPost_ret (results_ct rfl _ _ gb344 59 #[.int .i64 t351, .int .i64 t352, .int .i64 t353, .bool (!a2_3)] (0, 0) _ rfl (bp_ BK344).out Try.underlying59 rfl (by kernel_rfl)) rfl ?_
    exact ⟨es_, (bw_ HB).out⟩
   ·replace c26 := Bool.eq_false_iff.mpr c26
    subst c26
    have H1 : ((impl_valuation.f kj8 a0 (wrap64 ((wrap64 (a1_2 * t345)) + (wrap64 (a1_3 * t346))))).bind fun t356 => ((impl_ballAt.f kj8 a0 (wrap64 ((wrap64 (a1_0 * t345)) + (wrap64 (a1_1 * t346)))) (wrap64 ((wrap64 (a1_2 * t345)) + (wrap64 (a1_3 * t346)))) (wrap64 ((wrap64 (a2_0 + t348)) - (wrap64 (2 * (wrap64 (t356 - 6))))))).bind fun bt357 => (some (bt357.1, bt357.2.1, bt357.2.2.1, a2_3, bt357.2.2.2)))) = some (r1, r2, r3, r4, r5) := by rw [if_neg (show ¬ (false = true) by decide)] at H; exact H
    clear H
    have H := H1
    clear H1
    replace H := ob_ H
    obtain ⟨t356, A410, H⟩ := H
    have A41 := Aside0.mk A410
    clear A410
    replace H := ob_ H
    obtain ⟨⟨t357, t358, t359, t360⟩, A420, H⟩ := H
    have A42 := Aside0.mk A420
    clear A420
    simp only [Option.some.injEq, Prod.mk.injEq] at H
    obtain ⟨rfl, rfl, rfl, rfl, rfl⟩ := H
    try go_wp2
    replace BK342 := Aside0.mk (blk_drew BK342.out)
    replace BK343 := Aside0.mk (blk_drew BK343.out)
    replace BK344 := Aside0.mk (blk_drew BK344.out)
    replace HB := Aside0.mk (below_drew1 HB.out)
    refine start_ (n := 21) (S := fun w' => w'.cell? ⟨gb343, 0, none⟩ = some (.int .i64 a2_0) ∧ w'.cell? ⟨gb343, 1, none⟩ = some (.int .i64 a2_1) ∧ w'.cell? ⟨gb343, 2, none⟩ = some (.int .i64 a2_2) ∧ w'.cell? ⟨gb343, 3, none⟩ = some (.bool a2_3)) (ds := []) (bv_ 21 0) (by kernel_rfl) rfl rfl ⟨cz_ BK343 0, cz_ BK343 1, cz_ BK343 2, cz_ BK343 3⟩ (fun hHeld => ?_); refine with_tabW impl_moveSide.tab8 impl_moveSide.bits8 (fun HT_ HW_ => ?_)
    generalize wc.drew = w43 at BK342 BK343 BK344 HB hHeld ⊢
    refine pu_ HT_ 0 (some 98) (bv_ 21 1) ?_
    refine pu_ HT_ 1 (some 99) (bv_ 21 3) ?_
    refine pu_ HT_ 2 (some 100) (bv_ 21 7) ?_
    refine pu_ HT_ 3 (some 101) (bv_ 21 15) ?_
    refine pu_ HT_ 4 (some 102) (bv_ 21 31) ?_
    refine pu_ HT_ 6 (some 104) (bv_ 21 95) ?_
    refine pu_ HT_ 8 (some 106) (bv_ 21 351) ?_
    refine pu_ HT_ 9 (some 107) (bv_ 21 863) ?_
    refine ta_ HT_ HW_ 5 (some 103) (bv_ 21 895) hHeld ?_ (hy := by rintro w' ⟨s0, s1, s2, s3⟩; go_simp; with_reducible rfl)
    refine pu_ HT_ 7 (some 105) (bv_ 21 1023) ?_
    refine join_ (σ := Nat) 2 (bv_ 21 524287) (fun s_ => [(108, .int .i64 t356), (112, .tuple #[.agg #[.int .i64 t357, .int .i64 t358, .int .i64 t359], .bool t360]), (16, .pointer (some ⟨s_, 0, none⟩)), (109, .int .i64 (wrap64 (t356 - 6))), (110, .int .i64 (wrap64 (2 * (wrap64 (t356 - 6))))), (111, .int .i64 (wrap64 ((wrap64 (a2_0 + t348)) - (wrap64 (2 * (wrap64 (t356 - 6))))))), (97, .tuple #[.agg #[.int .i64 t357, .int .i64 t358, .int .i64 t359], .bool t360]), (113, .agg #[.int .i64 t357, .int .i64 t358, .int .i64 t359]), (114, .bool t360)]) (fun s_ w' => (w'.cell? ⟨gb343, 0, none⟩ = some (.int .i64 a2_0) ∧ w'.cell? ⟨gb343, 1, none⟩ = some (.int .i64 a2_1) ∧ w'.cell? ⟨gb343, 2, none⟩ = some (.int .i64 a2_2) ∧ w'.cell? ⟨gb343, 3, none⟩ = some (.bool a2_3)) ∧ (w'.heap[gb342]? = some (.cells #[.int .i64 a1_0, .int .i64 a1_1, .int .i64 a1_2, .int .i64 a1_3] 26 (0, 0))) ∧ (w'.heap[gb343]? = some (.cells #[.int .i64 a2_0, .int .i64 a2_1, .int .i64 a2_2, .bool a2_3] 59 (0, 0))) ∧ (w'.heap[gb344]? = some (.cells #[.int .i64 0, .int .i64 0, .int .i64 0, .bool false] 59 (0, 0))) ∧ (w'.heap[s_]? = some (.cells #[.int .i64 0, .int .i64 0, .int .i64 0] 39 (0, 0))) ∧ (w.heap.size ≤ s_) ∧ (w.heap.size ≤ s_) ∧ (gb342 ≠ s_) ∧ (s_ ≠ gb342) ∧ (gb343 ≠ s_) ∧ (s_ ≠ gb343) ∧ (gb344 ≠ s_) ∧ (s_ ≠ gb344) ∧ (Below w.heap.size w w')) ?_ ?_
    rotate_left
    ·intro hCont
     refine tw_ HT_ 10 18 (some 108) (some 16) (bv_ 21 2047) (bv_ 21 263167) (fun K hK => ?_) (fun K hK => ?_)
     ·skip
      refine gs_ Try.func168 #[.int .i64 a0, .int .i64 (wrap64 ((wrap64 (a1_2 * t345)) + (wrap64 (a1_3 * t346))))] ?_
      with_reducible refine (impl_valuation.calls kj8 a0 (wrap64 ((wrap64 (a1_2 * t345)) + (wrap64 (a1_3 * t346)))) t356 _ A41.out).mono ?_
      rintro e w' ⟨rfl, ⟨nd, rfl⟩⟩
      refine ⟨_, rfl, ?_⟩
      refine hK.out _ _ ⟨cz_ BK343 0, cz_ BK343 1, cz_ BK343 2, cz_ BK343 3⟩ (fun hHeld => ?_)
      clear hK K
      refine nm_ (some 108) ?_
      refine pu_ HT_ 11 (some 109) (bv_ 21 4095) ?_
      refine pu_ HT_ 12 (some 110) (bv_ 21 8191) ?_
      refine pu_ HT_ 13 (some 111) (bv_ 21 16383) ?_
      refine tw_ HT_ 14 18 (some 112) (some 16) (bv_ 21 32767) (bv_ 21 278527) (fun K hK => ?_) (fun K hK => ?_)
      ·skip
       refine gs_ Try.func169 #[.int .i64 a0, .int .i64 (wrap64 ((wrap64 (a1_0 * t345)) + (wrap64 (a1_1 * t346)))), .int .i64 (wrap64 ((wrap64 (a1_2 * t345)) + (wrap64 (a1_3 * t346)))), .int .i64 (wrap64 ((wrap64 (a2_0 + t348)) - (wrap64 (2 * (wrap64 (t356 - 6))))))] ?_
       with_reducible refine (impl_ballAt.calls kj8 a0 (wrap64 ((wrap64 (a1_0 * t345)) + (wrap64 (a1_1 * t346)))) (wrap64 ((wrap64 (a1_2 * t345)) + (wrap64 (a1_3 * t346)))) (wrap64 ((wrap64 (a2_0 + t348)) - (wrap64 (2 * (wrap64 (t356 - 6)))))) t357 t358 t359 t360 _ A42.out).mono ?_
       rintro e w44 ⟨rfl, hb⟩
       refine ⟨_, rfl, ?_⟩
       replace BK342 := bb_ BK342 hb
       replace BK343 := bb_ BK343 hb
       replace BK344 := bb_ BK344 hb
       replace HB := bt_ HB hb
       (try clear hb)
       (try clear hb2)
       (try clear hk)
       (try clear hi)
       refine hK.out _ _ ⟨cz_ BK343 0, cz_ BK343 1, cz_ BK343 2, cz_ BK343 3⟩ (fun hHeld => ?_)
       clear hK K
       refine nm_ (some 112) ?_
       refine pu_ HT_ 15 (some 97) (bv_ 21 65535) ?_
       refine pu_ HT_ 16 (some 113) (bv_ 21 131071) ?_
       refine pu_ HT_ 17 (some 114) (bv_ 21 262143) ?_
       refine on_ HT_ 18 (some 16) (bv_ 21 524287) (fun K hK => ?_)
       refine bz_ 16 #[.int .i64 0, .int .i64 0, .int .i64 0] 39 ?_
       intro gb361 hg w45 hbox hb
       have BK361 := Aside0.mk (hbox)
       have GW361 := bs_ HB hg
       have GE361 := bs_ HB hg
       have NB342_361 := bm_ BK342 hg
       have NB361_342 := bn_ BK342 hg
       have NB343_361 := bm_ BK343 hg
       have NB361_343 := bn_ BK343 hg
       have NB344_361 := bm_ BK344 hg
       have NB361_344 := bn_ BK344 hg
       replace BK342 := bb_ BK342 hb
       replace BK343 := bb_ BK343 hb
       replace BK344 := bb_ BK344 hb
       replace HB := bt_ HB hb
       clear hb hbox hg
       refine hK.out _ _ ⟨cz_ BK343 0, cz_ BK343 1, cz_ BK343 2, cz_ BK343 3⟩ (fun hHeld => ?_)
       clear hK K
       refine nm_ (some 16) ?_
       exact norm_ (by simp only [putAll, Act.put, lstS, lstZ, lstC]) (hCont (gb361) _ ⟨hHeld, (bl_ BK342).out, (bl_ BK343).out, (bl_ BK344).out, (bl_ BK361).out, GW361.out, GE361.out, NB342_361.out, NB361_342.out, NB343_361.out, NB361_343.out, NB344_361.out, NB361_344.out, (bw_ HB).out⟩)
      ·skip
       refine bz_ 16 #[.int .i64 0, .int .i64 0, .int .i64 0] 39 ?_
       intro gb361 hg w44 hbox hb
       have BK361 := Aside0.mk (hbox)
       have GW361 := bs_ HB hg
       have GE361 := bs_ HB hg
       have NB342_361 := bm_ BK342 hg
       have NB361_342 := bn_ BK342 hg
       have NB343_361 := bm_ BK343 hg
       have NB361_343 := bn_ BK343 hg
       have NB344_361 := bm_ BK344 hg
       have NB361_344 := bn_ BK344 hg
       replace BK342 := bb_ BK342 hb
       replace BK343 := bb_ BK343 hb
       replace BK344 := bb_ BK344 hb
       replace HB := bt_ HB hb
       clear hb hbox hg
       refine hK.out _ _ ⟨cz_ BK343 0, cz_ BK343 1, cz_ BK343 2, cz_ BK343 3⟩ (fun hHeld => ?_)
       clear hK K
       refine nm_ (some 16) ?_
       refine on_ HT_ 14 (some 112) (bv_ 21 294911) (fun K hK => ?_)
       refine gs_ Try.func169 #[.int .i64 a0, .int .i64 (wrap64 ((wrap64 (a1_0 * t345)) + (wrap64 (a1_1 * t346)))), .int .i64 (wrap64 ((wrap64 (a1_2 * t345)) + (wrap64 (a1_3 * t346)))), .int .i64 (wrap64 ((wrap64 (a2_0 + t348)) - (wrap64 (2 * (wrap64 (t356 - 6))))))] ?_
       with_reducible refine (impl_ballAt.calls kj8 a0 (wrap64 ((wrap64 (a1_0 * t345)) + (wrap64 (a1_1 * t346)))) (wrap64 ((wrap64 (a1_2 * t345)) + (wrap64 (a1_3 * t346)))) (wrap64 ((wrap64 (a2_0 + t348)) - (wrap64 (2 * (wrap64 (t356 - 6)))))) t357 t358 t359 t360 _ A42.out).mono ?_
       rintro e w45 ⟨rfl, hb⟩
       refine ⟨_, rfl, ?_⟩
       replace BK342 := bb_ BK342 hb
       replace BK343 := bb_ BK343 hb
       replace BK344 := bb_ BK344 hb
       replace BK361 := bb_ BK361 hb
       replace HB := bt_ HB hb
       (try clear hb)
       (try clear hb2)
       (try clear hk)
       (try clear hi)
       refine hK.out _ _ ⟨cz_ BK343 0, cz_ BK343 1, cz_ BK343 2, cz_ BK343 3⟩ (fun hHeld => ?_)
       clear hK K
       refine nm_ (some 112) ?_
       refine pu_ HT_ 15 (some 97) (bv_ 21 327679) ?_
       refine pu_ HT_ 16 (some 113) (bv_ 21 393215) ?_
       refine pu_ HT_ 17 (some 114) (bv_ 21 524287) ?_
       exact norm_ (by simp only [putAll, Act.put, lstS, lstZ, lstC]) (hCont (gb361) _ ⟨hHeld, (bl_ BK342).out, (bl_ BK343).out, (bl_ BK344).out, (bl_ BK361).out, GW361.out, GE361.out, NB342_361.out, NB361_342.out, NB343_361.out, NB361_343.out, NB344_361.out, NB361_344.out, (bw_ HB).out⟩)
     ·skip
      refine bz_ 16 #[.int .i64 0, .int .i64 0, .int .i64 0] 39 ?_
      intro gb361 hg w44 hbox hb
      have BK361 := Aside0.mk (hbox)
      have GW361 := bs_ HB hg
      have GE361 := bs_ HB hg
      have NB342_361 := bm_ BK342 hg
      have NB361_342 := bn_ BK342 hg
      have NB343_361 := bm_ BK343 hg
      have NB361_343 := bn_ BK343 hg
      have NB344_361 := bm_ BK344 hg
      have NB361_344 := bn_ BK344 hg
      replace BK342 := bb_ BK342 hb
      replace BK343 := bb_ BK343 hb
      replace BK344 := bb_ BK344 hb
      replace HB := bt_ HB hb
      clear hb hbox hg
      refine hK.out _ _ ⟨cz_ BK343 0, cz_ BK343 1, cz_ BK343 2, cz_ BK343 3⟩ (fun hHeld => ?_)
      clear hK K
      refine nm_ (some 16) ?_
      refine on_ HT_ 10 (some 108) (bv_ 21 264191) (fun K hK => ?_)
      refine gs_ Try.func168 #[.int .i64 a0, .int .i64 (wrap64 ((wrap64 (a1_2 * t345)) + (wrap64 (a1_3 * t346))))] ?_
      with_reducible refine (impl_valuation.calls kj8 a0 (wrap64 ((wrap64 (a1_2 * t345)) + (wrap64 (a1_3 * t346)))) t356 _ A41.out).mono ?_
      rintro e w' ⟨rfl, ⟨nd, rfl⟩⟩
      refine ⟨_, rfl, ?_⟩
      refine hK.out _ _ ⟨cz_ BK343 0, cz_ BK343 1, cz_ BK343 2, cz_ BK343 3⟩ (fun hHeld => ?_)
      clear hK K
      refine nm_ (some 108) ?_
      refine pu_ HT_ 11 (some 109) (bv_ 21 266239) ?_
      refine pu_ HT_ 12 (some 110) (bv_ 21 270335) ?_
      refine pu_ HT_ 13 (some 111) (bv_ 21 278527) ?_
      refine on_ HT_ 14 (some 112) (bv_ 21 294911) (fun K hK => ?_)
      refine gs_ Try.func169 #[.int .i64 a0, .int .i64 (wrap64 ((wrap64 (a1_0 * t345)) + (wrap64 (a1_1 * t346)))), .int .i64 (wrap64 ((wrap64 (a1_2 * t345)) + (wrap64 (a1_3 * t346)))), .int .i64 (wrap64 ((wrap64 (a2_0 + t348)) - (wrap64 (2 * (wrap64 (t356 - 6))))))] ?_
      with_reducible refine (impl_ballAt.calls kj8 a0 (wrap64 ((wrap64 (a1_0 * t345)) + (wrap64 (a1_1 * t346)))) (wrap64 ((wrap64 (a1_2 * t345)) + (wrap64 (a1_3 * t346)))) (wrap64 ((wrap64 (a2_0 + t348)) - (wrap64 (2 * (wrap64 (t356 - 6)))))) t357 t358 t359 t360 _ A42.out).mono ?_
      rintro e w45 ⟨rfl, hb⟩
      refine ⟨_, rfl, ?_⟩
      replace BK342 := bb_ BK342 hb
      replace BK343 := bb_ BK343 hb
      replace BK344 := bb_ BK344 hb
      replace BK361 := bb_ BK361 hb
      replace HB := bt_ HB hb
      (try clear hb)
      (try clear hb2)
      (try clear hk)
      (try clear hi)
      refine hK.out _ _ ⟨cz_ BK343 0, cz_ BK343 1, cz_ BK343 2, cz_ BK343 3⟩ (fun hHeld => ?_)
      clear hK K
      refine nm_ (some 112) ?_
      refine pu_ HT_ 15 (some 97) (bv_ 21 327679) ?_
      refine pu_ HT_ 16 (some 113) (bv_ 21 393215) ?_
      refine pu_ HT_ 17 (some 114) (bv_ 21 524287) ?_
      exact norm_ (by simp only [putAll, Act.put, lstS, lstZ, lstC]) (hCont (gb361) _ ⟨hHeld, (bl_ BK342).out, (bl_ BK343).out, (bl_ BK344).out, (bl_ BK361).out, GW361.out, GE361.out, NB342_361.out, NB361_342.out, NB343_361.out, NB361_343.out, NB344_361.out, NB361_344.out, (bw_ HB).out⟩)
    rintro gb361 w46 ⟨hS_, h0_, h1_, h2_, h3_, h4_, h5_, h6_, h7_, h8_, h9_, h10_, h11_, h12_⟩
    have n0_ : Aside0 (w46.heap[gb342]? = some (.cells #[.int .i64 a1_0, .int .i64 a1_1, .int .i64 a1_2, .int .i64 a1_3] 26 (0, 0))) := ⟨h0_⟩
    have n1_ : Aside0 (w46.heap[gb343]? = some (.cells #[.int .i64 a2_0, .int .i64 a2_1, .int .i64 a2_2, .bool a2_3] 59 (0, 0))) := ⟨h1_⟩
    have n2_ : Aside0 (w46.heap[gb344]? = some (.cells #[.int .i64 0, .int .i64 0, .int .i64 0, .bool false] 59 (0, 0))) := ⟨h2_⟩
    have n3_ : Aside0 (w46.heap[gb361]? = some (.cells #[.int .i64 0, .int .i64 0, .int .i64 0] 39 (0, 0))) := ⟨h3_⟩
    have n4_ : Aside0 (w.heap.size ≤ gb361) := ⟨h4_⟩
    have n5_ : Aside0 (w.heap.size ≤ gb361) := ⟨h5_⟩
    have n6_ : Aside0 (gb342 ≠ gb361) := ⟨h6_⟩
    have n7_ : Aside0 (gb361 ≠ gb342) := ⟨h7_⟩
    have n8_ : Aside0 (gb343 ≠ gb361) := ⟨h8_⟩
    have n9_ : Aside0 (gb361 ≠ gb343) := ⟨h9_⟩
    have n10_ : Aside0 (gb344 ≠ gb361) := ⟨h10_⟩
    have n11_ : Aside0 (gb361 ≠ gb344) := ⟨h11_⟩
    have n12_ : Aside0 (Below w.heap.size w w46) := ⟨h12_⟩
    clear BK342
    clear BK343
    clear BK344
    clear HB
    clear h0_ h1_ h2_ h3_ h4_ h5_ h6_ h7_ h8_ h9_ h10_ h11_ h12_
    have BK342 := n0_
    have BK343 := n1_
    have BK344 := n2_
    have BK361 := n3_
    have GW361 := n4_
    have GE361 := n5_
    have NB342_361 := n6_
    have NB361_342 := n7_
    have NB343_361 := n8_
    have NB361_343 := n9_
    have NB344_361 := n10_
    have NB361_344 := n11_
    have HB := n12_
    clear n0_ n1_ n2_ n3_ n4_ n5_ n6_ n7_ n8_ n9_ n10_ n11_ n12_
    have hHeld : w46.cell? ⟨gb343, 0, none⟩ = some (.int .i64 a2_0) ∧ w46.cell? ⟨gb343, 1, none⟩ = some (.int .i64 a2_1) ∧ w46.cell? ⟨gb343, 2, none⟩ = some (.int .i64 a2_2) ∧ w46.cell? ⟨gb343, 3, none⟩ = some (.bool a2_3) := hS_
    refine norm_ (a' := ?_) ?_ ?_
    rotate_left
    ·simp only [putAll, Act.put, lstS, lstZ, lstC]
     rfl
    refine on_ HT_ 19 none (bv_ 21 1048575) (fun K hK => ?_)
    have hs47 : w46.cell? ⟨gb361, 0, none⟩ = some (.int .i64 0) := (blk_cell BK361.out 0).trans rfl
    have hfs47 := blk_frozen BK361.out 0
    have hns47_0 := NB342_361.out
    have hns47_1 := NB343_361.out
    have hns47_2 := NB344_361.out
    have hms47_0 := NB361_342.out
    have hms47_1 := NB361_343.out
    have hms47_2 := NB361_344.out
    have hs48 : w46.cell? ⟨gb361, 1, none⟩ = some (.int .i64 0) := (blk_cell BK361.out 1).trans rfl
    have hfs48 := blk_frozen BK361.out 1
    have hns48_0 := NB342_361.out
    have hns48_1 := NB343_361.out
    have hns48_2 := NB344_361.out
    have hms48_0 := NB361_342.out
    have hms48_1 := NB361_343.out
    have hms48_2 := NB361_344.out
    have hs49 : w46.cell? ⟨gb361, 2, none⟩ = some (.int .i64 0) := (blk_cell BK361.out 2).trans rfl
    have hfs49 := blk_frozen BK361.out 2
    have hns49_0 := NB342_361.out
    have hns49_1 := NB343_361.out
    have hns49_2 := NB344_361.out
    have hms49_0 := NB361_342.out
    have hms49_1 := NB361_343.out
    have hms49_2 := NB361_344.out
    refine skip_ (w1 := ?_) (by rfl) rfl ?_ ?_
    rotate_left
    ·go_simp
     rfl
    refine hK.out _ _ ⟨(cg_ NB343_361 ((cg_ NB343_361 ((cg_ NB343_361 (hHeld.1)))))), (cg_ NB343_361 ((cg_ NB343_361 ((cg_ NB343_361 (hHeld.2.1)))))), (cg_ NB343_361 ((cg_ NB343_361 ((cg_ NB343_361 (hHeld.2.2.1)))))), (cg_ NB343_361 ((cg_ NB343_361 ((cg_ NB343_361 (hHeld.2.2.2))))))⟩ (fun hHeld => ?_)
    clear hK K
    refine pu_ HT_ 20 (some 17) (bv_ 21 2097151) ?_
    refine done_ (done_of HT_.out (by kernel_rfl)) ?_
    have hnb50 := NB361_342.out
    have hnc50 := NB342_361.out
    have hnb51 := NB361_343.out
    have hnc51 := NB343_361.out
    have hnb52 := NB361_344.out
    have hnc52 := NB344_361.out
    obtain ⟨hcz53_0, hcz53_1, hcz53_2, hfz53_0, hfz53_1, hfz53_2⟩ := ch3_ BK361
    have hnb54 := NB343_342.out
    have hnc54 := NB342_343.out
    have hnb55 := NB343_344.out
    have hnc55 := NB344_343.out
    obtain ⟨hcz56_0, hcz56_1, hcz56_2, hcz56_3, hfz56_0, hfz56_1, hfz56_2, hfz56_3⟩ := ch4_ BK343
    have hnb57 := NB344_342.out
    have hnc57 := NB342_344.out
    obtain ⟨hcz58_0, hcz58_1, hcz58_2, hcz58_3, hfz58_0, hfz58_1, hfz58_2, hfz58_3⟩ := ch4_ BK344
    try go_wp2
    refine bodyPost_ret (results_ct rfl _ _ gb344 59 #[.int .i64 t357, .int .i64 t358, .int .i64 t359, .bool a2_3] (0, 0) _ rfl (bp_ BK344).out Try.underlying59 rfl (by kernel_rfl)) rfl ?_
    exact ⟨es_, (bw_ HB).out⟩
end Go.Proofs.Ytbilincmcnnonaa.QS
