import Derived.Test.YtgoeelhiffbjlaaQTx10
import Derived.Test.YtgoeelhiffbjlaaQTx16
import Derived.Test.YtgoeelhiffbjlaaQTx44
import Derived.Test.YtgoeelhiffbjlaaQTx60
import Derived.Test.YtgoeelhiffbjlaaQTx53
import Derived.Test.YtgoeelhiffbjlaaQTx45
namespace Go.Proofs.Ytgoeelhiffbjlaa.QT
set_option maxHeartbeats 8000000
set_option maxRecDepth 100000
open Go.RowKit Go.Proofs.YtgoeelhiffbjlaaW.PrintWords Go.Proofs.YtgoeelhiffbjlaaW.PrintLast Go.Proofs.YtgoeelhiffbjlaaW.PrintMore
attribute [local go_sem] isSome_setCell max2_int min2_int max_two min_two max_three min_three max_four min_four
set_option linter.unusedVariables false
set_option linter.unusedSimpArgs false

/-! ### impl_moveBall: function 96 -/
def impl_moveBall.j0 : Nat → Int → Int → Int → Int → Int → Int → Int → Int → Int → Int → Option (Int × Int × Int × Bool)
 | 0, _, _, _, _, _, _, _, _, _, _ => none
 | k + 1, x0, x381000, x381001, x381002, x381003, x382000, x382001, x382002, x388000, x388001 => (impl_determinant.f x381000 x381001 x381002 x381003).bind fun t390 => ((impl_valuation.f k x0 t390).bind fun t391 => ((impl_valuation.f k x0 x388001).bind fun t392 => ((impl_ballAt.f k x0 x388000 x388001 (wrap64 ((wrap64 ((wrap64 (t391 + x382000)) + 12)) - (wrap64 (2 * t392))))).bind fun bt393 => (some (bt393.1, bt393.2.1, bt393.2.2.1, bt393.2.2.2)))))
def impl_moveBall.f (k : Nat) (a0 : Int) (a1_0 : Int) (a1_1 : Int) (a1_2 : Int) (a1_3 : Int) (a2_0 : Int) (a2_1 : Int) (a2_2 : Int) : Option (Int × Int × Int × Bool) := (impl_mark.f k a0 a2_0 a2_1 a2_2).bind fun t383 => ((impl_power.f k a0 6).bind fun t384 => ((impl_power.f k a0 (wrap64 (a2_0 + 6))).bind fun t385 => ((impl_valuation.f k a0 (wrap64 ((wrap64 (a1_2 * t383)) + (wrap64 (a1_3 * t384))))).bind fun t388 => ((impl_valuation.f k a0 (wrap64 (a1_2 * t385))).bind fun t389 => (if t388 > t389 then (impl_moveBall.j0 k a0 a1_0 a1_1 a1_2 a1_3 a2_0 a2_1 a2_2 (wrap64 (a1_0 * t385)) (wrap64 (a1_2 * t385))) else (impl_moveBall.j0 k a0 a1_0 a1_1 a1_2 a1_3 a2_0 a2_1 a2_2 (wrap64 ((wrap64 (a1_0 * t383)) + (wrap64 (a1_1 * t384)))) (wrap64 ((wrap64 (a1_2 * t383)) + (wrap64 (a1_3 * t384))))))))))
def impl_moveBall.T1 : Bool × List (List Nat × List Nat) := (true, [([], []), ([], []), ([0, 1], [0, 1]), ([], []), ([3, 2], [3]), ([], []), ([], []), ([6], [6]), ([7], [7]), ([5, 8, 4], [5, 8]), ([2, 9, 0, 1, 2], [2]), ([4, 10, 0, 1, 2, 3, 4, 10], [4]), ([9, 11, 0, 1, 2, 3, 4, 5, 6, 7, 8, 9, 10, 11], [9])])
def impl_moveBall.B1 : List Nat := [0, 0, 3, 0, 15, 0, 0, 64, 192, 511, 1023, 2047, 4095]
theorem impl_moveBall.tab1 : rtab .any (opsOf Try.f96 1) = impl_moveBall.T1 := by kernel_rfl
theorem impl_moveBall.bits1 : waitsOk impl_moveBall.T1.2 impl_moveBall.B1 = true := by kernel_rfl
def impl_moveBall.T4 : Bool × List (List Nat × List Nat) := (true, [([], []), ([], []), ([1], [1]), ([0, 2], [0, 2]), ([], []), ([], []), ([5], [5]), ([4, 6, 3], [4, 6]), ([3, 7], [3, 7])])
def impl_moveBall.B4 : List Nat := [0, 0, 2, 7, 0, 0, 32, 127, 255]
theorem impl_moveBall.tab4 : rtab .any (opsOf Try.f96 4) = impl_moveBall.T4 := by kernel_rfl
theorem impl_moveBall.bits4 : waitsOk impl_moveBall.T4.2 impl_moveBall.B4 = true := by kernel_rfl
def impl_moveBall.T6 : Bool × List (List Nat × List Nat) := (true, [([], []), ([], []), ([1], [1]), ([0, 2, 2], [0, 2]), ([], []), ([4], [4]), ([3, 5], [3, 5]), ([6], [6]), ([], []), ([], []), ([9], [9]), ([8, 10, 3], [8, 10]), ([11], [11]), ([7, 12], [7, 12]), ([13, 11, 0, 1, 2, 3, 4, 5, 6, 7, 8, 9, 10, 11, 12, 13], [13])])
def impl_moveBall.B6 : List Nat := [0, 0, 2, 7, 0, 16, 63, 127, 0, 0, 512, 1807, 3855, 8191, 16383]
theorem impl_moveBall.tab6 : rtab .any (opsOf Try.f96 6) = impl_moveBall.T6 := by kernel_rfl
theorem impl_moveBall.bits6 : waitsOk impl_moveBall.T6.2 impl_moveBall.B6 = true := by kernel_rfl
theorem impl_moveBall.calls (k : Nat) (a0 : Int) (a1_0 : Int) (a1_1 : Int) (a1_2 : Int) (a1_3 : Int) (a2_0 : Int) (a2_1 : Int) (a2_2 : Int) (r1 : Int) (r2 : Int) (r3 : Int) (r4 : Bool) (w : World) (h : impl_moveBall.f k a0 a1_0 a1_1 a1_2 a1_3 a2_0 a2_1 a2_2 = some (r1, r2, r3, r4)) :
  Calls Try.prog 96 #[.int .i64 a0, .agg #[.int .i64 a1_0, .int .i64 a1_1, .int .i64 a1_2, .int .i64 a1_3], .agg #[.int .i64 a2_0, .int .i64 a2_1, .int .i64 a2_2]] w fun e w' => e = .returned (.tuple #[.agg #[.int .i64 r1, .int .i64 r2, .int .i64 r3], .bool r4]) ∧ Below w.heap.size w w' := by
 have hu46 := Try.underlying46
 have hu25 := Try.underlying25
 have hu44 := Try.underlying44
 have HB := Aside0.mk (Below.refl w.heap.size w)
 have H : ((impl_mark.f k a0 a2_0 a2_1 a2_2).bind fun t383 => ((impl_power.f k a0 6).bind fun t384 => ((impl_power.f k a0 (wrap64 (a2_0 + 6))).bind fun t385 => ((impl_valuation.f k a0 (wrap64 ((wrap64 (a1_2 * t383)) + (wrap64 (a1_3 * t384))))).bind fun t388 => ((impl_valuation.f k a0 (wrap64 (a1_2 * t385))).bind fun t389 => (if t388 > t389 then (impl_moveBall.j0 k a0 a1_0 a1_1 a1_2 a1_3 a2_0 a2_1 a2_2 (wrap64 (a1_0 * t385)) (wrap64 (a1_2 * t385))) else (impl_moveBall.j0 k a0 a1_0 a1_1 a1_2 a1_3 a2_0 a2_1 a2_2 (wrap64 ((wrap64 (a1_0 * t383)) + (wrap64 (a1_1 * t384)))) (wrap64 ((wrap64 (a1_2 * t383)) + (wrap64 (a1_3 * t384))))))))))) = some (r1, r2, r3, r4) := h
 clear h
 replace H := ob_ H
 obtain ⟨t383, A40, H⟩ := H
 have A4 := Aside0.mk A40
 clear A40
 replace H := ob_ H
 obtain ⟨t384, A50, H⟩ := H
 have A5 := Aside0.mk A50
 clear A50
 replace H := ob_ H
 obtain ⟨t385, A60, H⟩ := H
 have A6 := Aside0.mk A60
 clear A60
 replace H := ob_ H
 obtain ⟨t388, A70, H⟩ := H
 have A7 := Aside0.mk A70
 clear A70
 replace H := ob_ H
 obtain ⟨t389, A80, H⟩ := H
 have A8 := Aside0.mk A80
 clear A80
 have HC9 := Aside0.mk H
 clear H
 go_enter Try.func96, Try.ntmps96
 try go_wp2_with (first | ((refine gd_ 4 ?_); refine bx_ 4 #[.int .i64 a1_0, .int .i64 a1_1, .int .i64 a1_2, .int .i64 a1_3] 46 ?_; intro gb380 hg w10 BK380 hb; have GW380 := bs_ HB hg; have GE380 := bs_ HB hg; replace HB := bt_ HB hb; clear hb hg) | ((refine gd_ 5 ?_); refine bx_ 5 #[.int .i64 a2_0, .int .i64 a2_1, .int .i64 a2_2] 25 ?_; intro gb381 hg w11 BK381 hb; have GW381 := bs_ HB hg; have GE381 := bs_ HB hg; have NB380_381 := bm_ BK380 hg; have NB381_380 := bn_ BK380 hg; replace BK380 := bb_ BK380 hb; replace HB := bt_ HB hb; clear hb hg) | ((refine gd_ 6 ?_); refine bx_ 6 #[.int .i64 0, .int .i64 0, .int .i64 0] 25 ?_; intro gb382 hg w12 BK382 hb; have GW382 := bs_ HB hg; have GE382 := bs_ HB hg; have NB380_382 := bm_ BK380 hg; have NB382_380 := bn_ BK380 hg; have NB381_382 := bm_ BK381 hg; have NB382_381 := bn_ BK381 hg; replace BK380 := bb_ BK380 hb; replace BK381 := bb_ BK381 hb; replace HB := bt_ HB hb; clear hb hg))
 replace BK380 := Aside0.mk (blk_drew BK380.out)
 replace BK381 := Aside0.mk (blk_drew BK381.out)
 replace BK382 := Aside0.mk (blk_drew BK382.out)
 replace HB := Aside0.mk (below_drew1 HB.out)
 refine start_ (n := 13) (S := fun w' => w'.cell? ⟨gb381, 0, none⟩ = some (.int .i64 a2_0) ∧ w'.cell? ⟨gb381, 1, none⟩ = some (.int .i64 a2_1) ∧ w'.cell? ⟨gb381, 2, none⟩ = some (.int .i64 a2_2)) (ds := []) (bv_ 13 0) (by kernel_rfl) rfl rfl ⟨cz_ BK381 0, cz_ BK381 1, cz_ BK381 2⟩ (fun hHeld => ?_); refine with_tabW impl_moveBall.tab1 impl_moveBall.bits1 (fun HT_ HW_ => ?_)
 generalize w12.drew = w13 at BK380 BK381 BK382 HB hHeld ⊢
 refine px_ HT_ 0 14 1 ?_
 refine px_ HT_ 3 17 9 ?_
 refine px_ HT_ 5 19 41 ?_
 refine px_ HT_ 6 20 105 ?_
 refine ta_ HT_ HW_ 1 (some 15) (bv_ 13 107) hHeld ?_ (hy := by rintro w' ⟨s0, s1, s2⟩; go_simp; with_reducible rfl)
 refine ta_ HT_ HW_ 7 (some 21) (bv_ 13 235) hHeld ?_ (hy := by rintro w' ⟨s0, s1, s2⟩; go_simp; with_reducible rfl)
 refine px_ HT_ 8 22 491 ?_
 refine on_ HT_ 2 (some 16) (bv_ 13 495) (fun K hK => ?_)
 refine gs_ Try.func163 #[.int .i64 a0, .agg #[.int .i64 a2_0, .int .i64 a2_1, .int .i64 a2_2]] ?_
 with_reducible refine (impl_mark.calls k a0 a2_0 a2_1 a2_2 t383 _ A4.out).mono ?_
 rintro e w14 ⟨rfl, hb⟩
 refine ⟨_, rfl, ?_⟩
 replace BK380 := bb_ BK380 hb
 replace BK381 := bb_ BK381 hb
 replace BK382 := bb_ BK382 hb
 replace HB := bt_ HB hb
 (try clear hb)
 (try clear hb2)
 (try clear hk)
 (try clear hi)
 refine hK.out _ _ ⟨cz_ BK381 0, cz_ BK381 1, cz_ BK381 2⟩ (fun hHeld => ?_)
 clear hK K
 refine nm_ (some 16) ?_
 refine on_ HT_ 4 (some 18) (bv_ 13 511) (fun K hK => ?_)
 refine gs_ Try.func162 #[.int .i64 a0, .int .i64 6] ?_
 with_reducible refine (impl_power.calls k a0 6 t384 _ A5.out).mono ?_
 rintro e w' ⟨rfl, ⟨nd, rfl⟩⟩
 refine ⟨_, rfl, ?_⟩
 refine hK.out _ _ ⟨cz_ BK381 0, cz_ BK381 1, cz_ BK381 2⟩ (fun hHeld => ?_)
 clear hK K
 refine nm_ (some 18) ?_
 refine on_ HT_ 9 (some 23) (bv_ 13 1023) (fun K hK => ?_)
 refine gs_ Try.func162 #[.int .i64 a0, .int .i64 (wrap64 (a2_0 + 6))] ?_
 with_reducible refine (impl_power.calls k a0 (wrap64 (a2_0 + 6)) t385 _ A6.out).mono ?_
 rintro e w' ⟨rfl, ⟨nd, rfl⟩⟩
 refine ⟨_, rfl, ?_⟩
 refine hK.out _ _ ⟨cz_ BK381 0, cz_ BK381 1, cz_ BK381 2⟩ (fun hHeld => ?_)
 clear hK K
 refine nm_ (some 23) ?_
 refine px_ HT_ 10 8 2047 ?_
 refine px_ HT_ 11 9 4095 ?_
 refine px_ HT_ 12 10 8191 ?_
 refine done_ (done_of HT_.out (by kernel_rfl)) ?_
 have hnb15 := NB380_381.out
 have hnc15 := NB381_380.out
 have hnb16 := NB380_382.out
 have hnc16 := NB382_380.out
 obtain ⟨hcz17_0, hcz17_1, hcz17_2, hcz17_3, hfz17_0, hfz17_1, hfz17_2, hfz17_3⟩ := ch4_ BK380
 try go_wp2_with (first | ((refine gd_ 11 ?_); refine bx_ 11 #[.int .i64 0, .int .i64 0] 44 ?_; intro gb386 hg w18 BK386 hb; have GW386 := bs_ HB hg; have GE386 := bs_ HB hg; have NB380_386 := bm_ BK380 hg; have NB386_380 := bn_ BK380 hg; have NB381_386 := bm_ BK381 hg; have NB386_381 := bn_ BK381 hg; have NB382_386 := bm_ BK382 hg; have NB386_382 := bn_ BK382 hg; replace BK380 := bb_ BK380 hb; replace BK381 := bb_ BK381 hb; replace BK382 := bb_ BK382 hb; replace HB := bt_ HB hb; clear hb hg; have hnb19 := NB386_380.out; have hnc19 := NB380_386.out; have hnb20 := NB386_381.out; have hnc20 := NB381_386.out; have hnb21 := NB386_382.out; have hnc21 := NB382_386.out; obtain ⟨hcz22_0, hcz22_1, hfz22_0, hfz22_1⟩ := ch2_ BK386; obtain ⟨hcz23_0, hcz23_1, hcz23_2, hcz23_3, hfz23_0, hfz23_1, hfz23_2, hfz23_3⟩ := ch4_ BK380) | ((refine gd_ 12 ?_); refine bx_ 12 #[.int .i64 0, .int .i64 0] 44 ?_; intro gb387 hg w24 BK387 hb; have GW387 := bs_ HB hg; have GE387 := bs_ HB hg; have NB380_387 := Aside0.mk ((by rw [hg]; exact Nat.ne_of_lt (blk_lt (g := gb380) (o := .cells #[.int .i64 a1_0, .int .i64 a1_1, .int .i64 a1_2, .int .i64 a1_3] 46 (0, 0)) (fl_ BK380 NB380_386).out) : gb380 ≠ gb387)); have NB387_380 := Aside0.mk ((by rw [hg]; exact Nat.ne_of_gt (blk_lt (g := gb380) (o := .cells #[.int .i64 a1_0, .int .i64 a1_1, .int .i64 a1_2, .int .i64 a1_3] 46 (0, 0)) (fl_ BK380 NB380_386).out) : gb387 ≠ gb380)); have NB381_387 := Aside0.mk ((by rw [hg]; exact Nat.ne_of_lt (blk_lt (g := gb381) (o := .cells #[.int .i64 a2_0, .int .i64 a2_1, .int .i64 a2_2] 25 (0, 0)) (fl_ BK381 NB381_386).out) : gb381 ≠ gb387)); have NB387_381 := Aside0.mk ((by rw [hg]; exact Nat.ne_of_gt (blk_lt (g := gb381) (o := .cells #[.int .i64 a2_0, .int .i64 a2_1, .int .i64 a2_2] 25 (0, 0)) (fl_ BK381 NB381_386).out) : gb387 ≠ gb381)); have NB382_387 := Aside0.mk ((by rw [hg]; exact Nat.ne_of_lt (blk_lt (g := gb382) (o := .cells #[.int .i64 0, .int .i64 0, .int .i64 0] 25 (0, 0)) (fl_ BK382 NB382_386).out) : gb382 ≠ gb387)); have NB387_382 := Aside0.mk ((by rw [hg]; exact Nat.ne_of_gt (blk_lt (g := gb382) (o := .cells #[.int .i64 0, .int .i64 0, .int .i64 0] 25 (0, 0)) (fl_ BK382 NB382_386).out) : gb387 ≠ gb382)); have NB386_387 := Aside0.mk ((by rw [hg]; exact Nat.ne_of_lt (blk_lt (g := gb386) (o := .cells #[.int .i64 (wrap64 (a1_0 * t385)), .int .i64 (wrap64 (a1_2 * t385))] 44 (0, 0)) (bp_ BK386).out) : gb386 ≠ gb387)); have NB387_386 := Aside0.mk ((by rw [hg]; exact Nat.ne_of_gt (blk_lt (g := gb386) (o := .cells #[.int .i64 (wrap64 (a1_0 * t385)), .int .i64 (wrap64 (a1_2 * t385))] 44 (0, 0)) (bp_ BK386).out) : gb387 ≠ gb386)); replace BK380 := fb_ BK380 NB380_386 hb; replace BK381 := fb_ BK381 NB381_386 hb; replace BK382 := fb_ BK382 NB382_386 hb; replace BK386 := Aside0.mk (blk_below (g := gb386) (o := .cells #[.int .i64 (wrap64 (a1_0 * t385)), .int .i64 (wrap64 (a1_2 * t385))] 44 (0, 0)) (bp_ BK386).out hb); replace HB := bt_ HB hb; clear hb hg; have hnb25 := NB387_380.out; have hnc25 := NB380_387.out; have hnb26 := NB387_381.out; have hnc26 := NB381_387.out; have hnb27 := NB387_382.out; have hnc27 := NB382_387.out; have hnb28 := NB387_386.out; have hnc28 := NB386_387.out; obtain ⟨hcz29_0, hcz29_1, hfz29_0, hfz29_1⟩ := ch2_ BK387))
 have n0_ : Aside0 (((w24.setCell ⟨gb387, 0, none⟩ (.int .i64 (wrap64 ((wrap64 (a1_0 * t383)) + (wrap64 (a1_1 * t384)))))).setCell ⟨gb387, 1, none⟩ (.int .i64 (wrap64 ((wrap64 (a1_2 * t383)) + (wrap64 (a1_3 * t384)))))).heap[gb380]? = some (.cells #[.int .i64 a1_0, .int .i64 a1_1, .int .i64 a1_2, .int .i64 a1_3] 46 (0, 0))) := fl_ BK380 NB380_387
 have n1_ : Aside0 (((w24.setCell ⟨gb387, 0, none⟩ (.int .i64 (wrap64 ((wrap64 (a1_0 * t383)) + (wrap64 (a1_1 * t384)))))).setCell ⟨gb387, 1, none⟩ (.int .i64 (wrap64 ((wrap64 (a1_2 * t383)) + (wrap64 (a1_3 * t384)))))).heap[gb381]? = some (.cells #[.int .i64 a2_0, .int .i64 a2_1, .int .i64 a2_2] 25 (0, 0))) := fl_ BK381 NB381_387
 have n2_ : Aside0 (((w24.setCell ⟨gb387, 0, none⟩ (.int .i64 (wrap64 ((wrap64 (a1_0 * t383)) + (wrap64 (a1_1 * t384)))))).setCell ⟨gb387, 1, none⟩ (.int .i64 (wrap64 ((wrap64 (a1_2 * t383)) + (wrap64 (a1_3 * t384)))))).heap[gb382]? = some (.cells #[.int .i64 0, .int .i64 0, .int .i64 0] 25 (0, 0))) := fl_ BK382 NB382_387
 have n3_ : Aside0 (((w24.setCell ⟨gb387, 0, none⟩ (.int .i64 (wrap64 ((wrap64 (a1_0 * t383)) + (wrap64 (a1_1 * t384)))))).setCell ⟨gb387, 1, none⟩ (.int .i64 (wrap64 ((wrap64 (a1_2 * t383)) + (wrap64 (a1_3 * t384)))))).heap[gb386]? = some (.cells #[.int .i64 (wrap64 (a1_0 * t385)), .int .i64 (wrap64 (a1_2 * t385))] 44 (0, 0))) := fl_ BK386 NB386_387
 have n4_ : Aside0 (((w24.setCell ⟨gb387, 0, none⟩ (.int .i64 (wrap64 ((wrap64 (a1_0 * t383)) + (wrap64 (a1_1 * t384)))))).setCell ⟨gb387, 1, none⟩ (.int .i64 (wrap64 ((wrap64 (a1_2 * t383)) + (wrap64 (a1_3 * t384)))))).heap[gb387]? = some (.cells #[.int .i64 (wrap64 ((wrap64 (a1_0 * t383)) + (wrap64 (a1_1 * t384)))), .int .i64 (wrap64 ((wrap64 (a1_2 * t383)) + (wrap64 (a1_3 * t384))))] 44 (0, 0))) := bp_ BK387
 have n5_ : Aside0 (Below w.heap.size w ((w24.setCell ⟨gb387, 0, none⟩ (.int .i64 (wrap64 ((wrap64 (a1_0 * t383)) + (wrap64 (a1_1 * t384)))))).setCell ⟨gb387, 1, none⟩ (.int .i64 (wrap64 ((wrap64 (a1_2 * t383)) + (wrap64 (a1_3 * t384))))))) := bw_ HB
 (try clear BK380)
 (try clear BK381)
 (try clear BK382)
 (try clear BK386)
 (try clear BK387)
 (try clear HB)
 generalize ((w24.setCell ⟨gb387, 0, none⟩ (.int .i64 (wrap64 ((wrap64 (a1_0 * t383)) + (wrap64 (a1_1 * t384)))))).setCell ⟨gb387, 1, none⟩ (.int .i64 (wrap64 ((wrap64 (a1_2 * t383)) + (wrap64 (a1_3 * t384)))))) = w30 at n0_ n1_ n2_ n3_ n4_ n5_ ⊢
 have BK380 := n0_
 have BK381 := n1_
 have BK382 := n2_
 have BK386 := n3_
 have BK387 := n4_
 have HB := n5_
 clear n0_ n1_ n2_ n3_ n4_ n5_
 replace BK380 := Aside0.mk (blk_drew BK380.out)
 replace BK381 := Aside0.mk (blk_drew BK381.out)
 replace BK382 := Aside0.mk (blk_drew BK382.out)
 replace BK386 := Aside0.mk (blk_drew BK386.out)
 replace BK387 := Aside0.mk (blk_drew BK387.out)
 replace HB := Aside0.mk (below_drew1 HB.out)
 refine start_ (n := 9) (S := fun w' => w'.cell? ⟨gb387, 0, none⟩ = some (.int .i64 (wrap64 ((wrap64 (a1_0 * t383)) + (wrap64 (a1_1 * t384))))) ∧ w'.cell? ⟨gb387, 1, none⟩ = some (.int .i64 (wrap64 ((wrap64 (a1_2 * t383)) + (wrap64 (a1_3 * t384))))) ∧ w'.cell? ⟨gb386, 0, none⟩ = some (.int .i64 (wrap64 (a1_0 * t385))) ∧ w'.cell? ⟨gb386, 1, none⟩ = some (.int .i64 (wrap64 (a1_2 * t385)))) (ds := []) (bv_ 9 0) (by kernel_rfl) rfl rfl ⟨cz_ BK387 0, cz_ BK387 1, cz_ BK386 0, cz_ BK386 1⟩ (fun hHeld => ?_); refine with_tabW impl_moveBall.tab4 impl_moveBall.bits4 (fun HT_ HW_ => ?_)
 generalize w30.drew = w31 at BK380 BK381 BK382 BK386 BK387 HB hHeld ⊢
 refine px_ HT_ 0 58 1 ?_
 refine px_ HT_ 1 59 3 ?_
 refine px_ HT_ 4 62 19 ?_
 refine px_ HT_ 5 63 51 ?_
 refine ta_ HT_ HW_ 2 (some 60) (bv_ 9 55) hHeld ?_ (hy := by rintro w' ⟨s0, s1, s2, s3⟩; go_simp; with_reducible rfl)
 refine ta_ HT_ HW_ 6 (some 64) (bv_ 9 119) hHeld ?_ (hy := by rintro w' ⟨s0, s1, s2, s3⟩; go_simp; with_reducible rfl)
 refine on_ HT_ 3 (some 61) (bv_ 9 127) (fun K hK => ?_)
 refine gs_ Try.func164 #[.int .i64 a0, .int .i64 (wrap64 ((wrap64 (a1_2 * t383)) + (wrap64 (a1_3 * t384))))] ?_
 with_reducible refine (impl_valuation.calls k a0 (wrap64 ((wrap64 (a1_2 * t383)) + (wrap64 (a1_3 * t384)))) t388 _ A7.out).mono ?_
 rintro e w' ⟨rfl, ⟨nd, rfl⟩⟩
 refine ⟨_, rfl, ?_⟩
 refine hK.out _ _ ⟨cz_ BK387 0, cz_ BK387 1, cz_ BK386 0, cz_ BK386 1⟩ (fun hHeld => ?_)
 clear hK K
 refine nm_ (some 61) ?_
 refine on_ HT_ 7 (some 65) (bv_ 9 255) (fun K hK => ?_)
 refine gs_ Try.func164 #[.int .i64 a0, .int .i64 (wrap64 (a1_2 * t385))] ?_
 with_reducible refine (impl_valuation.calls k a0 (wrap64 (a1_2 * t385)) t389 _ A8.out).mono ?_
 rintro e w' ⟨rfl, ⟨nd, rfl⟩⟩
 refine ⟨_, rfl, ?_⟩
 refine hK.out _ _ ⟨cz_ BK387 0, cz_ BK387 1, cz_ BK386 0, cz_ BK386 1⟩ (fun hHeld => ?_)
 clear hK K
 refine nm_ (some 65) ?_
 refine px_ HT_ 8 66 511 ?_
 refine done_ (done_of HT_.out (by kernel_rfl)) ?_
 go_upto_if 66 with (fail)
 go_cut [] (fun wc => ∃ (kq : Nat) (x388000_8 : Int) (x388001_8 : Int), Aside0 (impl_moveBall.j0 kq a0 a1_0 a1_1 a1_2 a1_3 a2_0 a2_1 a2_2 x388000_8 x388001_8 = some (r1, r2, r3, r4)) ∧ Aside0 (kq ≤ k) ∧ Aside0 (wc.heap[gb380]? = some (.cells #[.int .i64 a1_0, .int .i64 a1_1, .int .i64 a1_2, .int .i64 a1_3] 46 (0, 0))) ∧ Aside0 (wc.heap[gb381]? = some (.cells #[.int .i64 a2_0, .int .i64 a2_1, .int .i64 a2_2] 25 (0, 0))) ∧ Aside0 (wc.heap[gb382]? = some (.cells #[.int .i64 0, .int .i64 0, .int .i64 0] 25 (0, 0))) ∧ Aside0 (wc.heap[gb386]? = some (.cells #[.int .i64 (wrap64 (a1_0 * t385)), .int .i64 (wrap64 (a1_2 * t385))] 44 (0, 0))) ∧ Aside0 (wc.heap[gb387]? = some (.cells #[.int .i64 x388000_8, .int .i64 x388001_8] 44 (0, 0))) ∧ Aside0 (Below w.heap.size w wc))
 case first =>
  have H := HC9.out
  clear HC9
  by_cases c32 : t388 > t389
  ·rw [if_pos c32] at H
   have c32b0 : decide (t389 < t388) = true := decide_eq_true c32
   clear c32
   (first | rw [c32b0] | (simp only [i64_w, i32_w]; rw [c32b0]) | skip)
   have H' := Aside0.mk H
   clear H
   have hnb33 := NB386_380.out
   have hnc33 := NB380_386.out
   have hnb34 := NB386_381.out
   have hnc34 := NB381_386.out
   have hnb35 := NB386_382.out
   have hnc35 := NB382_386.out
   have hnb36 := NB386_387.out
   have hnc36 := NB387_386.out
   obtain ⟨hcz37_0, hcz37_1, hfz37_0, hfz37_1⟩ := ch2_ BK386
   have hnb38 := NB387_380.out
   have hnc38 := NB380_387.out
   have hnb39 := NB387_381.out
   have hnc39 := NB381_387.out
   have hnb40 := NB387_382.out
   have hnc40 := NB382_387.out
   obtain ⟨hcz41_0, hcz41_1, hfz41_0, hfz41_1⟩ := ch2_ BK387
   go_wp2
   go_meet
   case rel => exact ⟨_, (wrap64 (a1_0 * t385)), (wrap64 (a1_2 * t385)), H', ⟨by first | omega | exact Nat.le_refl _⟩, fl_ BK380 NB380_387, fl_ BK381 NB381_387, fl_ BK382 NB382_387, fl_ BK386 NB386_387, bp_ BK387, bw_ HB⟩
  ·rw [if_neg c32] at H
   have c32b0 : decide (t389 < t388) = false := decide_eq_false c32
   clear c32
   (first | rw [c32b0] | (simp only [i64_w, i32_w]; rw [c32b0]) | skip)
   have H' := Aside0.mk H
   clear H
   go_wp2
   go_meet
   case rel => exact ⟨_, (wrap64 ((wrap64 (a1_0 * t383)) + (wrap64 (a1_1 * t384)))), (wrap64 ((wrap64 (a1_2 * t383)) + (wrap64 (a1_3 * t384)))), H', ⟨by first | omega | exact Nat.le_refl _⟩, bl_ BK380, bl_ BK381, bl_ BK382, bl_ BK386, bl_ BK387, bw_ HB⟩
 case rest =>
  clear HC9
  try clear c1
  try clear c2
  try clear p2
  try clear c3
  try clear c4
  try clear p6
  try clear c9
  try clear c15
  try clear c16
  try clear c19
  try clear c20
  try clear c21
  try clear c25
  try clear c26
  try clear c27
  try clear c28
  try clear c32
  try clear c32b0
  try clear c33
  try clear c34
  try clear c35
  try clear c36
  try clear c38
  try clear c39
  try clear c40
  try clear hcz17_0 hcz17_1 hcz17_2 hcz17_3
  try clear hcz22_0 hcz22_1
  try clear hcz23_0 hcz23_1 hcz23_2 hcz23_3
  try clear hcz29_0 hcz29_1
  try clear hcz37_0 hcz37_1
  try clear hcz41_0 hcz41_1
  try clear hfz17_0 hfz17_1 hfz17_2 hfz17_3
  try clear hfz22_0 hfz22_1
  try clear hfz23_0 hfz23_1 hfz23_2 hfz23_3
  try clear hfz29_0 hfz29_1
  try clear hfz37_0 hfz37_1
  try clear hfz41_0 hfz41_1
  obtain ⟨kq, x388000_8, x388001_8, HA, HJ8, BK380, BK381, BK382, BK386, BK387, HB⟩ := hcut
  cases kq with
  | zero => exact absurd HA.out (by simp [impl_moveBall.j0])
  | succ kj8 =>
   have H := HA.out
   clear HA
   simp only [impl_moveBall.j0] at H
   replace H := ob_ H
   obtain ⟨t390, A420, H⟩ := H
   have A42 := Aside0.mk A420
   clear A420
   replace H := ob_ H
   obtain ⟨t391, A430, H⟩ := H
   have A43 := Aside0.mk A430
   clear A430
   replace H := ob_ H
   obtain ⟨t392, A440, H⟩ := H
   have A44 := Aside0.mk A440
   clear A440
   replace H := ob_ H
   obtain ⟨⟨t393, t394, t395, t396⟩, A450, H⟩ := H
   have A45 := Aside0.mk A450
   clear A450
   simp only [Option.some.injEq, Prod.mk.injEq] at H
   obtain ⟨rfl, rfl, rfl, rfl⟩ := H
   try go_wp2
   replace BK380 := Aside0.mk (blk_drew BK380.out)
   replace BK381 := Aside0.mk (blk_drew BK381.out)
   replace BK382 := Aside0.mk (blk_drew BK382.out)
   replace BK386 := Aside0.mk (blk_drew BK386.out)
   replace BK387 := Aside0.mk (blk_drew BK387.out)
   replace HB := Aside0.mk (below_drew1 HB.out)
   refine start_ (n := 15) (S := fun w' => w'.cell? ⟨gb380, 0, none⟩ = some (.int .i64 a1_0) ∧ w'.cell? ⟨gb380, 1, none⟩ = some (.int .i64 a1_1) ∧ w'.cell? ⟨gb380, 2, none⟩ = some (.int .i64 a1_2) ∧ w'.cell? ⟨gb380, 3, none⟩ = some (.int .i64 a1_3) ∧ w'.cell? ⟨gb381, 0, none⟩ = some (.int .i64 a2_0) ∧ w'.cell? ⟨gb381, 1, none⟩ = some (.int .i64 a2_1) ∧ w'.cell? ⟨gb381, 2, none⟩ = some (.int .i64 a2_2) ∧ w'.cell? ⟨gb387, 0, none⟩ = some (.int .i64 x388000_8) ∧ w'.cell? ⟨gb387, 1, none⟩ = some (.int .i64 x388001_8)) (ds := []) (bv_ 15 0) (by kernel_rfl) rfl rfl ⟨cz_ BK380 0, cz_ BK380 1, cz_ BK380 2, cz_ BK380 3, cz_ BK381 0, cz_ BK381 1, cz_ BK381 2, cz_ BK387 0, cz_ BK387 1⟩ (fun hHeld => ?_); refine with_tabW impl_moveBall.tab6 impl_moveBall.bits6 (fun HT_ HW_ => ?_)
   generalize wc.drew = w46 at BK380 BK381 BK382 BK386 BK387 HB hHeld ⊢
   refine px_ HT_ 0 68 1 ?_
   refine px_ HT_ 4 72 17 ?_
   refine px_ HT_ 8 76 273 ?_
   refine px_ HT_ 9 77 785 ?_
   refine ta_ HT_ HW_ 1 (some 69) (bv_ 15 787) hHeld ?_ (hy := by rintro w' ⟨s0, s1, s2, s3, s4, s5, s6, s7, s8⟩; go_simp; with_reducible rfl)
   refine ta_ HT_ HW_ 5 (some 73) (bv_ 15 819) hHeld ?_ (hy := by rintro w' ⟨s0, s1, s2, s3, s4, s5, s6, s7, s8⟩; go_simp; with_reducible rfl)
   refine ta_ HT_ HW_ 10 (some 78) (bv_ 15 1843) hHeld ?_ (hy := by rintro w' ⟨s0, s1, s2, s3, s4, s5, s6, s7, s8⟩; go_simp; with_reducible rfl)
   refine on_ HT_ 2 (some 70) (bv_ 15 1847) (fun K hK => ?_)
   refine gs_ Try.func103 #[.agg #[.int .i64 a1_0, .int .i64 a1_1, .int .i64 a1_2, .int .i64 a1_3]] ?_
   with_reducible refine (impl_determinant.calls a1_0 a1_1 a1_2 a1_3 t390 _ A42.out).mono ?_
   rintro e w47 ⟨rfl, hb⟩
   refine ⟨_, rfl, ?_⟩
   replace BK380 := bb_ BK380 hb
   replace BK381 := bb_ BK381 hb
   replace BK382 := bb_ BK382 hb
   replace BK386 := bb_ BK386 hb
   replace BK387 := bb_ BK387 hb
   replace HB := bt_ HB hb
   (try clear hb)
   (try clear hb2)
   (try clear hk)
   (try clear hi)
   refine hK.out _ _ ⟨cz_ BK380 0, cz_ BK380 1, cz_ BK380 2, cz_ BK380 3, cz_ BK381 0, cz_ BK381 1, cz_ BK381 2, cz_ BK387 0, cz_ BK387 1⟩ (fun hHeld => ?_)
   clear hK K
   refine nm_ (some 70) ?_
   refine on_ HT_ 3 (some 71) (bv_ 15 1855) (fun K hK => ?_)
   refine gs_ Try.func164 #[.int .i64 a0, .int .i64 t390] ?_
   with_reducible refine (impl_valuation.calls kj8 a0 t390 t391 _ A43.out).mono ?_
   rintro e w' ⟨rfl, ⟨nd, rfl⟩⟩
   refine ⟨_, rfl, ?_⟩
   refine hK.out _ _ ⟨cz_ BK380 0, cz_ BK380 1, cz_ BK380 2, cz_ BK380 3, cz_ BK381 0, cz_ BK381 1, cz_ BK381 2, cz_ BK387 0, cz_ BK387 1⟩ (fun hHeld => ?_)
   clear hK K
   refine nm_ (some 71) ?_
   refine px_ HT_ 6 74 1919 ?_
   refine px_ HT_ 7 75 2047 ?_
   refine on_ HT_ 11 (some 79) (bv_ 15 4095) (fun K hK => ?_)
   refine gs_ Try.func164 #[.int .i64 a0, .int .i64 x388001_8] ?_
   with_reducible refine (impl_valuation.calls kj8 a0 x388001_8 t392 _ A44.out).mono ?_
   rintro e w' ⟨rfl, ⟨nd, rfl⟩⟩
   refine ⟨_, rfl, ?_⟩
   refine hK.out _ _ ⟨cz_ BK380 0, cz_ BK380 1, cz_ BK380 2, cz_ BK380 3, cz_ BK381 0, cz_ BK381 1, cz_ BK381 2, cz_ BK387 0, cz_ BK387 1⟩ (fun hHeld => ?_)
   clear hK K
   refine nm_ (some 79) ?_
   refine px_ HT_ 12 80 8191 ?_
   refine px_ HT_ 13 81 16383 ?_
   refine px_ HT_ 14 13 32767 ?_
   refine done_ (done_of HT_.out (by kernel_rfl)) ?_
   have hnb48 := NB387_380.out
   have hnc48 := NB380_387.out
   have hnb49 := NB387_381.out
   have hnc49 := NB381_387.out
   have hnb50 := NB387_382.out
   have hnc50 := NB382_387.out
   have hnb51 := NB387_386.out
   have hnc51 := NB386_387.out
   obtain ⟨hcz52_0, hcz52_1, hfz52_0, hfz52_1⟩ := ch2_ BK387
   try go_wp2_with (first | ((refine gc_ 165 ?_); refine ge_ 88 Try.func165 #[.int .i64 a0, .int .i64 x388000_8, .int .i64 x388001_8, .int .i64 (wrap64 ((wrap64 ((wrap64 (t391 + a2_0)) + 12)) - (wrap64 (2 * t392))))] ?_; (with_reducible refine (impl_ballAt.calls kj8 a0 x388000_8 x388001_8 (wrap64 ((wrap64 ((wrap64 (t391 + a2_0)) + 12)) - (wrap64 (2 * t392)))) t393 t394 t395 t396 _ A45.out).mono ?_); rintro e w53 ⟨rfl, hb⟩; refine ⟨_, rfl, ?_⟩; replace BK380 := bb_ BK380 hb; replace BK381 := bb_ BK381 hb; replace BK382 := bb_ BK382 hb; replace BK386 := bb_ BK386 hb; replace BK387 := bb_ BK387 hb; replace HB := bt_ HB hb; (try clear hb); have hnb54 := NB382_380.out; have hnc54 := NB380_382.out; have hnb55 := NB382_381.out; have hnc55 := NB381_382.out; have hnb56 := NB382_386.out; have hnc56 := NB386_382.out; obtain ⟨hcz57_0, hcz57_1, hcz57_2, hfz57_0, hfz57_1, hfz57_2⟩ := ch3_ BK382))
   refine bodyPost_ret (results_ct rfl _ _ gb382 25 #[.int .i64 t393, .int .i64 t394, .int .i64 t395] (0, 0) _ rfl (bp_ BK382).out Try.underlying25 rfl (by kernel_rfl)) rfl ?_
   exact ⟨es_, (bw_ HB).out⟩
/-! ### impl_MoveBall: function 24 -/
def impl_MoveBall.j0 : Nat → Int → Bool → Int → Int → Int → Int → Int → Int → Int → Option (Int × Int × Int × Int)
 | 0, _, _, _, _, _, _, _, _, _ => none
 | k + 1, x0, x16, x398000, x398001, x398002, x398003, x399000, x399001, x399002 => if x16 = true then (some (0, 0, 0, 1)) else ((impl_moveBall.f k x0 x398000 x398001 x398002 x398003 x399000 x399001 x399002).bind fun bt402 => ((impl_fitted.f bt402.1 bt402.2.1 bt402.2.2.1 bt402.2.2.2).bind fun bt406 => (some (bt406.1, bt406.2.1, bt406.2.2.1, bt406.2.2.2))))
def impl_MoveBall.f (k : Nat) (a0 : Int) (a1_0 : Int) (a1_1 : Int) (a1_2 : Int) (a1_3 : Int) (a2_0 : Int) (a2_1 : Int) (a2_2 : Int) : Option (Int × Int × Int × Int) := (impl_IsBall.f k a0 a2_0 a2_1 a2_2).bind fun t400 => (if t400 = true then ((impl_IsMatrix.f k a1_0 a1_1 a1_2 a1_3).bind fun t401 => (impl_MoveBall.j0 k a0 (!t401) a1_0 a1_1 a1_2 a1_3 a2_0 a2_1 a2_2)) else (impl_MoveBall.j0 k a0 true a1_0 a1_1 a1_2 a1_3 a2_0 a2_1 a2_2))
theorem impl_MoveBall.calls (k : Nat) (a0 : Int) (a1_0 : Int) (a1_1 : Int) (a1_2 : Int) (a1_3 : Int) (a2_0 : Int) (a2_1 : Int) (a2_2 : Int) (r1 : Int) (r2 : Int) (r3 : Int) (r4 : Int) (w : World) (h : impl_MoveBall.f k a0 a1_0 a1_1 a1_2 a1_3 a2_0 a2_1 a2_2 = some (r1, r2, r3, r4)) :
  Calls Try.prog 24 #[.int .i64 a0, .agg #[.int .i64 a1_0, .int .i64 a1_1, .int .i64 a1_2, .int .i64 a1_3], .agg #[.int .i64 a2_0, .int .i64 a2_1, .int .i64 a2_2]] w fun e w' => e = .returned (.tuple #[.agg #[.int .i64 r1, .int .i64 r2, .int .i64 r3], .int .i64 r4]) ∧ Below w.heap.size w w' := by
 have hu46 := Try.underlying46
 have hu25 := Try.underlying25
 have HB := Aside0.mk (Below.refl w.heap.size w)
 have H : ((impl_IsBall.f k a0 a2_0 a2_1 a2_2).bind fun t400 => (if t400 = true then ((impl_IsMatrix.f k a1_0 a1_1 a1_2 a1_3).bind fun t401 => (impl_MoveBall.j0 k a0 (!t401) a1_0 a1_1 a1_2 a1_3 a2_0 a2_1 a2_2)) else (impl_MoveBall.j0 k a0 true a1_0 a1_1 a1_2 a1_3 a2_0 a2_1 a2_2))) = some (r1, r2, r3, r4) := h
 clear h
 have HC4 := Aside0.mk H
 clear H
 go_enter Try.func24, Try.ntmps24
 go_upto_region 1 with (first | ((refine gd_ 4 ?_); refine bx_ 4 #[.int .i64 a1_0, .int .i64 a1_1, .int .i64 a1_2, .int .i64 a1_3] 46 ?_; intro gb397 hg w5 BK397 hb; have GW397 := bs_ HB hg; have GE397 := bs_ HB hg; replace HB := bt_ HB hb; clear hb hg) | ((refine gd_ 5 ?_); refine bx_ 5 #[.int .i64 a2_0, .int .i64 a2_1, .int .i64 a2_2] 25 ?_; intro gb398 hg w6 BK398 hb; have GW398 := bs_ HB hg; have GE398 := bs_ HB hg; have NB397_398 := bm_ BK397 hg; have NB398_397 := bn_ BK397 hg; replace BK397 := bb_ BK397 hb; replace HB := bt_ HB hb; clear hb hg) | ((refine gd_ 6 ?_); refine bx_ 6 #[.int .i64 0, .int .i64 0, .int .i64 0] 25 ?_; intro gb399 hg w7 BK399 hb; have GW399 := bs_ HB hg; have GE399 := bs_ HB hg; have NB397_399 := bm_ BK397 hg; have NB399_397 := bn_ BK397 hg; have NB398_399 := bm_ BK398 hg; have NB399_398 := bn_ BK398 hg; replace BK397 := bb_ BK397 hb; replace BK398 := bb_ BK398 hb; replace HB := bt_ HB hb; clear hb hg))
 (try simp only [Act.put, lstS, lstZ, lstC])
 go_cut [16] (fun v16 wc => ∃ (kq : Nat) (x16_3 : Bool), v16 = .bool x16_3 ∧ Aside0 (impl_MoveBall.j0 kq a0 x16_3 a1_0 a1_1 a1_2 a1_3 a2_0 a2_1 a2_2 = some (r1, r2, r3, r4)) ∧ Aside0 (kq ≤ k) ∧ Aside0 (wc.heap[gb397]? = some (.cells #[.int .i64 a1_0, .int .i64 a1_1, .int .i64 a1_2, .int .i64 a1_3] 46 (0, 0))) ∧ Aside0 (wc.heap[gb398]? = some (.cells #[.int .i64 a2_0, .int .i64 a2_1, .int .i64 a2_2] 25 (0, 0))) ∧ Aside0 (wc.heap[gb399]? = some (.cells #[.int .i64 0, .int .i64 0, .int .i64 0] 25 (0, 0))) ∧ Aside0 (Below w.heap.size w wc))
 case first =>
  have H := HC4.out
  clear HC4
  replace H := ob_ H
  obtain ⟨t400, A80, H⟩ := H
  have A8 := Aside0.mk A80
  clear A80
  by_cases c9 : t400 = true
  ·subst c9
   have H1 : ((impl_IsMatrix.f k a1_0 a1_1 a1_2 a1_3).bind fun t401 => (impl_MoveBall.j0 k a0 (!t401) a1_0 a1_1 a1_2 a1_3 a2_0 a2_1 a2_2)) = some (r1, r2, r3, r4) := by rw [if_pos rfl] at H; exact H
   clear H
   have H := H1
   clear H1
   replace H := ob_ H
   obtain ⟨t401, A100, H⟩ := H
   have A10 := Aside0.mk A100
   clear A100
   have H' := Aside0.mk H
   clear H
   have hnb11 := NB398_397.out
   have hnc11 := NB397_398.out
   have hnb12 := NB398_399.out
   have hnc12 := NB399_398.out
   obtain ⟨hcz13_0, hcz13_1, hcz13_2, hfz13_0, hfz13_1, hfz13_2⟩ := ch3_ BK398
   go_wp2_with (first | ((refine gc_ 94 ?_); refine ge_ 10 Try.func94 #[.int .i64 a0, .agg #[.int .i64 a2_0, .int .i64 a2_1, .int .i64 a2_2]] ?_; (with_reducible refine (impl_IsBall.calls k a0 a2_0 a2_1 a2_2 true _ A8.out).mono ?_); rintro e w14 ⟨rfl, hb⟩; refine ⟨_, rfl, ?_⟩; replace BK397 := bb_ BK397 hb; replace BK398 := bb_ BK398 hb; replace BK399 := bb_ BK399 hb; replace HB := bt_ HB hb; (try clear hb); have hnb15 := NB397_399.out; have hnc15 := NB399_397.out; obtain ⟨hcz16_0, hcz16_1, hcz16_2, hcz16_3, hfz16_0, hfz16_1, hfz16_2, hfz16_3⟩ := ch4_ BK397) | (go_at_call 29; (with_reducible refine (impl_IsMatrix.calls k a1_0 a1_1 a1_2 a1_3 t401 _ A10.out).mono ?_); rintro e w17 ⟨rfl, hb⟩; replace BK397 := bb_ BK397 hb; replace BK398 := bb_ BK398 hb; replace BK399 := bb_ BK399 hb; replace HB := bt_ HB hb; (try clear hb)))
   go_meet
   case rel => exact ⟨_, (!t401), en_, H', ⟨by first | omega | exact Nat.le_refl _⟩, bl_ BK397, bl_ BK398, bl_ BK399, bw_ HB⟩
  ·replace c9 := Bool.eq_false_iff.mpr c9
   subst c9
   have H1 : (impl_MoveBall.j0 k a0 true a1_0 a1_1 a1_2 a1_3 a2_0 a2_1 a2_2) = some (r1, r2, r3, r4) := by rw [if_neg (show ¬ (false = true) by decide)] at H; exact H
   clear H
   have H := H1
   clear H1
   have H' := Aside0.mk H
   clear H
   have hnb18 := NB398_397.out
   have hnc18 := NB397_398.out
   have hnb19 := NB398_399.out
   have hnc19 := NB399_398.out
   obtain ⟨hcz20_0, hcz20_1, hcz20_2, hfz20_0, hfz20_1, hfz20_2⟩ := ch3_ BK398
   go_wp2_with (first | ((refine gc_ 94 ?_); refine ge_ 10 Try.func94 #[.int .i64 a0, .agg #[.int .i64 a2_0, .int .i64 a2_1, .int .i64 a2_2]] ?_; (with_reducible refine (impl_IsBall.calls k a0 a2_0 a2_1 a2_2 false _ A8.out).mono ?_); rintro e w21 ⟨rfl, hb⟩; refine ⟨_, rfl, ?_⟩; replace BK397 := bb_ BK397 hb; replace BK398 := bb_ BK398 hb; replace BK399 := bb_ BK399 hb; replace HB := bt_ HB hb; (try clear hb)))
   go_meet
   case rel => exact ⟨_, (true), en_, H', ⟨by first | omega | exact Nat.le_refl _⟩, bl_ BK397, bl_ BK398, bl_ BK399, bw_ HB⟩
 case rest =>
  clear HC4
  try clear c1
  try clear c2
  try clear p2
  try clear c9
  try clear c11
  try clear c12
  try clear c15
  try clear c18
  try clear c19
  try clear hcz13_0 hcz13_1 hcz13_2
  try clear hcz16_0 hcz16_1 hcz16_2 hcz16_3
  try clear hcz20_0 hcz20_1 hcz20_2
  try clear hfz13_0 hfz13_1 hfz13_2
  try clear hfz16_0 hfz16_1 hfz16_2 hfz16_3
  try clear hfz20_0 hfz20_1 hfz20_2
  obtain ⟨kq, x16_3, rfl, HA, HJ3, BK397, BK398, BK399, HB⟩ := hcut
  cases kq with
  | zero => exact absurd HA.out (by simp [impl_MoveBall.j0])
  | succ kj3 =>
   have H := HA.out
   clear HA
   simp only [impl_MoveBall.j0] at H
   by_cases c22 : x16_3 = true
   ·subst c22
    have H1 : (some (0, 0, 0, 1)) = some (r1, r2, r3, r4) := by rw [if_pos rfl] at H; exact H
    clear H
    have H := H1
    clear H1
    simp only [Option.some.injEq, Prod.mk.injEq] at H
    obtain ⟨rfl, rfl, rfl, rfl⟩ := H
    have hnb23 := NB399_397.out
    have hnc23 := NB397_399.out
    have hnb24 := NB399_398.out
    have hnc24 := NB398_399.out
    obtain ⟨hcz25_0, hcz25_1, hcz25_2, hfz25_0, hfz25_1, hfz25_2⟩ := ch3_ BK399
    go_wp2
    refine bodyPost_ret (results_ct rfl _ _ gb399 25 #[.int .i64 0, .int .i64 0, .int .i64 0] (0, 0) _ rfl (bp_ BK399).out Try.underlying25 rfl (by kernel_rfl)) rfl ?_
    exact ⟨es_, (bw_ HB).out⟩
   ·replace c22 := Bool.eq_false_iff.mpr c22
    subst c22
    have H1 : ((impl_moveBall.f kj3 a0 a1_0 a1_1 a1_2 a1_3 a2_0 a2_1 a2_2).bind fun bt402 => ((impl_fitted.f bt402.1 bt402.2.1 bt402.2.2.1 bt402.2.2.2).bind fun bt406 => (some (bt406.1, bt406.2.1, bt406.2.2.1, bt406.2.2.2)))) = some (r1, r2, r3, r4) := by rw [if_neg (show ¬ (false = true) by decide)] at H; exact H
    clear H
    have H := H1
    clear H1
    replace H := ob_ H
    obtain ⟨⟨t402, t403, t404, t405⟩, A260, H⟩ := H
    have A26 := Aside0.mk A260
    clear A260
    replace H := ob_ H
    obtain ⟨⟨t406, t407, t408, t409⟩, A270, H⟩ := H
    have A27 := Aside0.mk A270
    clear A270
    simp only [Option.some.injEq, Prod.mk.injEq] at H
    obtain ⟨rfl, rfl, rfl, rfl⟩ := H
    have hnb28 := NB397_398.out
    have hnc28 := NB398_397.out
    have hnb29 := NB397_399.out
    have hnc29 := NB399_397.out
    obtain ⟨hcz30_0, hcz30_1, hcz30_2, hcz30_3, hfz30_0, hfz30_1, hfz30_2, hfz30_3⟩ := ch4_ BK397
    have hnb31 := NB398_399.out
    have hnc31 := NB399_398.out
    obtain ⟨hcz32_0, hcz32_1, hcz32_2, hfz32_0, hfz32_1, hfz32_2⟩ := ch3_ BK398
    go_wp2_with (first | ((refine gc_ 96 ?_); refine ge_ 21 Try.func96 #[.int .i64 a0, .agg #[.int .i64 a1_0, .int .i64 a1_1, .int .i64 a1_2, .int .i64 a1_3], .agg #[.int .i64 a2_0, .int .i64 a2_1, .int .i64 a2_2]] ?_; (with_reducible refine (impl_moveBall.calls kj3 a0 a1_0 a1_1 a1_2 a1_3 a2_0 a2_1 a2_2 t402 t403 t404 t405 _ A26.out).mono ?_); rintro e w33 ⟨rfl, hb⟩; refine ⟨_, rfl, ?_⟩; replace BK397 := bb_ BK397 hb; replace BK398 := bb_ BK398 hb; replace BK399 := bb_ BK399 hb; replace HB := bt_ HB hb; (try clear hb)) | ((refine gc_ 95 ?_); refine ge_ 24 Try.func95 #[.agg #[.int .i64 t402, .int .i64 t403, .int .i64 t404], .bool t405] ?_; (with_reducible refine (impl_fitted.calls t402 t403 t404 t405 t406 t407 t408 t409 _ A27.out).mono ?_); rintro e w34 ⟨rfl, hb⟩; refine ⟨_, rfl, ?_⟩; replace BK397 := bb_ BK397 hb; replace BK398 := bb_ BK398 hb; replace BK399 := bb_ BK399 hb; replace HB := bt_ HB hb; (try clear hb); obtain ⟨hcz35_0, hcz35_1, hcz35_2, hfz35_0, hfz35_1, hfz35_2⟩ := ch3_ BK399))
    refine bodyPost_ret (results_ct rfl _ _ gb399 25 #[.int .i64 t406, .int .i64 t407, .int .i64 t408] (0, 0) _ rfl (bp_ BK399).out Try.underlying25 rfl (by kernel_rfl)) rfl ?_
    exact ⟨es_, (bw_ HB).out⟩
/-! ### impl_reduce: function 105 -/
def impl_reduce.f (k : Nat) (a0_0 : Int) (a0_1 : Int) (a0_2 : Int) (a0_3 : Int) : Option (Int × Int × Int × Int) := (impl_reduced.f k a0_0 a0_1 a0_2 a0_3).bind fun bt412 => (some (bt412.1, bt412.2.1, bt412.2.2.1, bt412.2.2.2.1))
theorem impl_reduce.calls (k : Nat) (a0_0 : Int) (a0_1 : Int) (a0_2 : Int) (a0_3 : Int) (r1 : Int) (r2 : Int) (r3 : Int) (r4 : Int) (w : World) (h : impl_reduce.f k a0_0 a0_1 a0_2 a0_3 = some (r1, r2, r3, r4)) :
  Calls Try.prog 105 #[.agg #[.int .i64 a0_0, .int .i64 a0_1, .int .i64 a0_2, .int .i64 a0_3]] w fun e w' => e = .returned (.agg #[.int .i64 r1, .int .i64 r2, .int .i64 r3, .int .i64 r4]) ∧ Below w.heap.size w w' := by
 have hu46 := Try.underlying46
 have HB := Aside0.mk (Below.refl w.heap.size w)
 have H : ((impl_reduced.f k a0_0 a0_1 a0_2 a0_3).bind fun bt412 => (some (bt412.1, bt412.2.1, bt412.2.2.1, bt412.2.2.2.1))) = some (r1, r2, r3, r4) := h
 clear h
 replace H := ob_ H
 obtain ⟨⟨t412, t413, t414, t415, t416⟩, A20, H⟩ := H
 have A2 := Aside0.mk A20
 clear A20
 simp only [Option.some.injEq, Prod.mk.injEq] at H
 obtain ⟨rfl, rfl, rfl, rfl⟩ := H
 go_enter Try.func105, Try.ntmps105
 go_wp2_with (first | ((refine gd_ 1 ?_); refine bx_ 1 #[.int .i64 a0_0, .int .i64 a0_1, .int .i64 a0_2, .int .i64 a0_3] 46 ?_; intro gb410 hg w3 BK410 hb; have GW410 := bs_ HB hg; have GE410 := bs_ HB hg; replace HB := bt_ HB hb; clear hb hg) | ((refine gd_ 2 ?_); refine bx_ 2 #[.int .i64 0, .int .i64 0, .int .i64 0, .int .i64 0] 46 ?_; intro gb411 hg w4 BK411 hb; have GW411 := bs_ HB hg; have GE411 := bs_ HB hg; have NB410_411 := bm_ BK410 hg; have NB411_410 := bn_ BK410 hg; replace BK410 := bb_ BK410 hb; replace HB := bt_ HB hb; clear hb hg; have hnb5 := NB410_411.out; have hnc5 := NB411_410.out; obtain ⟨hcz6_0, hcz6_1, hcz6_2, hcz6_3, hfz6_0, hfz6_1, hfz6_2, hfz6_3⟩ := ch4_ BK410) | ((refine gc_ 160 ?_); refine ge_ 7 Try.func160 #[.agg #[.int .i64 a0_0, .int .i64 a0_1, .int .i64 a0_2, .int .i64 a0_3]] ?_; (with_reducible refine (impl_reduced.calls k a0_0 a0_1 a0_2 a0_3 t412 t413 t414 t415 t416 _ A2.out).mono ?_); rintro e w7 ⟨rfl, hb⟩; refine ⟨_, rfl, ?_⟩; replace BK410 := bb_ BK410 hb; replace BK411 := bb_ BK411 hb; replace HB := bt_ HB hb; (try clear hb)) | ((refine gd_ 3 ?_); refine bx_ 3 #[.int .i64 0, .int .i64 0, .int .i64 0, .int .i64 0] 46 ?_; intro gb417 hg w8 BK417 hb; have GW417 := bs_ HB hg; have GE417 := bs_ HB hg; have NB410_417 := bm_ BK410 hg; have NB417_410 := bn_ BK410 hg; have NB411_417 := bm_ BK411 hg; have NB417_411 := bn_ BK411 hg; replace BK410 := bb_ BK410 hb; replace BK411 := bb_ BK411 hb; replace HB := bt_ HB hb; clear hb hg; have hnb9 := NB417_410.out; have hnc9 := NB410_417.out; have hnb10 := NB417_411.out; have hnc10 := NB411_417.out; obtain ⟨hcz11_0, hcz11_1, hcz11_2, hcz11_3, hfz11_0, hfz11_1, hfz11_2, hfz11_3⟩ := ch4_ BK417; obtain ⟨hcz12_0, hcz12_1, hcz12_2, hcz12_3, hfz12_0, hfz12_1, hfz12_2, hfz12_3⟩ := ch4_ BK411))
 refine bodyPost_ret (results_cell_row rfl _ _ gb411 46 #[.int .i64 t412, .int .i64 t413, .int .i64 t414, .int .i64 t415] (0, 0) _ rfl (bp_ BK411).out Try.underlying46 rfl (by kernel_rfl)) rfl ?_
 exact ⟨es_, (bw_ HB).out⟩
end Go.Proofs.Ytgoeelhiffbjlaa.QT
