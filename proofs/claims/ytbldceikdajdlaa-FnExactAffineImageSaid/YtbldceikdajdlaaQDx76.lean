import Derived.Test.YtbldceikdajdlaaQDx4
import Derived.Test.YtbldceikdajdlaaQDx60
import Derived.Test.YtbldceikdajdlaaQDx70
import Derived.Test.YtbldceikdajdlaaQDx75
namespace Go.Proofs.Ytbldceikdajdlaa.QD
open Go.RowKit Go.Proofs.YtbldceikdajdlaaW.PrintWords Go.Proofs.YtbldceikdajdlaaW.PrintLast Go.Proofs.YtbldceikdajdlaaW.PrintMore
attribute [local go_sem] isSome_setCell max2_int min2_int max_two min_two max_three min_three max_four min_four
set_option linter.unusedVariables false
set_option linter.unusedSimpArgs false

/-! ### impl_moveBall: function 55 -/
def impl_moveBall.j0 : Nat → Int → Int → Int → Int → Int → Int → Int → Int → Int → Int → Option (Int × Int × Int × Bool)
 | 0, _, _, _, _, _, _, _, _, _, _ => none
 | k + 1, x0, x399000, x399001, x399002, x399003, x400000, x400001, x400002, x406000, x406001 => (impl_determinant.f x399000 x399001 x399002 x399003).bind fun t408 => ((impl_valuation.f k x0 t408).bind fun t409 => ((impl_valuation.f k x0 x406001).bind fun t410 => ((impl_ballAt.f k x0 x406000 x406001 (wrap64 ((wrap64 ((wrap64 (t409 + x400000)) + 12)) - (wrap64 (2 * t410))))).bind fun bt411 => (some (bt411.1, bt411.2.1, bt411.2.2.1, bt411.2.2.2)))))
def impl_moveBall.f (k : Nat) (a0 : Int) (a1_0 : Int) (a1_1 : Int) (a1_2 : Int) (a1_3 : Int) (a2_0 : Int) (a2_1 : Int) (a2_2 : Int) : Option (Int × Int × Int × Bool) := (impl_mark.f k a0 a2_0 a2_1 a2_2).bind fun t401 => ((impl_power.f k a0 6).bind fun t402 => ((impl_power.f k a0 (wrap64 (a2_0 + 6))).bind fun t403 => ((impl_valuation.f k a0 (wrap64 ((wrap64 (a1_2 * t401)) + (wrap64 (a1_3 * t402))))).bind fun t406 => ((impl_valuation.f k a0 (wrap64 (a1_2 * t403))).bind fun t407 => (if t406 > t407 then (impl_moveBall.j0 k a0 a1_0 a1_1 a1_2 a1_3 a2_0 a2_1 a2_2 (wrap64 (a1_0 * t403)) (wrap64 (a1_2 * t403))) else (impl_moveBall.j0 k a0 a1_0 a1_1 a1_2 a1_3 a2_0 a2_1 a2_2 (wrap64 ((wrap64 (a1_0 * t401)) + (wrap64 (a1_1 * t402)))) (wrap64 ((wrap64 (a1_2 * t401)) + (wrap64 (a1_3 * t402))))))))))
def impl_moveBall.T1 : Bool × List (List Nat × List Nat) := (true, [([], []), ([], []), ([0, 1], [0, 1]), ([], []), ([3, 2], [3]), ([], []), ([], []), ([6], [6]), ([7], [7]), ([5, 8, 4], [5, 8]), ([2, 9, 0, 1, 2], [2]), ([4, 10, 0, 1, 2, 3, 4, 10], [4]), ([9, 11, 0, 1, 2, 3, 4, 5, 6, 7, 8, 9, 10, 11], [9])])
def impl_moveBall.B1 : List Nat := [0, 0, 3, 0, 15, 0, 0, 64, 192, 511, 1023, 2047, 4095]
theorem impl_moveBall.tab1 : rtab .any (opsOf Try.f55 1) = impl_moveBall.T1 := by kernel_rfl
theorem impl_moveBall.bits1 : waitsOk impl_moveBall.T1.2 impl_moveBall.B1 = true := by kernel_rfl
def impl_moveBall.T4 : Bool × List (List Nat × List Nat) := (true, [([], []), ([], []), ([1], [1]), ([0, 2], [0, 2]), ([], []), ([], []), ([5], [5]), ([4, 6, 3], [4, 6]), ([3, 7], [3, 7])])
def impl_moveBall.B4 : List Nat := [0, 0, 2, 7, 0, 0, 32, 127, 255]
theorem impl_moveBall.tab4 : rtab .any (opsOf Try.f55 4) = impl_moveBall.T4 := by kernel_rfl
theorem impl_moveBall.bits4 : waitsOk impl_moveBall.T4.2 impl_moveBall.B4 = true := by kernel_rfl
def impl_moveBall.T6 : Bool × List (List Nat × List Nat) := (true, [([], []), ([], []), ([1], [1]), ([0, 2, 2], [0, 2]), ([], []), ([4], [4]), ([3, 5], [3, 5]), ([6], [6]), ([], []), ([], []), ([9], [9]), ([8, 10, 3], [8, 10]), ([11], [11]), ([7, 12], [7, 12]), ([13, 11, 0, 1, 2, 3, 4, 5, 6, 7, 8, 9, 10, 11, 12, 13], [13])])
def impl_moveBall.B6 : List Nat := [0, 0, 2, 7, 0, 16, 63, 127, 0, 0, 512, 1807, 3855, 8191, 16383]
theorem impl_moveBall.tab6 : rtab .any (opsOf Try.f55 6) = impl_moveBall.T6 := by kernel_rfl
theorem impl_moveBall.bits6 : waitsOk impl_moveBall.T6.2 impl_moveBall.B6 = true := by kernel_rfl
set_option maxHeartbeats 8000000 in
set_option maxRecDepth 100000 in
theorem impl_moveBall.calls (k : Nat) (a0 : Int) (a1_0 : Int) (a1_1 : Int) (a1_2 : Int) (a1_3 : Int) (a2_0 : Int) (a2_1 : Int) (a2_2 : Int) (r1 : Int) (r2 : Int) (r3 : Int) (r4 : Bool) (w : World) (h : impl_moveBall.f k a0 a1_0 a1_1 a1_2 a1_3 a2_0 a2_1 a2_2 = some (r1, r2, r3, r4)) :
  Calls Try.prog 55 #[.int .i64 a0, .agg #[.int .i64 a1_0, .int .i64 a1_1, .int .i64 a1_2, .int .i64 a1_3], .agg #[.int .i64 a2_0, .int .i64 a2_1, .int .i64 a2_2]] w fun e w' => e = .returned (.tuple #[.agg #[.int .i64 r1, .int .i64 r2, .int .i64 r3], .bool r4]) ∧ Below w.heap.size w w' := by
 have hu83 := Try.underlying83
 have hu25 := Try.underlying25
 have hu81 := Try.underlying81
 have HB := Aside0.mk (Below.refl w.heap.size w)
 have H : ((impl_mark.f k a0 a2_0 a2_1 a2_2).bind fun t401 => ((impl_power.f k a0 6).bind fun t402 => ((impl_power.f k a0 (wrap64 (a2_0 + 6))).bind fun t403 => ((impl_valuation.f k a0 (wrap64 ((wrap64 (a1_2 * t401)) + (wrap64 (a1_3 * t402))))).bind fun t406 => ((impl_valuation.f k a0 (wrap64 (a1_2 * t403))).bind fun t407 => (if t406 > t407 then (impl_moveBall.j0 k a0 a1_0 a1_1 a1_2 a1_3 a2_0 a2_1 a2_2 (wrap64 (a1_0 * t403)) (wrap64 (a1_2 * t403))) else (impl_moveBall.j0 k a0 a1_0 a1_1 a1_2 a1_3 a2_0 a2_1 a2_2 (wrap64 ((wrap64 (a1_0 * t401)) + (wrap64 (a1_1 * t402)))) (wrap64 ((wrap64 (a1_2 * t401)) + (wrap64 (a1_3 * t402))))))))))) = some (r1, r2, r3, r4) := h
 clear h
 replace H := ob_ H
 obtain ⟨t401, A40, H⟩ := H
 have A4 := Aside0.mk A40
 clear A40
 replace H := ob_ H
 obtain ⟨t402, A50, H⟩ := H
 have A5 := Aside0.mk A50
 clear A50
 replace H := ob_ H
 obtain ⟨t403, A60, H⟩ := H
 have A6 := Aside0.mk A60
 clear A60
 replace H := ob_ H
 obtain ⟨t406, A70, H⟩ := H
 have A7 := Aside0.mk A70
 clear A70
 replace H := ob_ H
 obtain ⟨t407, A80, H⟩ := H
 have A8 := Aside0.mk A80
 clear A80
 have HC9 := Aside0.mk H
 clear H
 go_enter Try.func55, Try.ntmps55
 try go_wp2_with (first | (refine bx_ 4 #[.int .i64 a1_0, .int .i64 a1_1, .int .i64 a1_2, .int .i64 a1_3] 83 ?_; intro gb398 hg w10 hbox hb; have BK398 := Aside0.mk (hbox); have GW398 := bs_ HB hg; have GE398 := bs_ HB hg; replace HB := bt_ HB hb; clear hb hbox hg) | (refine bx_ 5 #[.int .i64 a2_0, .int .i64 a2_1, .int .i64 a2_2] 25 ?_; intro gb399 hg w11 hbox hb; have BK399 := Aside0.mk (hbox); have GW399 := bs_ HB hg; have GE399 := bs_ HB hg; have NB398_399 := bm_ BK398 hg; have NB399_398 := bn_ BK398 hg; replace BK398 := bb_ BK398 hb; replace HB := bt_ HB hb; clear hb hbox hg) | (refine bx_ 6 #[.int .i64 0, .int .i64 0, .int .i64 0] 25 ?_; intro gb400 hg w12 hbox hb; have BK400 := Aside0.mk (hbox); have GW400 := bs_ HB hg; have GE400 := bs_ HB hg; have NB398_400 := bm_ BK398 hg; have NB400_398 := bn_ BK398 hg; have NB399_400 := bm_ BK399 hg; have NB400_399 := bn_ BK399 hg; replace BK398 := bb_ BK398 hb; replace BK399 := bb_ BK399 hb; replace HB := bt_ HB hb; clear hb hbox hg))
 replace BK398 := Aside0.mk (blk_drew BK398.out)
 replace BK399 := Aside0.mk (blk_drew BK399.out)
 replace BK400 := Aside0.mk (blk_drew BK400.out)
 replace HB := Aside0.mk (below_drew1 HB.out)
 refine start_ (n := 13) (S := fun w' => w'.cell? ⟨gb399, 0, none⟩ = some (.int .i64 a2_0) ∧ w'.cell? ⟨gb399, 1, none⟩ = some (.int .i64 a2_1) ∧ w'.cell? ⟨gb399, 2, none⟩ = some (.int .i64 a2_2)) (ds := []) (bv_ 13 0) (by kernel_rfl) rfl rfl ⟨cz_ BK399 0, cz_ BK399 1, cz_ BK399 2⟩ (fun hHeld => ?_); refine with_tabW impl_moveBall.tab1 impl_moveBall.bits1 (fun HT_ HW_ => ?_)
 generalize w12.drew = w13 at BK398 BK399 BK400 HB hHeld ⊢
 refine pu_ HT_ 0 (some 14) (bv_ 13 1) ?_
 refine pu_ HT_ 3 (some 17) (bv_ 13 9) ?_
 refine pu_ HT_ 5 (some 19) (bv_ 13 41) ?_
 refine pu_ HT_ 6 (some 20) (bv_ 13 105) ?_
 refine ta_ HT_ HW_ 1 (some 15) (bv_ 13 107) hHeld ?_ (hy := by rintro w' ⟨s0, s1, s2⟩; go_simp; with_reducible rfl)
 refine ta_ HT_ HW_ 7 (some 21) (bv_ 13 235) hHeld ?_ (hy := by rintro w' ⟨s0, s1, s2⟩; go_simp; with_reducible rfl)
 refine pu_ HT_ 8 (some 22) (bv_ 13 491) ?_
 refine one_ (i := 2) (N := some 16) (bv_ 13 495) rfl rfl (one_of HT_.out (by kernel_rfl)) (by decide) (fun K hK => ?_)
 refine goes_ Try.func65 (by kernel_rfl) rfl #[.int .i64 a0, .agg #[.int .i64 a2_0, .int .i64 a2_1, .int .i64 a2_2]] (by rfl) rfl rfl (by (try simp only [List.map_toArray, List.map_cons, List.map_nil]); first | done | rfl | (simp only [List.length_drop, List.length_take]; rfl)) ?_
 with_reducible refine (impl_mark.calls k a0 a2_0 a2_1 a2_2 t401 _ A4.out).mono ?_
 rintro e w14 ⟨rfl, hb⟩
 refine ⟨_, rfl, ?_⟩
 replace BK398 := bb_ BK398 hb
 replace BK399 := bb_ BK399 hb
 replace BK400 := bb_ BK400 hb
 replace HB := bt_ HB hb
 (try clear hb)
 (try clear hb2)
 (try clear hk)
 (try clear hi)
 refine hK.out _ _ ⟨cz_ BK399 0, cz_ BK399 1, cz_ BK399 2⟩ (fun hHeld => ?_)
 clear hK K
 refine norm_ (a' := ?_) ?_ ?_
 rotate_left
 ·show Act.put _ (some 16) _ = _
  simp only [Act.put, lstS, lstZ, lstC, i64_w, i32_w]
  rfl
 refine one_ (i := 4) (N := some 18) (bv_ 13 511) rfl rfl (one_of HT_.out (by kernel_rfl)) (by decide) (fun K hK => ?_)
 refine goes_ Try.func30 (by kernel_rfl) rfl #[.int .i64 a0, .int .i64 6] (by rfl) rfl rfl (by (try simp only [List.map_toArray, List.map_cons, List.map_nil]); first | done | rfl | (simp only [List.length_drop, List.length_take]; rfl)) ?_
 with_reducible refine (impl_power.calls k a0 6 t402 _ A5.out).mono ?_
 rintro e w' ⟨rfl, ⟨nd, rfl⟩⟩
 refine ⟨_, rfl, ?_⟩
 refine hK.out _ _ ⟨cz_ BK399 0, cz_ BK399 1, cz_ BK399 2⟩ (fun hHeld => ?_)
 clear hK K
 refine norm_ (a' := ?_) ?_ ?_
 rotate_left
 ·show Act.put _ (some 18) _ = _
  simp only [Act.put, lstS, lstZ, lstC, i64_w, i32_w]
  rfl
 refine one_ (i := 9) (N := some 23) (bv_ 13 1023) rfl rfl (one_of HT_.out (by kernel_rfl)) (by decide) (fun K hK => ?_)
 refine goes_ Try.func30 (by kernel_rfl) rfl #[.int .i64 a0, .int .i64 (wrap64 (a2_0 + 6))] (by rfl) rfl rfl (by (try simp only [List.map_toArray, List.map_cons, List.map_nil]); first | done | rfl | (simp only [List.length_drop, List.length_take]; rfl)) ?_
 with_reducible refine (impl_power.calls k a0 (wrap64 (a2_0 + 6)) t403 _ A6.out).mono ?_
 rintro e w' ⟨rfl, ⟨nd, rfl⟩⟩
 refine ⟨_, rfl, ?_⟩
 refine hK.out _ _ ⟨cz_ BK399 0, cz_ BK399 1, cz_ BK399 2⟩ (fun hHeld => ?_)
 clear hK K
 refine norm_ (a' := ?_) ?_ ?_
 rotate_left
 ·show Act.put _ (some 23) _ = _
  simp only [Act.put, lstS, lstZ, lstC, i64_w, i32_w]
  rfl
 refine pu_ HT_ 10 (some 8) (bv_ 13 2047) ?_
 refine pu_ HT_ 11 (some 9) (bv_ 13 4095) ?_
 refine pu_ HT_ 12 (some 10) (bv_ 13 8191) ?_
 refine done_ (done_of HT_.out (by kernel_rfl)) ?_
 have hnb15 := NB398_399.out
 have hnc15 := NB399_398.out
 have hnb16 := NB398_400.out
 have hnc16 := NB400_398.out
 obtain ⟨hcz17_0, hcz17_1, hcz17_2, hcz17_3, hfz17_0, hfz17_1, hfz17_2, hfz17_3⟩ := ch4_ BK398
 try go_wp2_with (first | (refine bx_ 11 #[.int .i64 0, .int .i64 0] 81 ?_; intro gb404 hg w18 hbox hb; have BK404 := Aside0.mk (hbox); have GW404 := bs_ HB hg; have GE404 := bs_ HB hg; have NB398_404 := bm_ BK398 hg; have NB404_398 := bn_ BK398 hg; have NB399_404 := bm_ BK399 hg; have NB404_399 := bn_ BK399 hg; have NB400_404 := bm_ BK400 hg; have NB404_400 := bn_ BK400 hg; replace BK398 := bb_ BK398 hb; replace BK399 := bb_ BK399 hb; replace BK400 := bb_ BK400 hb; replace HB := bt_ HB hb; clear hb hbox hg; have hnb19 := NB404_398.out; have hnc19 := NB398_404.out; have hnb20 := NB404_399.out; have hnc20 := NB399_404.out; have hnb21 := NB404_400.out; have hnc21 := NB400_404.out; obtain ⟨hcz22_0, hcz22_1, hfz22_0, hfz22_1⟩ := ch2_ BK404; obtain ⟨hcz23_0, hcz23_1, hcz23_2, hcz23_3, hfz23_0, hfz23_1, hfz23_2, hfz23_3⟩ := ch4_ BK398) | (refine bx_ 12 #[.int .i64 0, .int .i64 0] 81 ?_; intro gb405 hg w24 hbox hb; have BK405 := Aside0.mk (hbox); have GW405 := bs_ HB hg; have GE405 := bs_ HB hg; have NB398_405 := Aside0.mk ((by rw [hg]; exact Nat.ne_of_lt (blk_lt (g := gb398) (o := .cells #[.int .i64 a1_0, .int .i64 a1_1, .int .i64 a1_2, .int .i64 a1_3] 83 (0, 0)) (fl_ BK398 NB398_404).out) : gb398 ≠ gb405)); have NB405_398 := Aside0.mk ((by rw [hg]; exact Nat.ne_of_gt (blk_lt (g := gb398) (o := .cells #[.int .i64 a1_0, .int .i64 a1_1, .int .i64 a1_2, .int .i64 a1_3] 83 (0, 0)) (fl_ BK398 NB398_404).out) : gb405 ≠ gb398)); have NB399_405 := Aside0.mk ((by rw [hg]; exact Nat.ne_of_lt (blk_lt (g := gb399) (o := .cells #[.int .i64 a2_0, .int .i64 a2_1, .int .i64 a2_2] 25 (0, 0)) (fl_ BK399 NB399_404).out) : gb399 ≠ gb405)); have NB405_399 := Aside0.mk ((by rw [hg]; exact Nat.ne_of_gt (blk_lt (g := gb399) (o := .cells #[.int .i64 a2_0, .int .i64 a2_1, .int .i64 a2_2] 25 (0, 0)) (fl_ BK399 NB399_404).out) : gb405 ≠ gb399)); have NB400_405 := Aside0.mk ((by rw [hg]; exact Nat.ne_of_lt (blk_lt (g := gb400) (o := .cells #[.int .i64 0, .int .i64 0, .int .i64 0] 25 (0, 0)) (fl_ BK400 NB400_404).out) : gb400 ≠ gb405)); have NB405_400 := Aside0.mk ((by rw [hg]; exact Nat.ne_of_gt (blk_lt (g := gb400) (o := .cells #[.int .i64 0, .int .i64 0, .int .i64 0] 25 (0, 0)) (fl_ BK400 NB400_404).out) : gb405 ≠ gb400)); have NB404_405 := Aside0.mk ((by rw [hg]; exact Nat.ne_of_lt (blk_lt (g := gb404) (o := .cells #[.int .i64 (wrap64 (a1_0 * t403)), .int .i64 (wrap64 (a1_2 * t403))] 81 (0, 0)) (bp_ BK404).out) : gb404 ≠ gb405)); have NB405_404 := Aside0.mk ((by rw [hg]; exact Nat.ne_of_gt (blk_lt (g := gb404) (o := .cells #[.int .i64 (wrap64 (a1_0 * t403)), .int .i64 (wrap64 (a1_2 * t403))] 81 (0, 0)) (bp_ BK404).out) : gb405 ≠ gb404)); replace BK398 := fb_ BK398 NB398_404 hb; replace BK399 := fb_ BK399 NB399_404 hb; replace BK400 := fb_ BK400 NB400_404 hb; replace BK404 := Aside0.mk (blk_below (g := gb404) (o := .cells #[.int .i64 (wrap64 (a1_0 * t403)), .int .i64 (wrap64 (a1_2 * t403))] 81 (0, 0)) (bp_ BK404).out hb); replace HB := bt_ HB hb; clear hb hbox hg; have hnb25 := NB405_398.out; have hnc25 := NB398_405.out; have hnb26 := NB405_399.out; have hnc26 := NB399_405.out; have hnb27 := NB405_400.out; have hnc27 := NB400_405.out; have hnb28 := NB405_404.out; have hnc28 := NB404_405.out; obtain ⟨hcz29_0, hcz29_1, hfz29_0, hfz29_1⟩ := ch2_ BK405))
 have n0_ : Aside0 (((w24.setCell ⟨gb405, 0, none⟩ (.int .i64 (wrap64 ((wrap64 (a1_0 * t401)) + (wrap64 (a1_1 * t402)))))).setCell ⟨gb405, 1, none⟩ (.int .i64 (wrap64 ((wrap64 (a1_2 * t401)) + (wrap64 (a1_3 * t402)))))).heap[gb398]? = some (.cells #[.int .i64 a1_0, .int .i64 a1_1, .int .i64 a1_2, .int .i64 a1_3] 83 (0, 0))) := fl_ BK398 NB398_405
 have n1_ : Aside0 (((w24.setCell ⟨gb405, 0, none⟩ (.int .i64 (wrap64 ((wrap64 (a1_0 * t401)) + (wrap64 (a1_1 * t402)))))).setCell ⟨gb405, 1, none⟩ (.int .i64 (wrap64 ((wrap64 (a1_2 * t401)) + (wrap64 (a1_3 * t402)))))).heap[gb399]? = some (.cells #[.int .i64 a2_0, .int .i64 a2_1, .int .i64 a2_2] 25 (0, 0))) := fl_ BK399 NB399_405
 have n2_ : Aside0 (((w24.setCell ⟨gb405, 0, none⟩ (.int .i64 (wrap64 ((wrap64 (a1_0 * t401)) + (wrap64 (a1_1 * t402)))))).setCell ⟨gb405, 1, none⟩ (.int .i64 (wrap64 ((wrap64 (a1_2 * t401)) + (wrap64 (a1_3 * t402)))))).heap[gb400]? = some (.cells #[.int .i64 0, .int .i64 0, .int .i64 0] 25 (0, 0))) := fl_ BK400 NB400_405
 have n3_ : Aside0 (((w24.setCell ⟨gb405, 0, none⟩ (.int .i64 (wrap64 ((wrap64 (a1_0 * t401)) + (wrap64 (a1_1 * t402)))))).setCell ⟨gb405, 1, none⟩ (.int .i64 (wrap64 ((wrap64 (a1_2 * t401)) + (wrap64 (a1_3 * t402)))))).heap[gb404]? = some (.cells #[.int .i64 (wrap64 (a1_0 * t403)), .int .i64 (wrap64 (a1_2 * t403))] 81 (0, 0))) := fl_ BK404 NB404_405
 have n4_ : Aside0 (((w24.setCell ⟨gb405, 0, none⟩ (.int .i64 (wrap64 ((wrap64 (a1_0 * t401)) + (wrap64 (a1_1 * t402)))))).setCell ⟨gb405, 1, none⟩ (.int .i64 (wrap64 ((wrap64 (a1_2 * t401)) + (wrap64 (a1_3 * t402)))))).heap[gb405]? = some (.cells #[.int .i64 (wrap64 ((wrap64 (a1_0 * t401)) + (wrap64 (a1_1 * t402)))), .int .i64 (wrap64 ((wrap64 (a1_2 * t401)) + (wrap64 (a1_3 * t402))))] 81 (0, 0))) := bp_ BK405
 have n5_ : Aside0 (Below w.heap.size w ((w24.setCell ⟨gb405, 0, none⟩ (.int .i64 (wrap64 ((wrap64 (a1_0 * t401)) + (wrap64 (a1_1 * t402)))))).setCell ⟨gb405, 1, none⟩ (.int .i64 (wrap64 ((wrap64 (a1_2 * t401)) + (wrap64 (a1_3 * t402))))))) := bw_ HB
 (try clear BK398)
 (try clear BK399)
 (try clear BK400)
 (try clear BK404)
 (try clear BK405)
 (try clear HB)
 generalize ((w24.setCell ⟨gb405, 0, none⟩ (.int .i64 (wrap64 ((wrap64 (a1_0 * t401)) + (wrap64 (a1_1 * t402)))))).setCell ⟨gb405, 1, none⟩ (.int .i64 (wrap64 ((wrap64 (a1_2 * t401)) + (wrap64 (a1_3 * t402)))))) = w30 at n0_ n1_ n2_ n3_ n4_ n5_ ⊢
 have BK398 := n0_
 have BK399 := n1_
 have BK400 := n2_
 have BK404 := n3_
 have BK405 := n4_
 have HB := n5_
 clear n0_ n1_ n2_ n3_ n4_ n5_
 replace BK398 := Aside0.mk (blk_drew BK398.out)
 replace BK399 := Aside0.mk (blk_drew BK399.out)
 replace BK400 := Aside0.mk (blk_drew BK400.out)
 replace BK404 := Aside0.mk (blk_drew BK404.out)
 replace BK405 := Aside0.mk (blk_drew BK405.out)
 replace HB := Aside0.mk (below_drew1 HB.out)
 refine start_ (n := 9) (S := fun w' => w'.cell? ⟨gb405, 0, none⟩ = some (.int .i64 (wrap64 ((wrap64 (a1_0 * t401)) + (wrap64 (a1_1 * t402))))) ∧ w'.cell? ⟨gb405, 1, none⟩ = some (.int .i64 (wrap64 ((wrap64 (a1_2 * t401)) + (wrap64 (a1_3 * t402))))) ∧ w'.cell? ⟨gb404, 0, none⟩ = some (.int .i64 (wrap64 (a1_0 * t403))) ∧ w'.cell? ⟨gb404, 1, none⟩ = some (.int .i64 (wrap64 (a1_2 * t403)))) (ds := []) (bv_ 9 0) (by kernel_rfl) rfl rfl ⟨cz_ BK405 0, cz_ BK405 1, cz_ BK404 0, cz_ BK404 1⟩ (fun hHeld => ?_); refine with_tabW impl_moveBall.tab4 impl_moveBall.bits4 (fun HT_ HW_ => ?_)
 generalize w30.drew = w31 at BK398 BK399 BK400 BK404 BK405 HB hHeld ⊢
 refine pu_ HT_ 0 (some 58) (bv_ 9 1) ?_
 refine pu_ HT_ 1 (some 59) (bv_ 9 3) ?_
 refine pu_ HT_ 4 (some 62) (bv_ 9 19) ?_
 refine pu_ HT_ 5 (some 63) (bv_ 9 51) ?_
 refine ta_ HT_ HW_ 2 (some 60) (bv_ 9 55) hHeld ?_ (hy := by rintro w' ⟨s0, s1, s2, s3⟩; go_simp; with_reducible rfl)
 refine ta_ HT_ HW_ 6 (some 64) (bv_ 9 119) hHeld ?_ (hy := by rintro w' ⟨s0, s1, s2, s3⟩; go_simp; with_reducible rfl)
 refine one_ (i := 3) (N := some 61) (bv_ 9 127) rfl rfl (one_of HT_.out (by kernel_rfl)) (by decide) (fun K hK => ?_)
 refine goes_ Try.func81 (by kernel_rfl) rfl #[.int .i64 a0, .int .i64 (wrap64 ((wrap64 (a1_2 * t401)) + (wrap64 (a1_3 * t402))))] (by rfl) rfl rfl (by (try simp only [List.map_toArray, List.map_cons, List.map_nil]); first | done | rfl | (simp only [List.length_drop, List.length_take]; rfl)) ?_
 with_reducible refine (impl_valuation.calls k a0 (wrap64 ((wrap64 (a1_2 * t401)) + (wrap64 (a1_3 * t402)))) t406 _ A7.out).mono ?_
 rintro e w' ⟨rfl, ⟨nd, rfl⟩⟩
 refine ⟨_, rfl, ?_⟩
 refine hK.out _ _ ⟨cz_ BK405 0, cz_ BK405 1, cz_ BK404 0, cz_ BK404 1⟩ (fun hHeld => ?_)
 clear hK K
 refine norm_ (a' := ?_) ?_ ?_
 rotate_left
 ·show Act.put _ (some 61) _ = _
  simp only [Act.put, lstS, lstZ, lstC, i64_w, i32_w]
  rfl
 refine one_ (i := 7) (N := some 65) (bv_ 9 255) rfl rfl (one_of HT_.out (by kernel_rfl)) (by decide) (fun K hK => ?_)
 refine goes_ Try.func81 (by kernel_rfl) rfl #[.int .i64 a0, .int .i64 (wrap64 (a1_2 * t403))] (by rfl) rfl rfl (by (try simp only [List.map_toArray, List.map_cons, List.map_nil]); first | done | rfl | (simp only [List.length_drop, List.length_take]; rfl)) ?_
 with_reducible refine (impl_valuation.calls k a0 (wrap64 (a1_2 * t403)) t407 _ A8.out).mono ?_
 rintro e w' ⟨rfl, ⟨nd, rfl⟩⟩
 refine ⟨_, rfl, ?_⟩
 refine hK.out _ _ ⟨cz_ BK405 0, cz_ BK405 1, cz_ BK404 0, cz_ BK404 1⟩ (fun hHeld => ?_)
 clear hK K
 refine norm_ (a' := ?_) ?_ ?_
 rotate_left
 ·show Act.put _ (some 65) _ = _
  simp only [Act.put, lstS, lstZ, lstC, i64_w, i32_w]
  rfl
 refine pu_ HT_ 8 (some 66) (bv_ 9 511) ?_
 refine done_ (done_of HT_.out (by kernel_rfl)) ?_
 go_upto_if 66 with (fail)
 go_cut [] (fun wc => ∃ (kq : Nat) (x406000_8 : Int) (x406001_8 : Int), Aside0 (impl_moveBall.j0 kq a0 a1_0 a1_1 a1_2 a1_3 a2_0 a2_1 a2_2 x406000_8 x406001_8 = some (r1, r2, r3, r4)) ∧ Aside0 (kq ≤ k) ∧ Aside0 (wc.heap[gb398]? = some (.cells #[.int .i64 a1_0, .int .i64 a1_1, .int .i64 a1_2, .int .i64 a1_3] 83 (0, 0))) ∧ Aside0 (wc.heap[gb399]? = some (.cells #[.int .i64 a2_0, .int .i64 a2_1, .int .i64 a2_2] 25 (0, 0))) ∧ Aside0 (wc.heap[gb400]? = some (.cells #[.int .i64 0, .int .i64 0, .int .i64 0] 25 (0, 0))) ∧ Aside0 (wc.heap[gb404]? = some (.cells #[.int .i64 (wrap64 (a1_0 * t403)), .int .i64 (wrap64 (a1_2 * t403))] 81 (0, 0))) ∧ Aside0 (wc.heap[gb405]? = some (.cells #[.int .i64 x406000_8, .int .i64 x406001_8] 81 (0, 0))) ∧ Aside0 (Below w.heap.size w wc))
 case first =>
  have H := HC9.out
  clear HC9
  by_cases c32 : t406 > t407
  ·rw [if_pos c32] at H
   have c32b0 : decide (t407 < t406) = true := decide_eq_true c32
   clear c32
   (first | rw [c32b0] | (simp only [i64_w, i32_w]; rw [c32b0]) | skip)
   have H' := Aside0.mk H
   clear H
   have hnb33 := NB404_398.out
   have hnc33 := NB398_404.out
   have hnb34 := NB404_399.out
   have hnc34 := NB399_404.out
   have hnb35 := NB404_400.out
   have hnc35 := NB400_404.out
   have hnb36 := NB404_405.out
   have hnc36 := NB405_404.out
   obtain ⟨hcz37_0, hcz37_1, hfz37_0, hfz37_1⟩ := ch2_ BK404
   have hnb38 := NB405_398.out
   have hnc38 := NB398_405.out
   have hnb39 := NB405_399.out
   have hnc39 := NB399_405.out
   have hnb40 := NB405_400.out
   have hnc40 := NB400_405.out
   obtain ⟨hcz41_0, hcz41_1, hfz41_0, hfz41_1⟩ := ch2_ BK405
   go_wp2
   go_meet
   case rel => exact ⟨_, (wrap64 (a1_0 * t403)), (wrap64 (a1_2 * t403)), H', ⟨by first | omega | exact Nat.le_refl _⟩, fl_ BK398 NB398_405, fl_ BK399 NB399_405, fl_ BK400 NB400_405, fl_ BK404 NB404_405, bp_ BK405, bw_ HB⟩
  ·rw [if_neg c32] at H
   have c32b0 : decide (t407 < t406) = false := decide_eq_false c32
   clear c32
   (first | rw [c32b0] | (simp only [i64_w, i32_w]; rw [c32b0]) | skip)
   have H' := Aside0.mk H
   clear H
   go_wp2
   go_meet
   case rel => exact ⟨_, (wrap64 ((wrap64 (a1_0 * t401)) + (wrap64 (a1_1 * t402)))), (wrap64 ((wrap64 (a1_2 * t401)) + (wrap64 (a1_3 * t402)))), H', ⟨by first | omega | exact Nat.le_refl _⟩, bl_ BK398, bl_ BK399, bl_ BK400, bl_ BK404, bl_ BK405, bw_ HB⟩
 case rest =>
  clear HC9
  try clear c1
  try clear c2
  try clear p2
  try clear c3
  try clear c4
  try clear c5
  try clear c6
  try clear p6
  try clear c8
  try clear c15
  try clear c16
  try clear c19
  try clear c20
  try clear c21
  try clear c25
  try clear c26
  try clear c27
  try clear c28
  try clear c30
  try clear c32
  try clear c32b0
  try clear c33
  try clear c34
  try clear c35
  try clear c36
  try clear c38
  try clear c39
  try clear c40
  try clear hcz17_0 hcz17_1 hcz17_2 hcz17_3
  try clear hcz22_0 hcz22_1
  try clear hcz23_0 hcz23_1 hcz23_2 hcz23_3
  try clear hcz29_0 hcz29_1
  try clear hcz37_0 hcz37_1
  try clear hcz41_0 hcz41_1
  try clear hfz17_0 hfz17_1 hfz17_2 hfz17_3
  try clear hfz22_0 hfz22_1
  try clear hfz23_0 hfz23_1 hfz23_2 hfz23_3
  try clear hfz29_0 hfz29_1
  try clear hfz37_0 hfz37_1
  try clear hfz41_0 hfz41_1
  obtain ⟨kq, x406000_8, x406001_8, HA, HJ8, BK398, BK399, BK400, BK404, BK405, HB⟩ := hcut
  cases kq with
  | zero => exact absurd HA.out (by simp [impl_moveBall.j0])
  | succ kj8 =>
   have H := HA.out
   clear HA
   simp only [impl_moveBall.j0] at H
   replace H := ob_ H
   obtain ⟨t408, A420, H⟩ := H
   have A42 := Aside0.mk A420
   clear A420
   replace H := ob_ H
   obtain ⟨t409, A430, H⟩ := H
   have A43 := Aside0.mk A430
   clear A430
   replace H := ob_ H
   obtain ⟨t410, A440, H⟩ := H
   have A44 := Aside0.mk A440
   clear A440
   replace H := ob_ H
   obtain ⟨⟨t411, t412, t413, t414⟩, A450, H⟩ := H
   have A45 := Aside0.mk A450
   clear A450
   simp only [Option.some.injEq, Prod.mk.injEq] at H
   obtain ⟨rfl, rfl, rfl, rfl⟩ := H
   try go_wp2
   replace BK398 := Aside0.mk (blk_drew BK398.out)
   replace BK399 := Aside0.mk (blk_drew BK399.out)
   replace BK400 := Aside0.mk (blk_drew BK400.out)
   replace BK404 := Aside0.mk (blk_drew BK404.out)
   replace BK405 := Aside0.mk (blk_drew BK405.out)
   replace HB := Aside0.mk (below_drew1 HB.out)
   refine start_ (n := 15) (S := fun w' => w'.cell? ⟨gb398, 0, none⟩ = some (.int .i64 a1_0) ∧ w'.cell? ⟨gb398, 1, none⟩ = some (.int .i64 a1_1) ∧ w'.cell? ⟨gb398, 2, none⟩ = some (.int .i64 a1_2) ∧ w'.cell? ⟨gb398, 3, none⟩ = some (.int .i64 a1_3) ∧ w'.cell? ⟨gb399, 0, none⟩ = some (.int .i64 a2_0) ∧ w'.cell? ⟨gb399, 1, none⟩ = some (.int .i64 a2_1) ∧ w'.cell? ⟨gb399, 2, none⟩ = some (.int .i64 a2_2) ∧ w'.cell? ⟨gb405, 0, none⟩ = some (.int .i64 x406000_8) ∧ w'.cell? ⟨gb405, 1, none⟩ = some (.int .i64 x406001_8)) (ds := []) (bv_ 15 0) (by kernel_rfl) rfl rfl ⟨cz_ BK398 0, cz_ BK398 1, cz_ BK398 2, cz_ BK398 3, cz_ BK399 0, cz_ BK399 1, cz_ BK399 2, cz_ BK405 0, cz_ BK405 1⟩ (fun hHeld => ?_); refine with_tabW impl_moveBall.tab6 impl_moveBall.bits6 (fun HT_ HW_ => ?_)
   generalize wc.drew = w46 at BK398 BK399 BK400 BK404 BK405 HB hHeld ⊢
   refine pu_ HT_ 0 (some 68) (bv_ 15 1) ?_
   refine pu_ HT_ 4 (some 72) (bv_ 15 17) ?_
   refine pu_ HT_ 8 (some 76) (bv_ 15 273) ?_
   refine pu_ HT_ 9 (some 77) (bv_ 15 785) ?_
   refine ta_ HT_ HW_ 1 (some 69) (bv_ 15 787) hHeld ?_ (hy := by rintro w' ⟨s0, s1, s2, s3, s4, s5, s6, s7, s8⟩; go_simp; with_reducible rfl)
   refine ta_ HT_ HW_ 5 (some 73) (bv_ 15 819) hHeld ?_ (hy := by rintro w' ⟨s0, s1, s2, s3, s4, s5, s6, s7, s8⟩; go_simp; with_reducible rfl)
   refine ta_ HT_ HW_ 10 (some 78) (bv_ 15 1843) hHeld ?_ (hy := by rintro w' ⟨s0, s1, s2, s3, s4, s5, s6, s7, s8⟩; go_simp; with_reducible rfl)
   refine one_ (i := 2) (N := some 70) (bv_ 15 1847) rfl rfl (one_of HT_.out (by kernel_rfl)) (by decide) (fun K hK => ?_)
   refine goes_ Try.func82 (by kernel_rfl) rfl #[.agg #[.int .i64 a1_0, .int .i64 a1_1, .int .i64 a1_2, .int .i64 a1_3]] (by rfl) rfl rfl (by (try simp only [List.map_toArray, List.map_cons, List.map_nil]); first | done | rfl | (simp only [List.length_drop, List.length_take]; rfl)) ?_
   with_reducible refine (impl_determinant.calls a1_0 a1_1 a1_2 a1_3 t408 _ A42.out).mono ?_
   rintro e w47 ⟨rfl, hb⟩
   refine ⟨_, rfl, ?_⟩
   replace BK398 := bb_ BK398 hb
   replace BK399 := bb_ BK399 hb
   replace BK400 := bb_ BK400 hb
   replace BK404 := bb_ BK404 hb
   replace BK405 := bb_ BK405 hb
   replace HB := bt_ HB hb
   (try clear hb)
   (try clear hb2)
   (try clear hk)
   (try clear hi)
   refine hK.out _ _ ⟨cz_ BK398 0, cz_ BK398 1, cz_ BK398 2, cz_ BK398 3, cz_ BK399 0, cz_ BK399 1, cz_ BK399 2, cz_ BK405 0, cz_ BK405 1⟩ (fun hHeld => ?_)
   clear hK K
   refine norm_ (a' := ?_) ?_ ?_
   rotate_left
   ·show Act.put _ (some 70) _ = _
    simp only [Act.put, lstS, lstZ, lstC, i64_w, i32_w]
    rfl
   refine one_ (i := 3) (N := some 71) (bv_ 15 1855) rfl rfl (one_of HT_.out (by kernel_rfl)) (by decide) (fun K hK => ?_)
   refine goes_ Try.func81 (by kernel_rfl) rfl #[.int .i64 a0, .int .i64 t408] (by rfl) rfl rfl (by (try simp only [List.map_toArray, List.map_cons, List.map_nil]); first | done | rfl | (simp only [List.length_drop, List.length_take]; rfl)) ?_
   with_reducible refine (impl_valuation.calls kj8 a0 t408 t409 _ A43.out).mono ?_
   rintro e w' ⟨rfl, ⟨nd, rfl⟩⟩
   refine ⟨_, rfl, ?_⟩
   refine hK.out _ _ ⟨cz_ BK398 0, cz_ BK398 1, cz_ BK398 2, cz_ BK398 3, cz_ BK399 0, cz_ BK399 1, cz_ BK399 2, cz_ BK405 0, cz_ BK405 1⟩ (fun hHeld => ?_)
   clear hK K
   refine norm_ (a' := ?_) ?_ ?_
   rotate_left
   ·show Act.put _ (some 71) _ = _
    simp only [Act.put, lstS, lstZ, lstC, i64_w, i32_w]
    rfl
   refine pu_ HT_ 6 (some 74) (bv_ 15 1919) ?_
   refine pu_ HT_ 7 (some 75) (bv_ 15 2047) ?_
   refine one_ (i := 11) (N := some 79) (bv_ 15 4095) rfl rfl (one_of HT_.out (by kernel_rfl)) (by decide) (fun K hK => ?_)
   refine goes_ Try.func81 (by kernel_rfl) rfl #[.int .i64 a0, .int .i64 x406001_8] (by rfl) rfl rfl (by (try simp only [List.map_toArray, List.map_cons, List.map_nil]); first | done | rfl | (simp only [List.length_drop, List.length_take]; rfl)) ?_
   with_reducible refine (impl_valuation.calls kj8 a0 x406001_8 t410 _ A44.out).mono ?_
   rintro e w' ⟨rfl, ⟨nd, rfl⟩⟩
   refine ⟨_, rfl, ?_⟩
   refine hK.out _ _ ⟨cz_ BK398 0, cz_ BK398 1, cz_ BK398 2, cz_ BK398 3, cz_ BK399 0, cz_ BK399 1, cz_ BK399 2, cz_ BK405 0, cz_ BK405 1⟩ (fun hHeld => ?_)
   clear hK K
   refine norm_ (a' := ?_) ?_ ?_
   rotate_left
   ·show Act.put _ (some 79) _ = _
    simp only [Act.put, lstS, lstZ, lstC, i64_w, i32_w]
    rfl
   refine pu_ HT_ 12 (some 80) (bv_ 15 8191) ?_
   refine pu_ HT_ 13 (some 81) (bv_ 15 16383) ?_
   refine pu_ HT_ 14 (some 13) (bv_ 15 32767) ?_
   refine done_ (done_of HT_.out (by kernel_rfl)) ?_
   have hnb48 := NB405_398.out
   have hnc48 := NB398_405.out
   have hnb49 := NB405_399.out
   have hnc49 := NB399_405.out
   have hnb50 := NB405_400.out
   have hnc50 := NB400_405.out
   have hnb51 := NB405_404.out
   have hnc51 := NB404_405.out
   obtain ⟨hcz52_0, hcz52_1, hfz52_0, hfz52_1⟩ := ch2_ BK405
   try go_wp2_with (first | (refine ge_ 88 Try.func83 #[.int .i64 a0, .int .i64 x406000_8, .int .i64 x406001_8, .int .i64 (wrap64 ((wrap64 ((wrap64 (t409 + a2_0)) + 12)) - (wrap64 (2 * t410))))] ?_; (with_reducible refine (impl_ballAt.calls kj8 a0 x406000_8 x406001_8 (wrap64 ((wrap64 ((wrap64 (t409 + a2_0)) + 12)) - (wrap64 (2 * t410)))) t411 t412 t413 t414 _ A45.out).mono ?_); rintro e w53 ⟨rfl, hb⟩; refine ⟨_, rfl, ?_⟩; replace BK398 := bb_ BK398 hb; replace BK399 := bb_ BK399 hb; replace BK400 := bb_ BK400 hb; replace BK404 := bb_ BK404 hb; replace BK405 := bb_ BK405 hb; replace HB := bt_ HB hb; (try clear hb); (try clear hb2); (try clear hk); (try clear hi); have hnb54 := NB400_398.out; have hnc54 := NB398_400.out; have hnb55 := NB400_399.out; have hnc55 := NB399_400.out; have hnb56 := NB400_404.out; have hnc56 := NB404_400.out; obtain ⟨hcz57_0, hcz57_1, hcz57_2, hfz57_0, hfz57_1, hfz57_2⟩ := ch3_ BK400))
   refine bodyPost_ret (results_ct rfl _ _ gb400 25 #[.int .i64 t411, .int .i64 t412, .int .i64 t413] (0, 0) _ rfl (bp_ BK400).out Try.underlying25 rfl (by kernel_rfl)) rfl ?_
   exact ⟨es_, (bw_ HB).out⟩
end Go.Proofs.Ytbldceikdajdlaa.QD
