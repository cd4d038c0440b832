-- Written by a program of this session out of Lean's own print of the loaded program; Lean checks it.
import Derived.Test.YtojpcbbmbnmchaaQCx4
import Derived.Test.YtojpcbbmbnmchaaQCx28
import Derived.Test.YtojpcbbmbnmchaaQCx38
import Derived.Test.YtojpcbbmbnmchaaQCx46
namespace Go.Proofs.Ytojpcbbmbnmchaa.QC
open Go.RowKit Go.Proofs.YtojpcbbmbnmchaaW.PrintWords Go.Proofs.YtojpcbbmbnmchaaW.PrintLast Go.Proofs.YtojpcbbmbnmchaaW.PrintMore
attribute [local go_sem] isSome_setCell max2_int min2_int max_two min_two max_three min_three max_four min_four   -- for this text's walks alone
set_option linter.unusedVariables false
set_option linter.unusedSimpArgs false

/-! ### impl_moveBall: function 54 -/
def impl_moveBall.j0 : Nat → Int → Int → Int → Int → Int → Int → Int → Int → Int → Int → Option (Int × Int × Int × Bool)
 | 0, _, _, _, _, _, _, _, _, _, _ => none
 | k + 1, x0, x287000, x287001, x287002, x287003, x288000, x288001, x288002, x294000, x294001 => (impl_determinant.f x287000 x287001 x287002 x287003).bind fun t296 => ((impl_valuation.f k x0 t296).bind fun t297 => ((impl_valuation.f k x0 x294001).bind fun t298 => ((impl_ballAt.f k x0 x294000 x294001 (wrap64 ((wrap64 ((wrap64 (t297 + x288000)) + 12)) - (wrap64 (2 * t298))))).bind fun bt299 => (some (bt299.1, bt299.2.1, bt299.2.2.1, bt299.2.2.2)))))
def impl_moveBall.f (k : Nat) (a0 : Int) (a1_0 : Int) (a1_1 : Int) (a1_2 : Int) (a1_3 : Int) (a2_0 : Int) (a2_1 : Int) (a2_2 : Int) : Option (Int × Int × Int × Bool) := (impl_mark.f k a0 a2_0 a2_1 a2_2).bind fun t289 => ((impl_power.f k a0 6).bind fun t290 => ((impl_power.f k a0 (wrap64 (a2_0 + 6))).bind fun t291 => ((impl_valuation.f k a0 (wrap64 ((wrap64 (a1_2 * t289)) + (wrap64 (a1_3 * t290))))).bind fun t294 => ((impl_valuation.f k a0 (wrap64 (a1_2 * t291))).bind fun t295 => (if t294 > t295 then (impl_moveBall.j0 k a0 a1_0 a1_1 a1_2 a1_3 a2_0 a2_1 a2_2 (wrap64 (a1_0 * t291)) (wrap64 (a1_2 * t291))) else (impl_moveBall.j0 k a0 a1_0 a1_1 a1_2 a1_3 a2_0 a2_1 a2_2 (wrap64 ((wrap64 (a1_0 * t289)) + (wrap64 (a1_1 * t290)))) (wrap64 ((wrap64 (a1_2 * t289)) + (wrap64 (a1_3 * t290))))))))))
def impl_moveBall.T1 : Bool × List (List Nat × List Nat) := (true, [([], []), ([], []), ([0, 1], [0, 1]), ([], []), ([3, 2], [3]), ([], []), ([], []), ([6], [6]), ([7], [7]), ([5, 8, 4], [5, 8]), ([2, 9, 0, 1, 2], [2]), ([4, 10, 0, 1, 2, 3, 4, 10], [4]), ([9, 11, 0, 1, 2, 3, 4, 5, 6, 7, 8, 9, 10, 11], [9])])
def impl_moveBall.B1 : List Nat := [0, 0, 3, 0, 15, 0, 0, 64, 192, 511, 1023, 2047, 4095]
theorem impl_moveBall.tab1 : rtab .any (opsOf Try.f54 1) = impl_moveBall.T1 := by kernel_rfl
theorem impl_moveBall.bits1 : waitsOk impl_moveBall.T1.2 impl_moveBall.B1 = true := by kernel_rfl
def impl_moveBall.T4 : Bool × List (List Nat × List Nat) := (true, [([], []), ([], []), ([1], [1]), ([0, 2], [0, 2]), ([], []), ([], []), ([5], [5]), ([4, 6, 3], [4, 6]), ([3, 7], [3, 7])])
def impl_moveBall.B4 : List Nat := [0, 0, 2, 7, 0, 0, 32, 127, 255]
theorem impl_moveBall.tab4 : rtab .any (opsOf Try.f54 4) = impl_moveBall.T4 := by kernel_rfl
theorem impl_moveBall.bits4 : waitsOk impl_moveBall.T4.2 impl_moveBall.B4 = true := by kernel_rfl
def impl_moveBall.T6 : Bool × List (List Nat × List Nat) := (true, [([], []), ([], []), ([1], [1]), ([0, 2, 2], [0, 2]), ([], []), ([4], [4]), ([3, 5], [3, 5]), ([6], [6]), ([], []), ([], []), ([9], [9]), ([8, 10, 3], [8, 10]), ([11], [11]), ([7, 12], [7, 12]), ([13, 11, 0, 1, 2, 3, 4, 5, 6, 7, 8, 9, 10, 11, 12, 13], [13])])
def impl_moveBall.B6 : List Nat := [0, 0, 2, 7, 0, 16, 63, 127, 0, 0, 512, 1807, 3855, 8191, 16383]
theorem impl_moveBall.tab6 : rtab .any (opsOf Try.f54 6) = impl_moveBall.T6 := by kernel_rfl
theorem impl_moveBall.bits6 : waitsOk impl_moveBall.T6.2 impl_moveBall.B6 = true := by kernel_rfl
set_option maxHeartbeats 8000000 in
set_option maxRecDepth 100000 in
theorem impl_moveBall.calls (k : Nat) (a0 : Int) (a1_0 : Int) (a1_1 : Int) (a1_2 : Int) (a1_3 : Int) (a2_0 : Int) (a2_1 : Int) (a2_2 : Int) (r1 : Int) (r2 : Int) (r3 : Int) (r4 : Bool) (w : World) (h : impl_moveBall.f k a0 a1_0 a1_1 a1_2 a1_3 a2_0 a2_1 a2_2 = some (r1, r2, r3, r4)) :
  Calls Try.prog 54 #[.int .i64 a0, .agg #[.int .i64 a1_0, .int .i64 a1_1, .int .i64 a1_2, .int .i64 a1_3], .agg #[.int .i64 a2_0, .int .i64 a2_1, .int .i64 a2_2]] w fun e w' => e = .returned (.tuple #[.agg #[.int .i64 r1, .int .i64 r2, .int .i64 r3], .bool r4]) ∧ Below w.heap.size w w' := by
 have hu33 := Try.underlying33
 have hu28 := Try.underlying28
 have hu22 := Try.underlying22
 have HB := Aside0.mk (Below.refl w.heap.size w)
 have H : ((impl_mark.f k a0 a2_0 a2_1 a2_2).bind fun t289 => ((impl_power.f k a0 6).bind fun t290 => ((impl_power.f k a0 (wrap64 (a2_0 + 6))).bind fun t291 => ((impl_valuation.f k a0 (wrap64 ((wrap64 (a1_2 * t289)) + (wrap64 (a1_3 * t290))))).bind fun t294 => ((impl_valuation.f k a0 (wrap64 (a1_2 * t291))).bind fun t295 => (if t294 > t295 then (impl_moveBall.j0 k a0 a1_0 a1_1 a1_2 a1_3 a2_0 a2_1 a2_2 (wrap64 (a1_0 * t291)) (wrap64 (a1_2 * t291))) else (impl_moveBall.j0 k a0 a1_0 a1_1 a1_2 a1_3 a2_0 a2_1 a2_2 (wrap64 ((wrap64 (a1_0 * t289)) + (wrap64 (a1_1 * t290)))) (wrap64 ((wrap64 (a1_2 * t289)) + (wrap64 (a1_3 * t290))))))))))) = some (r1, r2, r3, r4) := h
 clear h
 replace H := Option.bind_eq_some_iff.mp H
 obtain ⟨t289, A40, H⟩ := H
 have A4 := Aside0.mk A40
 clear A40
 replace H := Option.bind_eq_some_iff.mp H
 obtain ⟨t290, A50, H⟩ := H
 have A5 := Aside0.mk A50
 clear A50
 replace H := Option.bind_eq_some_iff.mp H
 obtain ⟨t291, A60, H⟩ := H
 have A6 := Aside0.mk A60
 clear A60
 replace H := Option.bind_eq_some_iff.mp H
 obtain ⟨t294, A70, H⟩ := H
 have A7 := Aside0.mk A70
 clear A70
 replace H := Option.bind_eq_some_iff.mp H
 obtain ⟨t295, A80, H⟩ := H
 have A8 := Aside0.mk A80
 clear A80
 have HC9 := Aside0.mk H
 clear H
 go_enter Try.func54, Try.ntmps54
 try go_wp2_with (first | ((with_reducible refine gate_dst (N := 4) rfl ?_); refine bx_ 4 #[.int .i64 a1_0, .int .i64 a1_1, .int .i64 a1_2, .int .i64 a1_3] 33 ?_; intro gb286 hg w10 hbox hb; have BK286 := Aside0.mk (hbox); have GW286 := bs_ HB hg; have GE286 := bs_ HB hg; replace HB := bt_ HB hb; clear hb hbox hg) | ((with_reducible refine gate_dst (N := 5) rfl ?_); refine bx_ 5 #[.int .i64 a2_0, .int .i64 a2_1, .int .i64 a2_2] 28 ?_; intro gb287 hg w11 hbox hb; have BK287 := Aside0.mk (hbox); have GW287 := bs_ HB hg; have GE287 := bs_ HB hg; have NB286_287 := bm_ BK286 hg; have NB287_286 := bn_ BK286 hg; replace BK286 := bb_ BK286 hb; replace HB := bt_ HB hb; clear hb hbox hg) | ((with_reducible refine gate_dst (N := 6) rfl ?_); refine bx_ 6 #[.int .i64 0, .int .i64 0, .int .i64 0] 28 ?_; intro gb288 hg w12 hbox hb; have BK288 := Aside0.mk (hbox); have GW288 := bs_ HB hg; have GE288 := bs_ HB hg; have NB286_288 := bm_ BK286 hg; have NB288_286 := bn_ BK286 hg; have NB287_288 := bm_ BK287 hg; have NB288_287 := bn_ BK287 hg; replace BK286 := bb_ BK286 hb; replace BK287 := bb_ BK287 hb; replace HB := bt_ HB hb; clear hb hbox hg))
 replace BK286 := Aside0.mk (blk_drew BK286.out)
 replace BK287 := Aside0.mk (blk_drew BK287.out)
 replace BK288 := Aside0.mk (blk_drew BK288.out)
 replace HB := Aside0.mk (below_drew1 HB.out)
 refine start_ (n := 13) (S := fun w' => w'.cell? ⟨gb287, 0, none⟩ = some (.int .i64 a2_0) ∧ w'.cell? ⟨gb287, 1, none⟩ = some (.int .i64 a2_1) ∧ w'.cell? ⟨gb287, 2, none⟩ = some (.int .i64 a2_2)) (ds := []) #[false, false, false, false, false, false, false, false, false, false, false, false, false] (by kernel_rfl) rfl rfl ⟨(blk_cell BK287.out 0).trans rfl, (blk_cell BK287.out 1).trans rfl, (blk_cell BK287.out 2).trans rfl⟩ (fun hHeld => ?_); refine with_tabW impl_moveBall.tab1 impl_moveBall.bits1 (fun HT_ HW_ => ?_)
 generalize w12.drew = w13 at BK286 BK287 BK288 HB hHeld ⊢
 refine pu_ HT_ 0 (some 14) #[true, false, false, false, false, false, false, false, false, false, false, false, false] ?_
 refine pu_ HT_ 3 (some 17) #[true, false, false, true, false, false, false, false, false, false, false, false, false] ?_
 refine pu_ HT_ 5 (some 19) #[true, false, false, true, false, true, false, false, false, false, false, false, false] ?_
 refine pu_ HT_ 6 (some 20) #[true, false, false, true, false, true, true, false, false, false, false, false, false] ?_
 refine ta_ HT_ HW_ 1 (some 15) #[true, true, false, true, false, true, true, false, false, false, false, false, false] hHeld ?_ (hy := by rintro w' ⟨s0, s1, s2⟩; go_simp; with_reducible rfl)
 refine ta_ HT_ HW_ 7 (some 21) #[true, true, false, true, false, true, true, true, false, false, false, false, false] hHeld ?_ (hy := by rintro w' ⟨s0, s1, s2⟩; go_simp; with_reducible rfl)
 refine pu_ HT_ 8 (some 22) #[true, true, false, true, false, true, true, true, true, false, false, false, false] ?_
 refine one_ (i := 2) (N := some 16) #[true, true, true, true, false, true, true, true, true, false, false, false, false] rfl rfl (one_of HT_.out (by kernel_rfl)) (by decide) (fun K hK => ?_)
 refine goes_ Try.func79 (by kernel_rfl) rfl #[.int .i64 a0, .agg #[.int .i64 a2_0, .int .i64 a2_1, .int .i64 a2_2]] (by rfl) rfl rfl (by (try simp only [List.map_toArray, List.map_cons, List.map_nil]); first | done | rfl | (simp only [List.length_drop, List.length_take]; rfl)) ?_
 with_reducible refine (impl_mark.calls k a0 a2_0 a2_1 a2_2 t289 _ A4.out).mono ?_
 rintro e w14 ⟨rfl, hb⟩
 refine ⟨_, rfl, ?_⟩
 replace BK286 := bb_ BK286 hb
 replace BK287 := bb_ BK287 hb
 replace BK288 := bb_ BK288 hb
 replace HB := bt_ HB hb
 (try clear hb)
 (try clear hb2)
 (try clear hk)
 (try clear hi)
 refine hK.out _ _ ⟨(blk_cell BK287.out 0).trans rfl, (blk_cell BK287.out 1).trans rfl, (blk_cell BK287.out 2).trans rfl⟩ (fun hHeld => ?_)
 clear hK K
 refine norm_ (a' := ?_) ?_ ?_
 rotate_left
 ·show Act.put _ (some 16) _ = _
  simp only [Act.put, lstS, lstZ, lstC, i64_w, i32_w]
  rfl
 refine one_ (i := 4) (N := some 18) #[true, true, true, true, true, true, true, true, true, false, false, false, false] rfl rfl (one_of HT_.out (by kernel_rfl)) (by decide) (fun K hK => ?_)
 refine goes_ Try.func80 (by kernel_rfl) rfl #[.int .i64 a0, .int .i64 6] (by rfl) rfl rfl (by (try simp only [List.map_toArray, List.map_cons, List.map_nil]); first | done | rfl | (simp only [List.length_drop, List.length_take]; rfl)) ?_
 with_reducible refine (impl_power.calls k a0 6 t290 _ A5.out).mono ?_
 rintro e w' ⟨rfl, ⟨nd, rfl⟩⟩
 refine ⟨_, rfl, ?_⟩
 refine hK.out _ _ ⟨(blk_cell BK287.out 0).trans rfl, (blk_cell BK287.out 1).trans rfl, (blk_cell BK287.out 2).trans rfl⟩ (fun hHeld => ?_)
 clear hK K
 refine norm_ (a' := ?_) ?_ ?_
 rotate_left
 ·show Act.put _ (some 18) _ = _
  simp only [Act.put, lstS, lstZ, lstC, i64_w, i32_w]
  rfl
 refine one_ (i := 9) (N := some 23) #[true, true, true, true, true, true, true, true, true, true, false, false, false] rfl rfl (one_of HT_.out (by kernel_rfl)) (by decide) (fun K hK => ?_)
 refine goes_ Try.func80 (by kernel_rfl) rfl #[.int .i64 a0, .int .i64 (wrap64 (a2_0 + 6))] (by rfl) rfl rfl (by (try simp only [List.map_toArray, List.map_cons, List.map_nil]); first | done | rfl | (simp only [List.length_drop, List.length_take]; rfl)) ?_
 with_reducible refine (impl_power.calls k a0 (wrap64 (a2_0 + 6)) t291 _ A6.out).mono ?_
 rintro e w' ⟨rfl, ⟨nd, rfl⟩⟩
 refine ⟨_, rfl, ?_⟩
 refine hK.out _ _ ⟨(blk_cell BK287.out 0).trans rfl, (blk_cell BK287.out 1).trans rfl, (blk_cell BK287.out 2).trans rfl⟩ (fun hHeld => ?_)
 clear hK K
 refine norm_ (a' := ?_) ?_ ?_
 rotate_left
 ·show Act.put _ (some 23) _ = _
  simp only [Act.put, lstS, lstZ, lstC, i64_w, i32_w]
  rfl
 refine pu_ HT_ 10 (some 8) #[true, true, true, true, true, true, true, true, true, true, true, false, false] ?_
 refine pu_ HT_ 11 (some 9) #[true, true, true, true, true, true, true, true, true, true, true, true, false] ?_
 refine pu_ HT_ 12 (some 10) #[true, true, true, true, true, true, true, true, true, true, true, true, true] ?_
 refine done_ (done_of HT_.out (by kernel_rfl)) ?_
 have hnb15 := NB286_287.out
 have hnc15 := NB287_286.out
 have hnb16 := NB286_288.out
 have hnc16 := NB288_286.out
 have hcz17_0 : w14.cell? ⟨gb286, 0, none⟩ = some (.int .i64 a1_0) := (blk_cell BK286.out 0).trans rfl
 have hcz17_1 : w14.cell? ⟨gb286, 1, none⟩ = some (.int .i64 a1_1) := (blk_cell BK286.out 1).trans rfl
 have hcz17_2 : w14.cell? ⟨gb286, 2, none⟩ = some (.int .i64 a1_2) := (blk_cell BK286.out 2).trans rfl
 have hcz17_3 : w14.cell? ⟨gb286, 3, none⟩ = some (.int .i64 a1_3) := (blk_cell BK286.out 3).trans rfl
 have hfz17_0 := blk_frozen BK286.out 0
 have hfz17_1 := blk_frozen BK286.out 1
 have hfz17_2 := blk_frozen BK286.out 2
 have hfz17_3 := blk_frozen BK286.out 3
 try go_wp2_with (first | ((with_reducible refine gate_dst (N := 11) rfl ?_); refine bx_ 11 #[.int .i64 0, .int .i64 0] 22 ?_; intro gb292 hg w18 hbox hb; have BK292 := Aside0.mk (hbox); have GW292 := bs_ HB hg; have GE292 := bs_ HB hg; have NB286_292 := bm_ BK286 hg; have NB292_286 := bn_ BK286 hg; have NB287_292 := bm_ BK287 hg; have NB292_287 := bn_ BK287 hg; have NB288_292 := bm_ BK288 hg; have NB292_288 := bn_ BK288 hg; replace BK286 := bb_ BK286 hb; replace BK287 := bb_ BK287 hb; replace BK288 := bb_ BK288 hb; replace HB := bt_ HB hb; clear hb hbox hg; have hnb19 := NB292_286.out; have hnc19 := NB286_292.out; have hnb20 := NB292_287.out; have hnc20 := NB287_292.out; have hnb21 := NB292_288.out; have hnc21 := NB288_292.out; have hcz22_0 : w18.cell? ⟨gb292, 0, none⟩ = some (.int .i64 0) := (blk_cell BK292.out 0).trans rfl; have hcz22_1 : w18.cell? ⟨gb292, 1, none⟩ = some (.int .i64 0) := (blk_cell BK292.out 1).trans rfl; have hfz22_0 := blk_frozen BK292.out 0; have hfz22_1 := blk_frozen BK292.out 1; have hcz23_0 : w18.cell? ⟨gb286, 0, none⟩ = some (.int .i64 a1_0) := (blk_cell BK286.out 0).trans rfl; have hcz23_1 : w18.cell? ⟨gb286, 1, none⟩ = some (.int .i64 a1_1) := (blk_cell BK286.out 1).trans rfl; have hcz23_2 : w18.cell? ⟨gb286, 2, none⟩ = some (.int .i64 a1_2) := (blk_cell BK286.out 2).trans rfl; have hcz23_3 : w18.cell? ⟨gb286, 3, none⟩ = some (.int .i64 a1_3) := (blk_cell BK286.out 3).trans rfl; have hfz23_0 := blk_frozen BK286.out 0; have hfz23_1 := blk_frozen BK286.out 1; have hfz23_2 := blk_frozen BK286.out 2; have hfz23_3 := blk_frozen BK286.out 3) | ((with_reducible refine gate_dst (N := 12) rfl ?_); refine bx_ 12 #[.int .i64 0, .int .i64 0] 22 ?_; intro gb293 hg w24 hbox hb; have BK293 := Aside0.mk (hbox); have GW293 := bs_ HB hg; have GE293 := bs_ HB hg; have NB286_293 := Aside0.mk ((by rw [hg]; exact Nat.ne_of_lt (blk_lt (g := gb286) (o := .cells #[.int .i64 a1_0, .int .i64 a1_1, .int .i64 a1_2, .int .i64 a1_3] 33 (0, 0)) (by (with_reducible repeat first | apply blk_drewN | apply blk_drew | apply blk_alloc); refine blk_far ?_ NB286_292.out _; (with_reducible repeat first | apply blk_drewN | apply blk_drew | apply blk_alloc); refine blk_far ?_ NB286_292.out _; (with_reducible repeat first | apply blk_drewN | apply blk_drew | apply blk_alloc); exact BK286.out)) : gb286 ≠ gb293)); have NB293_286 := Aside0.mk ((by rw [hg]; exact Nat.ne_of_gt (blk_lt (g := gb286) (o := .cells #[.int .i64 a1_0, .int .i64 a1_1, .int .i64 a1_2, .int .i64 a1_3] 33 (0, 0)) (by (with_reducible repeat first | apply blk_drewN | apply blk_drew | apply blk_alloc); refine blk_far ?_ NB286_292.out _; (with_reducible repeat first | apply blk_drewN | apply blk_drew | apply blk_alloc); refine blk_far ?_ NB286_292.out _; (with_reducible repeat first | apply blk_drewN | apply blk_drew | apply blk_alloc); exact BK286.out)) : gb293 ≠ gb286)); have NB287_293 := Aside0.mk ((by rw [hg]; exact Nat.ne_of_lt (blk_lt (g := gb287) (o := .cells #[.int .i64 a2_0, .int .i64 a2_1, .int .i64 a2_2] 28 (0, 0)) (by (with_reducible repeat first | apply blk_drewN | apply blk_drew | apply blk_alloc); refine blk_far ?_ NB287_292.out _; (with_reducible repeat first | apply blk_drewN | apply blk_drew | apply blk_alloc); refine blk_far ?_ NB287_292.out _; (with_reducible repeat first | apply blk_drewN | apply blk_drew | apply blk_alloc); exact BK287.out)) : gb287 ≠ gb293)); have NB293_287 := Aside0.mk ((by rw [hg]; exact Nat.ne_of_gt (blk_lt (g := gb287) (o := .cells #[.int .i64 a2_0, .int .i64 a2_1, .int .i64 a2_2] 28 (0, 0)) (by (with_reducible repeat first | apply blk_drewN | apply blk_drew | apply blk_alloc); refine blk_far ?_ NB287_292.out _; (with_reducible repeat first | apply blk_drewN | apply blk_drew | apply blk_alloc); refine blk_far ?_ NB287_292.out _; (with_reducible repeat first | apply blk_drewN | apply blk_drew | apply blk_alloc); exact BK287.out)) : gb293 ≠ gb287)); have NB288_293 := Aside0.mk ((by rw [hg]; exact Nat.ne_of_lt (blk_lt (g := gb288) (o := .cells #[.int .i64 0, .int .i64 0, .int .i64 0] 28 (0, 0)) (by (with_reducible repeat first | apply blk_drewN | apply blk_drew | apply blk_alloc); refine blk_far ?_ NB288_292.out _; (with_reducible repeat first | apply blk_drewN | apply blk_drew | apply blk_alloc); refine blk_far ?_ NB288_292.out _; (with_reducible repeat first | apply blk_drewN | apply blk_drew | apply blk_alloc); exact BK288.out)) : gb288 ≠ gb293)); have NB293_288 := Aside0.mk ((by rw [hg]; exact Nat.ne_of_gt (blk_lt (g := gb288) (o := .cells #[.int .i64 0, .int .i64 0, .int .i64 0] 28 (0, 0)) (by (with_reducible repeat first | apply blk_drewN | apply blk_drew | apply blk_alloc); refine blk_far ?_ NB288_292.out _; (with_reducible repeat first | apply blk_drewN | apply blk_drew | apply blk_alloc); refine blk_far ?_ NB288_292.out _; (with_reducible repeat first | apply blk_drewN | apply blk_drew | apply blk_alloc); exact BK288.out)) : gb293 ≠ gb288)); have NB292_293 := Aside0.mk ((by rw [hg]; exact Nat.ne_of_lt (blk_lt (g := gb292) (o := .cells #[.int .i64 (wrap64 (a1_0 * t291)), .int .i64 (wrap64 (a1_2 * t291))] 22 (0, 0)) (by (with_reducible repeat first | apply blk_drewN | apply blk_drew | apply blk_alloc); refine blk_put (cs := #[.int .i64 (wrap64 (a1_0 * t291)), .int .i64 0]) ?_ 1 _ rfl; (with_reducible repeat first | apply blk_drewN | apply blk_drew | apply blk_alloc); refine blk_put (cs := #[.int .i64 0, .int .i64 0]) ?_ 0 _ rfl; (with_reducible repeat first | apply blk_drewN | apply blk_drew | apply blk_alloc); exact BK292.out)) : gb292 ≠ gb293)); have NB293_292 := Aside0.mk ((by rw [hg]; exact Nat.ne_of_gt (blk_lt (g := gb292) (o := .cells #[.int .i64 (wrap64 (a1_0 * t291)), .int .i64 (wrap64 (a1_2 * t291))] 22 (0, 0)) (by (with_reducible repeat first | apply blk_drewN | apply blk_drew | apply blk_alloc); refine blk_put (cs := #[.int .i64 (wrap64 (a1_0 * t291)), .int .i64 0]) ?_ 1 _ rfl; (with_reducible repeat first | apply blk_drewN | apply blk_drew | apply blk_alloc); refine blk_put (cs := #[.int .i64 0, .int .i64 0]) ?_ 0 _ rfl; (with_reducible repeat first | apply blk_drewN | apply blk_drew | apply blk_alloc); exact BK292.out)) : gb293 ≠ gb292)); replace BK286 := Aside0.mk (blk_below (g := gb286) (o := .cells #[.int .i64 a1_0, .int .i64 a1_1, .int .i64 a1_2, .int .i64 a1_3] 33 (0, 0)) (by (with_reducible repeat first | apply blk_drewN | apply blk_drew | apply blk_alloc); refine blk_far ?_ NB286_292.out _; (with_reducible repeat first | apply blk_drewN | apply blk_drew | apply blk_alloc); refine blk_far ?_ NB286_292.out _; (with_reducible repeat first | apply blk_drewN | apply blk_drew | apply blk_alloc); exact BK286.out) hb); replace BK287 := Aside0.mk (blk_below (g := gb287) (o := .cells #[.int .i64 a2_0, .int .i64 a2_1, .int .i64 a2_2] 28 (0, 0)) (by (with_reducible repeat first | apply blk_drewN | apply blk_drew | apply blk_alloc); refine blk_far ?_ NB287_292.out _; (with_reducible repeat first | apply blk_drewN | apply blk_drew | apply blk_alloc); refine blk_far ?_ NB287_292.out _; (with_reducible repeat first | apply blk_drewN | apply blk_drew | apply blk_alloc); exact BK287.out) hb); replace BK288 := Aside0.mk (blk_below (g := gb288) (o := .cells #[.int .i64 0, .int .i64 0, .int .i64 0] 28 (0, 0)) (by (with_reducible repeat first | apply blk_drewN | apply blk_drew | apply blk_alloc); refine blk_far ?_ NB288_292.out _; (with_reducible repeat first | apply blk_drewN | apply blk_drew | apply blk_alloc); refine blk_far ?_ NB288_292.out _; (with_reducible repeat first | apply blk_drewN | apply blk_drew | apply blk_alloc); exact BK288.out) hb); replace BK292 := Aside0.mk (blk_below (g := gb292) (o := .cells #[.int .i64 (wrap64 (a1_0 * t291)), .int .i64 (wrap64 (a1_2 * t291))] 22 (0, 0)) (by (with_reducible repeat first | apply blk_drewN | apply blk_drew | apply blk_alloc); refine blk_put (cs := #[.int .i64 (wrap64 (a1_0 * t291)), .int .i64 0]) ?_ 1 _ rfl; (with_reducible repeat first | apply blk_drewN | apply blk_drew | apply blk_alloc); refine blk_put (cs := #[.int .i64 0, .int .i64 0]) ?_ 0 _ rfl; (with_reducible repeat first | apply blk_drewN | apply blk_drew | apply blk_alloc); exact BK292.out) hb); replace HB := bt_ HB hb; clear hb hbox hg; have hnb25 := NB293_286.out; have hnc25 := NB286_293.out; have hnb26 := NB293_287.out; have hnc26 := NB287_293.out; have hnb27 := NB293_288.out; have hnc27 := NB288_293.out; have hnb28 := NB293_292.out; have hnc28 := NB292_293.out; have hcz29_0 : w24.cell? ⟨gb293, 0, none⟩ = some (.int .i64 0) := (blk_cell BK293.out 0).trans rfl; have hcz29_1 : w24.cell? ⟨gb293, 1, none⟩ = some (.int .i64 0) := (blk_cell BK293.out 1).trans rfl; have hfz29_0 := blk_frozen BK293.out 0; have hfz29_1 := blk_frozen BK293.out 1))
 have n0_ : Aside0 (((w24.setCell ⟨gb293, 0, none⟩ (.int .i64 (wrap64 ((wrap64 (a1_0 * t289)) + (wrap64 (a1_1 * t290)))))).setCell ⟨gb293, 1, none⟩ (.int .i64 (wrap64 ((wrap64 (a1_2 * t289)) + (wrap64 (a1_3 * t290)))))).heap[gb286]? = some (.cells #[.int .i64 a1_0, .int .i64 a1_1, .int .i64 a1_2, .int .i64 a1_3] 33 (0, 0))) := ⟨by (with_reducible repeat first | apply blk_drewN | apply blk_drew | apply blk_alloc); refine blk_far ?_ NB286_293.out _; (with_reducible repeat first | apply blk_drewN | apply blk_drew | apply blk_alloc); refine blk_far ?_ NB286_293.out _; (with_reducible repeat first | apply blk_drewN | apply blk_drew | apply blk_alloc); exact BK286.out⟩
 have n1_ : Aside0 (((w24.setCell ⟨gb293, 0, none⟩ (.int .i64 (wrap64 ((wrap64 (a1_0 * t289)) + (wrap64 (a1_1 * t290)))))).setCell ⟨gb293, 1, none⟩ (.int .i64 (wrap64 ((wrap64 (a1_2 * t289)) + (wrap64 (a1_3 * t290)))))).heap[gb287]? = some (.cells #[.int .i64 a2_0, .int .i64 a2_1, .int .i64 a2_2] 28 (0, 0))) := ⟨by (with_reducible repeat first | apply blk_drewN | apply blk_drew | apply blk_alloc); refine blk_far ?_ NB287_293.out _; (with_reducible repeat first | apply blk_drewN | apply blk_drew | apply blk_alloc); refine blk_far ?_ NB287_293.out _; (with_reducible repeat first | apply blk_drewN | apply blk_drew | apply blk_alloc); exact BK287.out⟩
 have n2_ : Aside0 (((w24.setCell ⟨gb293, 0, none⟩ (.int .i64 (wrap64 ((wrap64 (a1_0 * t289)) + (wrap64 (a1_1 * t290)))))).setCell ⟨gb293, 1, none⟩ (.int .i64 (wrap64 ((wrap64 (a1_2 * t289)) + (wrap64 (a1_3 * t290)))))).heap[gb288]? = some (.cells #[.int .i64 0, .int .i64 0, .int .i64 0] 28 (0, 0))) := ⟨by (with_reducible repeat first | apply blk_drewN | apply blk_drew | apply blk_alloc); refine blk_far ?_ NB288_293.out _; (with_reducible repeat first | apply blk_drewN | apply blk_drew | apply blk_alloc); refine blk_far ?_ NB288_293.out _; (with_reducible repeat first | apply blk_drewN | apply blk_drew | apply blk_alloc); exact BK288.out⟩
 have n3_ : Aside0 (((w24.setCell ⟨gb293, 0, none⟩ (.int .i64 (wrap64 ((wrap64 (a1_0 * t289)) + (wrap64 (a1_1 * t290)))))).setCell ⟨gb293, 1, none⟩ (.int .i64 (wrap64 ((wrap64 (a1_2 * t289)) + (wrap64 (a1_3 * t290)))))).heap[gb292]? = some (.cells #[.int .i64 (wrap64 (a1_0 * t291)), .int .i64 (wrap64 (a1_2 * t291))] 22 (0, 0))) := ⟨by (with_reducible repeat first | apply blk_drewN | apply blk_drew | apply blk_alloc); refine blk_far ?_ NB292_293.out _; (with_reducible repeat first | apply blk_drewN | apply blk_drew | apply blk_alloc); refine blk_far ?_ NB292_293.out _; (with_reducible repeat first | apply blk_drewN | apply blk_drew | apply blk_alloc); exact BK292.out⟩
 have n4_ : Aside0 (((w24.setCell ⟨gb293, 0, none⟩ (.int .i64 (wrap64 ((wrap64 (a1_0 * t289)) + (wrap64 (a1_1 * t290)))))).setCell ⟨gb293, 1, none⟩ (.int .i64 (wrap64 ((wrap64 (a1_2 * t289)) + (wrap64 (a1_3 * t290)))))).heap[gb293]? = some (.cells #[.int .i64 (wrap64 ((wrap64 (a1_0 * t289)) + (wrap64 (a1_1 * t290)))), .int .i64 (wrap64 ((wrap64 (a1_2 * t289)) + (wrap64 (a1_3 * t290))))] 22 (0, 0))) := ⟨by (with_reducible repeat first | apply blk_drewN | apply blk_drew | apply blk_alloc); refine blk_put (cs := #[.int .i64 (wrap64 ((wrap64 (a1_0 * t289)) + (wrap64 (a1_1 * t290)))), .int .i64 0]) ?_ 1 _ rfl; (with_reducible repeat first | apply blk_drewN | apply blk_drew | apply blk_alloc); refine blk_put (cs := #[.int .i64 0, .int .i64 0]) ?_ 0 _ rfl; (with_reducible repeat first | apply blk_drewN | apply blk_drew | apply blk_alloc); exact BK293.out⟩
 have n5_ : Aside0 (Below w.heap.size w ((w24.setCell ⟨gb293, 0, none⟩ (.int .i64 (wrap64 ((wrap64 (a1_0 * t289)) + (wrap64 (a1_1 * t290)))))).setCell ⟨gb293, 1, none⟩ (.int .i64 (wrap64 ((wrap64 (a1_2 * t289)) + (wrap64 (a1_3 * t290))))))) := bw_ HB
 (try clear BK286)
 (try clear BK287)
 (try clear BK288)
 (try clear BK292)
 (try clear BK293)
 (try clear HB)
 generalize ((w24.setCell ⟨gb293, 0, none⟩ (.int .i64 (wrap64 ((wrap64 (a1_0 * t289)) + (wrap64 (a1_1 * t290)))))).setCell ⟨gb293, 1, none⟩ (.int .i64 (wrap64 ((wrap64 (a1_2 * t289)) + (wrap64 (a1_3 * t290)))))) = w30 at n0_ n1_ n2_ n3_ n4_ n5_ ⊢
 have BK286 := n0_
 have BK287 := n1_
 have BK288 := n2_
 have BK292 := n3_
 have BK293 := n4_
 have HB := n5_
 clear n0_ n1_ n2_ n3_ n4_ n5_
 replace BK286 := Aside0.mk (blk_drew BK286.out)
 replace BK287 := Aside0.mk (blk_drew BK287.out)
 replace BK288 := Aside0.mk (blk_drew BK288.out)
 replace BK292 := Aside0.mk (blk_drew BK292.out)
 replace BK293 := Aside0.mk (blk_drew BK293.out)
 replace HB := Aside0.mk (below_drew1 HB.out)
 refine start_ (n := 9) (S := fun w' => w'.cell? ⟨gb293, 0, none⟩ = some (.int .i64 (wrap64 ((wrap64 (a1_0 * t289)) + (wrap64 (a1_1 * t290))))) ∧ w'.cell? ⟨gb293, 1, none⟩ = some (.int .i64 (wrap64 ((wrap64 (a1_2 * t289)) + (wrap64 (a1_3 * t290))))) ∧ w'.cell? ⟨gb292, 0, none⟩ = some (.int .i64 (wrap64 (a1_0 * t291))) ∧ w'.cell? ⟨gb292, 1, none⟩ = some (.int .i64 (wrap64 (a1_2 * t291)))) (ds := []) #[false, false, false, false, false, false, false, false, false] (by kernel_rfl) rfl rfl ⟨(blk_cell BK293.out 0).trans rfl, (blk_cell BK293.out 1).trans rfl, (blk_cell BK292.out 0).trans rfl, (blk_cell BK292.out 1).trans rfl⟩ (fun hHeld => ?_); refine with_tabW impl_moveBall.tab4 impl_moveBall.bits4 (fun HT_ HW_ => ?_)
 generalize w30.drew = w31 at BK286 BK287 BK288 BK292 BK293 HB hHeld ⊢
 refine pu_ HT_ 0 (some 58) #[true, false, false, false, false, false, false, false, false] ?_
 refine pu_ HT_ 1 (some 59) #[true, true, false, false, false, false, false, false, false] ?_
 refine pu_ HT_ 4 (some 62) #[true, true, false, false, true, false, false, false, false] ?_
 refine pu_ HT_ 5 (some 63) #[true, true, false, false, true, true, false, false, false] ?_
 refine ta_ HT_ HW_ 2 (some 60) #[true, true, true, false, true, true, false, false, false] hHeld ?_ (hy := by rintro w' ⟨s0, s1, s2, s3⟩; go_simp; with_reducible rfl)
 refine ta_ HT_ HW_ 6 (some 64) #[true, true, true, false, true, true, true, false, false] hHeld ?_ (hy := by rintro w' ⟨s0, s1, s2, s3⟩; go_simp; with_reducible rfl)
 refine one_ (i := 3) (N := some 61) #[true, true, true, true, true, true, true, false, false] rfl rfl (one_of HT_.out (by kernel_rfl)) (by decide) (fun K hK => ?_)
 refine goes_ Try.func81 (by kernel_rfl) rfl #[.int .i64 a0, .int .i64 (wrap64 ((wrap64 (a1_2 * t289)) + (wrap64 (a1_3 * t290))))] (by rfl) rfl rfl (by (try simp only [List.map_toArray, List.map_cons, List.map_nil]); first | done | rfl | (simp only [List.length_drop, List.length_take]; rfl)) ?_
 with_reducible refine (impl_valuation.calls k a0 (wrap64 ((wrap64 (a1_2 * t289)) + (wrap64 (a1_3 * t290)))) t294 _ A7.out).mono ?_
 rintro e w' ⟨rfl, ⟨nd, rfl⟩⟩
 refine ⟨_, rfl, ?_⟩
 refine hK.out _ _ ⟨(blk_cell BK293.out 0).trans rfl, (blk_cell BK293.out 1).trans rfl, (blk_cell BK292.out 0).trans rfl, (blk_cell BK292.out 1).trans rfl⟩ (fun hHeld => ?_)
 clear hK K
 refine norm_ (a' := ?_) ?_ ?_
 rotate_left
 ·show Act.put _ (some 61) _ = _
  simp only [Act.put, lstS, lstZ, lstC, i64_w, i32_w]
  rfl
 refine one_ (i := 7) (N := some 65) #[true, true, true, true, true, true, true, true, false] rfl rfl (one_of HT_.out (by kernel_rfl)) (by decide) (fun K hK => ?_)
 refine goes_ Try.func81 (by kernel_rfl) rfl #[.int .i64 a0, .int .i64 (wrap64 (a1_2 * t291))] (by rfl) rfl rfl (by (try simp only [List.map_toArray, List.map_cons, List.map_nil]); first | done | rfl | (simp only [List.length_drop, List.length_take]; rfl)) ?_
 with_reducible refine (impl_valuation.calls k a0 (wrap64 (a1_2 * t291)) t295 _ A8.out).mono ?_
 rintro e w' ⟨rfl, ⟨nd, rfl⟩⟩
 refine ⟨_, rfl, ?_⟩
 refine hK.out _ _ ⟨(blk_cell BK293.out 0).trans rfl, (blk_cell BK293.out 1).trans rfl, (blk_cell BK292.out 0).trans rfl, (blk_cell BK292.out 1).trans rfl⟩ (fun hHeld => ?_)
 clear hK K
 refine norm_ (a' := ?_) ?_ ?_
 rotate_left
 ·show Act.put _ (some 65) _ = _
  simp only [Act.put, lstS, lstZ, lstC, i64_w, i32_w]
  rfl
 refine pu_ HT_ 8 (some 66) #[true, true, true, true, true, true, true, true, true] ?_
 refine done_ (done_of HT_.out (by kernel_rfl)) ?_
 go_upto_if 66 with (fail)
 go_cut [] (fun wc => ∃ (kq : Nat) (x294000_8 : Int) (x294001_8 : Int), Aside0 (impl_moveBall.j0 kq a0 a1_0 a1_1 a1_2 a1_3 a2_0 a2_1 a2_2 x294000_8 x294001_8 = some (r1, r2, r3, r4)) ∧ Aside0 (kq ≤ k) ∧ Aside0 (wc.heap[gb286]? = some (.cells #[.int .i64 a1_0, .int .i64 a1_1, .int .i64 a1_2, .int .i64 a1_3] 33 (0, 0))) ∧ Aside0 (wc.heap[gb287]? = some (.cells #[.int .i64 a2_0, .int .i64 a2_1, .int .i64 a2_2] 28 (0, 0))) ∧ Aside0 (wc.heap[gb288]? = some (.cells #[.int .i64 0, .int .i64 0, .int .i64 0] 28 (0, 0))) ∧ Aside0 (wc.heap[gb292]? = some (.cells #[.int .i64 (wrap64 (a1_0 * t291)), .int .i64 (wrap64 (a1_2 * t291))] 22 (0, 0))) ∧ Aside0 (wc.heap[gb293]? = some (.cells #[.int .i64 x294000_8, .int .i64 x294001_8] 22 (0, 0))) ∧ Aside0 (Below w.heap.size w wc))
 case first =>
  have H := HC9.out
  clear HC9
  by_cases c32 : t294 > t295
  ·rw [if_pos c32] at H
   have c32b0 : decide (t295 < t294) = true := decide_eq_true c32
   clear c32
   (first | rw [c32b0] | (simp only [i64_w, i32_w]; rw [c32b0]) | skip)
   have H' := Aside0.mk H
   clear H
   have hnb33 := NB292_286.out
   have hnc33 := NB286_292.out
   have hnb34 := NB292_287.out
   have hnc34 := NB287_292.out
   have hnb35 := NB292_288.out
   have hnc35 := NB288_292.out
   have hnb36 := NB292_293.out
   have hnc36 := NB293_292.out
   have hcz37_0 : w31.cell? ⟨gb292, 0, none⟩ = some (.int .i64 (wrap64 (a1_0 * t291))) := (blk_cell BK292.out 0).trans rfl
   have hcz37_1 : w31.cell? ⟨gb292, 1, none⟩ = some (.int .i64 (wrap64 (a1_2 * t291))) := (blk_cell BK292.out 1).trans rfl
   have hfz37_0 := blk_frozen BK292.out 0
   have hfz37_1 := blk_frozen BK292.out 1
   have hnb38 := NB293_286.out
   have hnc38 := NB286_293.out
   have hnb39 := NB293_287.out
   have hnc39 := NB287_293.out
   have hnb40 := NB293_288.out
   have hnc40 := NB288_293.out
   have hcz41_0 : w31.cell? ⟨gb293, 0, none⟩ = some (.int .i64 (wrap64 ((wrap64 (a1_0 * t289)) + (wrap64 (a1_1 * t290))))) := (blk_cell BK293.out 0).trans rfl
   have hcz41_1 : w31.cell? ⟨gb293, 1, none⟩ = some (.int .i64 (wrap64 ((wrap64 (a1_2 * t289)) + (wrap64 (a1_3 * t290))))) := (blk_cell BK293.out 1).trans rfl
   have hfz41_0 := blk_frozen BK293.out 0
   have hfz41_1 := blk_frozen BK293.out 1
   go_wp2
   go_meet
   case rel => exact ⟨_, (wrap64 (a1_0 * t291)), (wrap64 (a1_2 * t291)), H', ⟨by first | omega | exact Nat.le_refl _⟩, ⟨by (with_reducible repeat first | apply blk_drewN | apply blk_drew | apply blk_alloc); refine blk_far ?_ NB286_293.out _; (with_reducible repeat first | apply blk_drewN | apply blk_drew | apply blk_alloc); refine blk_far ?_ NB286_293.out _; (with_reducible repeat first | apply blk_drewN | apply blk_drew | apply blk_alloc); exact BK286.out⟩, ⟨by (with_reducible repeat first | apply blk_drewN | apply blk_drew | apply blk_alloc); refine blk_far ?_ NB287_293.out _; (with_reducible repeat first | apply blk_drewN | apply blk_drew | apply blk_alloc); refine blk_far ?_ NB287_293.out _; (with_reducible repeat first | apply blk_drewN | apply blk_drew | apply blk_alloc); exact BK287.out⟩, ⟨by (with_reducible repeat first | apply blk_drewN | apply blk_drew | apply blk_alloc); refine blk_far ?_ NB288_293.out _; (with_reducible repeat first | apply blk_drewN | apply blk_drew | apply blk_alloc); refine blk_far ?_ NB288_293.out _; (with_reducible repeat first | apply blk_drewN | apply blk_drew | apply blk_alloc); exact BK288.out⟩, ⟨by (with_reducible repeat first | apply blk_drewN | apply blk_drew | apply blk_alloc); refine blk_far ?_ NB292_293.out _; (with_reducible repeat first | apply blk_drewN | apply blk_drew | apply blk_alloc); refine blk_far ?_ NB292_293.out _; (with_reducible repeat first | apply blk_drewN | apply blk_drew | apply blk_alloc); exact BK292.out⟩, ⟨by (with_reducible repeat first | apply blk_drewN | apply blk_drew | apply blk_alloc); refine blk_put (cs := #[.int .i64 (wrap64 (a1_0 * t291)), .int .i64 (wrap64 ((wrap64 (a1_2 * t289)) + (wrap64 (a1_3 * t290))))]) ?_ 1 _ rfl; (with_reducible repeat first | apply blk_drewN | apply blk_drew | apply blk_alloc); refine blk_put (cs := #[.int .i64 (wrap64 ((wrap64 (a1_0 * t289)) + (wrap64 (a1_1 * t290)))), .int .i64 (wrap64 ((wrap64 (a1_2 * t289)) + (wrap64 (a1_3 * t290))))]) ?_ 0 _ rfl; (with_reducible repeat first | apply blk_drewN | apply blk_drew | apply blk_alloc); exact BK293.out⟩, bw_ HB⟩
  ·rw [if_neg c32] at H
   have c32b0 : decide (t295 < t294) = false := decide_eq_false c32
   clear c32
   (first | rw [c32b0] | (simp only [i64_w, i32_w]; rw [c32b0]) | skip)
   have H' := Aside0.mk H
   clear H
   go_wp2
   go_meet
   case rel => exact ⟨_, (wrap64 ((wrap64 (a1_0 * t289)) + (wrap64 (a1_1 * t290)))), (wrap64 ((wrap64 (a1_2 * t289)) + (wrap64 (a1_3 * t290)))), H', ⟨by first | omega | exact Nat.le_refl _⟩, bl_ BK286, bl_ BK287, bl_ BK288, bl_ BK292, bl_ BK293, bw_ HB⟩
 case rest =>
  clear HC9
  try clear c1
  try clear c2
  try clear p2
  try clear c3
  try clear c4
  try clear c5
  try clear p6
  try clear c7
  try clear c8
  try clear c15
  try clear c16
  try clear c19
  try clear c20
  try clear c21
  try clear c25
  try clear c26
  try clear c27
  try clear c28
  try clear c32
  try clear c32b0
  try clear c33
  try clear c34
  try clear c35
  try clear c36
  try clear c38
  try clear c39
  try clear c40
  try clear hcz17_0
  try clear hcz17_1
  try clear hcz17_2
  try clear hcz17_3
  try clear hcz22_0
  try clear hcz22_1
  try clear hcz23_0
  try clear hcz23_1
  try clear hcz23_2
  try clear hcz23_3
  try clear hcz29_0
  try clear hcz29_1
  try clear hcz37_0
  try clear hcz37_1
  try clear hcz41_0
  try clear hcz41_1
  try clear hfz17_0
  try clear hfz17_1
  try clear hfz17_2
  try clear hfz17_3
  try clear hfz22_0
  try clear hfz22_1
  try clear hfz23_0
  try clear hfz23_1
  try clear hfz23_2
  try clear hfz23_3
  try clear hfz29_0
  try clear hfz29_1
  try clear hfz37_0
  try clear hfz37_1
  try clear hfz41_0
  try clear hfz41_1
  obtain ⟨kq, x294000_8, x294001_8, HA, HJ8, BK286, BK287, BK288, BK292, BK293, HB⟩ := hcut
  cases kq with
  | zero => exact absurd HA.out (by simp [impl_moveBall.j0])
  | succ kj8 =>
   have H := HA.out
   clear HA
   simp only [impl_moveBall.j0] at H
   replace H := Option.bind_eq_some_iff.mp H
   obtain ⟨t296, A420, H⟩ := H
   have A42 := Aside0.mk A420
   clear A420
   replace H := Option.bind_eq_some_iff.mp H
   obtain ⟨t297, A430, H⟩ := H
   have A43 := Aside0.mk A430
   clear A430
   replace H := Option.bind_eq_some_iff.mp H
   obtain ⟨t298, A440, H⟩ := H
   have A44 := Aside0.mk A440
   clear A440
   replace H := Option.bind_eq_some_iff.mp H
   obtain ⟨⟨t299, t300, t301, t302⟩, A450, H⟩ := H
   have A45 := Aside0.mk A450
   clear A450
   simp only [Option.some.injEq, Prod.mk.injEq] at H
   obtain ⟨rfl, rfl, rfl, rfl⟩ := H
   try go_wp2
   replace BK286 := Aside0.mk (blk_drew BK286.out)
   replace BK287 := Aside0.mk (blk_drew BK287.out)
   replace BK288 := Aside0.mk (blk_drew BK288.out)
   replace BK292 := Aside0.mk (blk_drew BK292.out)
   replace BK293 := Aside0.mk (blk_drew BK293.out)
   replace HB := Aside0.mk (below_drew1 HB.out)
   refine start_ (n := 15) (S := fun w' => w'.cell? ⟨gb286, 0, none⟩ = some (.int .i64 a1_0) ∧ w'.cell? ⟨gb286, 1, none⟩ = some (.int .i64 a1_1) ∧ w'.cell? ⟨gb286, 2, none⟩ = some (.int .i64 a1_2) ∧ w'.cell? ⟨gb286, 3, none⟩ = some (.int .i64 a1_3) ∧ w'.cell? ⟨gb287, 0, none⟩ = some (.int .i64 a2_0) ∧ w'.cell? ⟨gb287, 1, none⟩ = some (.int .i64 a2_1) ∧ w'.cell? ⟨gb287, 2, none⟩ = some (.int .i64 a2_2) ∧ w'.cell? ⟨gb293, 0, none⟩ = some (.int .i64 x294000_8) ∧ w'.cell? ⟨gb293, 1, none⟩ = some (.int .i64 x294001_8)) (ds := []) #[false, false, false, false, false, false, false, false, false, false, false, false, false, false, false] (by kernel_rfl) rfl rfl ⟨(blk_cell BK286.out 0).trans rfl, (blk_cell BK286.out 1).trans rfl, (blk_cell BK286.out 2).trans rfl, (blk_cell BK286.out 3).trans rfl, (blk_cell BK287.out 0).trans rfl, (blk_cell BK287.out 1).trans rfl, (blk_cell BK287.out 2).trans rfl, (blk_cell BK293.out 0).trans rfl, (blk_cell BK293.out 1).trans rfl⟩ (fun hHeld => ?_); refine with_tabW impl_moveBall.tab6 impl_moveBall.bits6 (fun HT_ HW_ => ?_)
   generalize wc.drew = w46 at BK286 BK287 BK288 BK292 BK293 HB hHeld ⊢
   refine pu_ HT_ 0 (some 68) #[true, false, false, false, false, false, false, false, false, false, false, false, false, false, false] ?_
   refine pu_ HT_ 4 (some 72) #[true, false, false, false, true, false, false, false, false, false, false, false, false, false, false] ?_
   refine pu_ HT_ 8 (some 76) #[true, false, false, false, true, false, false, false, true, false, false, false, false, false, false] ?_
   refine pu_ HT_ 9 (some 77) #[true, false, false, false, true, false, false, false, true, true, false, false, false, false, false] ?_
   refine ta_ HT_ HW_ 1 (some 69) #[true, true, false, false, true, false, false, false, true, true, false, false, false, false, false] hHeld ?_ (hy := by rintro w' ⟨s0, s1, s2, s3, s4, s5, s6, s7, s8⟩; go_simp; with_reducible rfl)
   refine ta_ HT_ HW_ 5 (some 73) #[true, true, false, false, true, true, false, false, true, true, false, false, false, false, false] hHeld ?_ (hy := by rintro w' ⟨s0, s1, s2, s3, s4, s5, s6, s7, s8⟩; go_simp; with_reducible rfl)
   refine ta_ HT_ HW_ 10 (some 78) #[true, true, false, false, true, true, false, false, true, true, true, false, false, false, false] hHeld ?_ (hy := by rintro w' ⟨s0, s1, s2, s3, s4, s5, s6, s7, s8⟩; go_simp; with_reducible rfl)
   refine one_ (i := 2) (N := some 70) #[true, true, true, false, true, true, false, false, true, true, true, false, false, false, false] rfl rfl (one_of HT_.out (by kernel_rfl)) (by decide) (fun K hK => ?_)
   refine goes_ Try.func78 (by kernel_rfl) rfl #[.agg #[.int .i64 a1_0, .int .i64 a1_1, .int .i64 a1_2, .int .i64 a1_3]] (by rfl) rfl rfl (by (try simp only [List.map_toArray, List.map_cons, List.map_nil]); first | done | rfl | (simp only [List.length_drop, List.length_take]; rfl)) ?_
   with_reducible refine (impl_determinant.calls a1_0 a1_1 a1_2 a1_3 t296 _ A42.out).mono ?_
   rintro e w47 ⟨rfl, hb⟩
   refine ⟨_, rfl, ?_⟩
   replace BK286 := bb_ BK286 hb
   replace BK287 := bb_ BK287 hb
   replace BK288 := bb_ BK288 hb
   replace BK292 := bb_ BK292 hb
   replace BK293 := bb_ BK293 hb
   replace HB := bt_ HB hb
   (try clear hb)
   (try clear hb2)
   (try clear hk)
   (try clear hi)
   refine hK.out _ _ ⟨(blk_cell BK286.out 0).trans rfl, (blk_cell BK286.out 1).trans rfl, (blk_cell BK286.out 2).trans rfl, (blk_cell BK286.out 3).trans rfl, (blk_cell BK287.out 0).trans rfl, (blk_cell BK287.out 1).trans rfl, (blk_cell BK287.out 2).trans rfl, (blk_cell BK293.out 0).trans rfl, (blk_cell BK293.out 1).trans rfl⟩ (fun hHeld => ?_)
   clear hK K
   refine norm_ (a' := ?_) ?_ ?_
   rotate_left
   ·show Act.put _ (some 70) _ = _
    simp only [Act.put, lstS, lstZ, lstC, i64_w, i32_w]
    rfl
   refine one_ (i := 3) (N := some 71) #[true, true, true, true, true, true, false, false, true, true, true, false, false, false, false] rfl rfl (one_of HT_.out (by kernel_rfl)) (by decide) (fun K hK => ?_)
   refine goes_ Try.func81 (by kernel_rfl) rfl #[.int .i64 a0, .int .i64 t296] (by rfl) rfl rfl (by (try simp only [List.map_toArray, List.map_cons, List.map_nil]); first | done | rfl | (simp only [List.length_drop, List.length_take]; rfl)) ?_
   with_reducible refine (impl_valuation.calls kj8 a0 t296 t297 _ A43.out).mono ?_
   rintro e w' ⟨rfl, ⟨nd, rfl⟩⟩
   refine ⟨_, rfl, ?_⟩
   refine hK.out _ _ ⟨(blk_cell BK286.out 0).trans rfl, (blk_cell BK286.out 1).trans rfl, (blk_cell BK286.out 2).trans rfl, (blk_cell BK286.out 3).trans rfl, (blk_cell BK287.out 0).trans rfl, (blk_cell BK287.out 1).trans rfl, (blk_cell BK287.out 2).trans rfl, (blk_cell BK293.out 0).trans rfl, (blk_cell BK293.out 1).trans rfl⟩ (fun hHeld => ?_)
   clear hK K
   refine norm_ (a' := ?_) ?_ ?_
   rotate_left
   ·show Act.put _ (some 71) _ = _
    simp only [Act.put, lstS, lstZ, lstC, i64_w, i32_w]
    rfl
   refine pu_ HT_ 6 (some 74) #[true, true, true, true, true, true, true, false, true, true, true, false, false, false, false] ?_
   refine pu_ HT_ 7 (some 75) #[true, true, true, true, true, true, true, true, true, true, true, false, false, false, false] ?_
   refine one_ (i := 11) (N := some 79) #[true, true, true, true, true, true, true, true, true, true, true, true, false, false, false] rfl rfl (one_of HT_.out (by kernel_rfl)) (by decide) (fun K hK => ?_)
   refine goes_ Try.func81 (by kernel_rfl) rfl #[.int .i64 a0, .int .i64 x294001_8] (by rfl) rfl rfl (by (try simp only [List.map_toArray, List.map_cons, List.map_nil]); first | done | rfl | (simp only [List.length_drop, List.length_take]; rfl)) ?_
   with_reducible refine (impl_valuation.calls kj8 a0 x294001_8 t298 _ A44.out).mono ?_
   rintro e w' ⟨rfl, ⟨nd, rfl⟩⟩
   refine ⟨_, rfl, ?_⟩
   refine hK.out _ _ ⟨(blk_cell BK286.out 0).trans rfl, (blk_cell BK286.out 1).trans rfl, (blk_cell BK286.out 2).trans rfl, (blk_cell BK286.out 3).trans rfl, (blk_cell BK287.out 0).trans rfl, (blk_cell BK287.out 1).trans rfl, (blk_cell BK287.out 2).trans rfl, (blk_cell BK293.out 0).trans rfl, (blk_cell BK293.out 1).trans rfl⟩ (fun hHeld => ?_)
   clear hK K
   refine norm_ (a' := ?_) ?_ ?_
   rotate_left
   ·show Act.put _ (some 79) _ = _
    simp only [Act.put, lstS, lstZ, lstC, i64_w, i32_w]
    rfl
   refine pu_ HT_ 12 (some 80) #[true, true, true, true, true, true, true, true, true, true, true, true, true, false, false] ?_
   refine pu_ HT_ 13 (some 81) #[true, true, true, true, true, true, true, true, true, true, true, true, true, true, false] ?_
   refine pu_ HT_ 14 (some 13) #[true, true, true, true, true, true, true, true, true, true, true, true, true, true, true] ?_
   refine done_ (done_of HT_.out (by kernel_rfl)) ?_
   have hnb48 := NB293_286.out
   have hnc48 := NB286_293.out
   have hnb49 := NB293_287.out
   have hnc49 := NB287_293.out
   have hnb50 := NB293_288.out
   have hnc50 := NB288_293.out
   have hnb51 := NB293_292.out
   have hnc51 := NB292_293.out
   have hcz52_0 : w47.cell? ⟨gb293, 0, none⟩ = some (.int .i64 x294000_8) := (blk_cell BK293.out 0).trans rfl
   have hcz52_1 : w47.cell? ⟨gb293, 1, none⟩ = some (.int .i64 x294001_8) := (blk_cell BK293.out 1).trans rfl
   have hfz52_0 := blk_frozen BK293.out 0
   have hfz52_1 := blk_frozen BK293.out 1
   try go_wp2_with (first | ((with_reducible refine gate_callee (f := 82) rfl ?_); refine goesL_ (some 88) rfl rfl Try.func82 (by kernel_rfl) rfl #[.int .i64 a0, .int .i64 x294000_8, .int .i64 x294001_8, .int .i64 (wrap64 ((wrap64 ((wrap64 (t297 + a2_0)) + 12)) - (wrap64 (2 * t298))))] rfl (by (try simp only [List.map_toArray, List.map_cons, List.map_nil]); first | done | rfl | (simp only [List.length_drop, List.length_take]; rfl)) ?_; (with_reducible refine (impl_ballAt.calls kj8 a0 x294000_8 x294001_8 (wrap64 ((wrap64 ((wrap64 (t297 + a2_0)) + 12)) - (wrap64 (2 * t298)))) t299 t300 t301 t302 _ A45.out).mono ?_); rintro e w53 ⟨rfl, hb⟩; refine ⟨_, rfl, ?_⟩; replace BK286 := bb_ BK286 hb; replace BK287 := bb_ BK287 hb; replace BK288 := bb_ BK288 hb; replace BK292 := bb_ BK292 hb; replace BK293 := bb_ BK293 hb; replace HB := bt_ HB hb; (try clear hb); (try clear hb2); (try clear hk); (try clear hi); have hnb54 := NB288_286.out; have hnc54 := NB286_288.out; have hnb55 := NB288_287.out; have hnc55 := NB287_288.out; have hnb56 := NB288_292.out; have hnc56 := NB292_288.out; have hcz57_0 : w53.cell? ⟨gb288, 0, none⟩ = some (.int .i64 0) := (blk_cell BK288.out 0).trans rfl; have hcz57_1 : w53.cell? ⟨gb288, 1, none⟩ = some (.int .i64 0) := (blk_cell BK288.out 1).trans rfl; have hcz57_2 : w53.cell? ⟨gb288, 2, none⟩ = some (.int .i64 0) := (blk_cell BK288.out 2).trans rfl; have hfz57_0 := blk_frozen BK288.out 0; have hfz57_1 := blk_frozen BK288.out 1; have hfz57_2 := blk_frozen BK288.out 2))
   refine bodyPost_ret (results_ct rfl _ _ gb288 28 #[.int .i64 t299, .int .i64 t300, .int .i64 t301] (0, 0) _ rfl (by (with_reducible repeat first | apply blk_drewN | apply blk_drew | apply blk_alloc); refine blk_put (cs := #[.int .i64 t299, .int .i64 t300, .int .i64 0]) ?_ 2 _ rfl; (with_reducible repeat first | apply blk_drewN | apply blk_drew | apply blk_alloc); refine blk_put (cs := #[.int .i64 t299, .int .i64 0, .int .i64 0]) ?_ 1 _ rfl; (with_reducible repeat first | apply blk_drewN | apply blk_drew | apply blk_alloc); refine blk_put (cs := #[.int .i64 0, .int .i64 0, .int .i64 0]) ?_ 0 _ rfl; (with_reducible repeat first | apply blk_drewN | apply blk_drew | apply blk_alloc); exact BK288.out) Try.underlying28 rfl (by kernel_rfl)) rfl ?_
   exact ⟨by first | rfl | (simp [errW_none, errW_some] <;> rfl) | (simp [*, errW_none, errW_some] <;> rfl), by repeat (first | (with_reducible first | exact HB.out | apply below_alloc | apply pw_below_drewN | apply below_drew1 | refine below_set ?_ GE286.out | refine below_set ?_ GE287.out | refine below_set ?_ GE288.out | refine below_set ?_ GE292.out | refine below_set ?_ GE293.out) | exact HB.out)⟩
end Go.Proofs.Ytojpcbbmbnmchaa.QC
